/- The machine side of these statements, function by function: what each Go function answers (as a Lean function), and that it does. Written by a program (mp.py) for this claim. -/
import Derived.Test.YtcenmlpfbpogoaaDoorPx0
import Derived.Test.YtcenmlpfbpogoaaDoorPx1
import Derived.Test.YtcenmlpfbpogoaaDoorPx6
import Derived.Test.YtcenmlpfbpogoaaDoorPx14
import Derived.Test.YtcenmlpfbpogoaaDoorPx15
import Derived.Test.YtcenmlpfbpogoaaDoorPx16
namespace Go.Proofs.YtcenmlpfbpogoaaDoor.P
open Go.RowKit Go.Proofs.YtcenmlpfbpogoaaDoorW.PrintWords Go.Proofs.YtcenmlpfbpogoaaDoorW.PrintLast Go.Proofs.YtcenmlpfbpogoaaDoorW.PrintMore
attribute [local go_sem] max2_int min2_int max_two min_two max_three min_three max_four min_four   -- for this text's walks alone
set_option linter.unusedVariables false
set_option linter.unusedSimpArgs false

/-! ### laws_FnConfCheck: function 4 -/
mutual
def laws_FnConfCheck.j0 : Nat → Int → Bool → Int → Int → List (List (S107)) → List Int → List Int → List Int → List Int → List Int → List (S78) → Int → Option (Bool)
 | 0, _, _, _, _, _, _, _, _, _, _, _, _ => none
 | k + 1, x4, x29, x461000, x461001, x461002, x461003, x461004, x461005, x461006, x461007, x461008, x461009 => if x29 = true then (none) else (laws_FnConfCheck.l0 k x4 0 x461000 x461001 x461002 x461003 x461004 x461005 x461006 x461007 x461008 x461009)
def laws_FnConfCheck.l0 : Nat → Int → Int → Int → Int → List (List (S107)) → List Int → List Int → List Int → List Int → List Int → List (S78) → Int → Option (Bool)
 | 0, _, _, _, _, _, _, _, _, _, _, _, _ => none
 | k + 1, x4, x6, x461000, x461001, x461002, x461003, x461004, x461005, x461006, x461007, x461008, x461009 => if x6 < (x461005.length : Int) then (laws_FnConfCheck.j2 k x4 x6 (x4 == 0) x461000 x461001 x461002 x461003 x461004 x461005 x461006 x461007 x461008 x461009) else (laws_FnConfCheck.j2 k x4 x6 false x461000 x461001 x461002 x461003 x461004 x461005 x461006 x461007 x461008 x461009)
def laws_FnConfCheck.j2 : Nat → Int → Int → Bool → Int → Int → List (List (S107)) → List Int → List Int → List Int → List Int → List Int → List (S78) → Int → Option (Bool)
 | 0, _, _, _, _, _, _, _, _, _, _, _, _, _ => none
 | k + 1, x4, x6, x38, x461000, x461001, x461002, x461003, x461004, x461005, x461006, x461007, x461008, x461009 => if x38 = true then ((impl_ConfTurn.f k x461000 x461001 x461002 x461003 x461004 x461005 x461006 x461007 x461008 x461009 0 x6).bind fun t466 => (if 0 ≤ x6 then (if x6 < (x461005.length : Int) then (if t466 = (rd x461005 x6) then ((impl_ConfTurn.f k x461000 x461001 x461002 x461003 x461004 x461005 x461006 x461007 x461008 x461009 1 x6).bind fun t468 => (if x6 < (x461006.length : Int) then (if t468 = (rd x461006 x6) then ((laws_skIn.f (rd x461005 x6) (-1) (wrap64 ((x461002.length : Int) - 1))).bind fun t471 => (if t471 = true then (laws_FnConfCheck.l0 k x4 (wrap64 (x6 + 1)) x461000 x461001 x461002 x461003 x461004 x461005 x461006 x461007 x461008 x461009) else (none))) else (none)) else (none))) else (none)) else (none)) else (none))) else (some true)
end
def laws_FnConfCheck.f (k : Nat) (l0 : List Int) : Option (Bool) := if (l0.length : Int) > 1048576 then (some true) else ((spec_DrawConfCheck.f k l0).bind fun bt436 => ((impl_ConfCheck.f k bt436.1 bt436.2.1 bt436.2.2.1 bt436.2.2.2.1 bt436.2.2.2.2.1 bt436.2.2.2.2.2.1 bt436.2.2.2.2.2.2.1 bt436.2.2.2.2.2.2.2.1 bt436.2.2.2.2.2.2.2.2.1 bt436.2.2.2.2.2.2.2.2.2).bind fun t461 => ((spec_ConfCheck.f k bt436.1 bt436.2.1 bt436.2.2.1 bt436.2.2.2.1 bt436.2.2.2.2.1 bt436.2.2.2.2.2.1 bt436.2.2.2.2.2.2.1 bt436.2.2.2.2.2.2.2.1 bt436.2.2.2.2.2.2.2.2.1 bt436.2.2.2.2.2.2.2.2.2).bind fun t463 => (if t461 = t463 then ((impl_ConfCheck.f k (-1) bt436.2.1 bt436.2.2.1 bt436.2.2.2.1 bt436.2.2.2.2.1 bt436.2.2.2.2.2.1 bt436.2.2.2.2.2.2.1 bt436.2.2.2.2.2.2.2.1 bt436.2.2.2.2.2.2.2.2.1 bt436.2.2.2.2.2.2.2.2.2).bind fun t464 => (if t464 = 1 then ((laws_skIn.f t461 0 8).bind fun t465 => (laws_FnConfCheck.j0 k t461 (!t465) bt436.1 bt436.2.1 bt436.2.2.1 bt436.2.2.2.1 bt436.2.2.2.2.1 bt436.2.2.2.2.2.1 bt436.2.2.2.2.2.2.1 bt436.2.2.2.2.2.2.2.1 bt436.2.2.2.2.2.2.2.2.1 bt436.2.2.2.2.2.2.2.2.2)) else (laws_FnConfCheck.j0 k t461 true bt436.1 bt436.2.1 bt436.2.2.1 bt436.2.2.2.1 bt436.2.2.2.2.1 bt436.2.2.2.2.2.1 bt436.2.2.2.2.2.2.1 bt436.2.2.2.2.2.2.2.1 bt436.2.2.2.2.2.2.2.2.1 bt436.2.2.2.2.2.2.2.2.2))) else (laws_FnConfCheck.j0 k t461 true bt436.1 bt436.2.1 bt436.2.2.1 bt436.2.2.2.1 bt436.2.2.2.2.1 bt436.2.2.2.2.2.1 bt436.2.2.2.2.2.2.1 bt436.2.2.2.2.2.2.2.1 bt436.2.2.2.2.2.2.2.2.1 bt436.2.2.2.2.2.2.2.2.2)))))
theorem laws_FnConfCheck.mono_l : ∀ k, (∀ y0 y1 y2 y3 y4 y5 y6 y7 y8 y9 y10 y11, LeO (laws_FnConfCheck.j0 k y0 y1 y2 y3 y4 y5 y6 y7 y8 y9 y10 y11) (laws_FnConfCheck.j0 (k + 1) y0 y1 y2 y3 y4 y5 y6 y7 y8 y9 y10 y11)) ∧ (∀ y0 y1 y2 y3 y4 y5 y6 y7 y8 y9 y10 y11, LeO (laws_FnConfCheck.l0 k y0 y1 y2 y3 y4 y5 y6 y7 y8 y9 y10 y11) (laws_FnConfCheck.l0 (k + 1) y0 y1 y2 y3 y4 y5 y6 y7 y8 y9 y10 y11)) ∧ (∀ y0 y1 y2 y3 y4 y5 y6 y7 y8 y9 y10 y11 y12, LeO (laws_FnConfCheck.j2 k y0 y1 y2 y3 y4 y5 y6 y7 y8 y9 y10 y11 y12) (laws_FnConfCheck.j2 (k + 1) y0 y1 y2 y3 y4 y5 y6 y7 y8 y9 y10 y11 y12))
 | 0 => ⟨fun _ _ _ _ _ _ _ _ _ _ _ _ r h => by simp [laws_FnConfCheck.j0] at h, fun _ _ _ _ _ _ _ _ _ _ _ _ r h => by simp [laws_FnConfCheck.l0] at h, fun _ _ _ _ _ _ _ _ _ _ _ _ _ r h => by simp [laws_FnConfCheck.j2] at h⟩
 | k + 1 => by
  obtain ⟨ih0, ih1, ih2⟩ := laws_FnConfCheck.mono_l k
  refine ⟨?_, ?_, ?_⟩
  ·intro y0 y1 y2 y3 y4 y5 y6 y7 y8 y9 y10 y11
   unfold laws_FnConfCheck.j0
   repeat' first
   | (with_reducible exact ih0 _ _ _ _ _ _ _ _ _ _ _ _)
   | (with_reducible exact ih1 _ _ _ _ _ _ _ _ _ _ _ _)
   | (with_reducible exact ih2 _ _ _ _ _ _ _ _ _ _ _ _ _)
   | (with_reducible exact impl_ConfCheck.mono _ _ _ _ _ _ _ _ _ _ _)
   | (with_reducible exact impl_ConfTurn.mono _ _ _ _ _ _ _ _ _ _ _ _ _)
   | (with_reducible exact spec_ConfCheck.mono _ _ _ _ _ _ _ _ _ _ _)
   | (with_reducible exact spec_DrawConfCheck.mono _ _)
   | (with_reducible exact LeO.refl _)
   | (with_reducible exact LeO.none _)
   | (with_reducible refine LeO.ite ?_ ?_)
   | (with_reducible refine LeO.bind ?_ (fun _ => ?_))
   | exact ih0 _ _ _ _ _ _ _ _ _ _ _ _
   | exact ih1 _ _ _ _ _ _ _ _ _ _ _ _
   | exact ih2 _ _ _ _ _ _ _ _ _ _ _ _ _
   | exact impl_ConfCheck.mono _ _ _ _ _ _ _ _ _ _ _
   | exact impl_ConfTurn.mono _ _ _ _ _ _ _ _ _ _ _ _ _
   | exact spec_ConfCheck.mono _ _ _ _ _ _ _ _ _ _ _
   | exact spec_DrawConfCheck.mono _ _
   | exact LeO.none _
   | refine LeO.ite ?_ ?_
   | refine LeO.bind ?_ (fun _ => ?_)
  ·intro y0 y1 y2 y3 y4 y5 y6 y7 y8 y9 y10 y11
   unfold laws_FnConfCheck.l0
   repeat' first
   | (with_reducible exact ih0 _ _ _ _ _ _ _ _ _ _ _ _)
   | (with_reducible exact ih1 _ _ _ _ _ _ _ _ _ _ _ _)
   | (with_reducible exact ih2 _ _ _ _ _ _ _ _ _ _ _ _ _)
   | (with_reducible exact impl_ConfCheck.mono _ _ _ _ _ _ _ _ _ _ _)
   | (with_reducible exact impl_ConfTurn.mono _ _ _ _ _ _ _ _ _ _ _ _ _)
   | (with_reducible exact spec_ConfCheck.mono _ _ _ _ _ _ _ _ _ _ _)
   | (with_reducible exact spec_DrawConfCheck.mono _ _)
   | (with_reducible exact LeO.refl _)
   | (with_reducible exact LeO.none _)
   | (with_reducible refine LeO.ite ?_ ?_)
   | (with_reducible refine LeO.bind ?_ (fun _ => ?_))
   | exact ih0 _ _ _ _ _ _ _ _ _ _ _ _
   | exact ih1 _ _ _ _ _ _ _ _ _ _ _ _
   | exact ih2 _ _ _ _ _ _ _ _ _ _ _ _ _
   | exact impl_ConfCheck.mono _ _ _ _ _ _ _ _ _ _ _
   | exact impl_ConfTurn.mono _ _ _ _ _ _ _ _ _ _ _ _ _
   | exact spec_ConfCheck.mono _ _ _ _ _ _ _ _ _ _ _
   | exact spec_DrawConfCheck.mono _ _
   | exact LeO.none _
   | refine LeO.ite ?_ ?_
   | refine LeO.bind ?_ (fun _ => ?_)
  ·intro y0 y1 y2 y3 y4 y5 y6 y7 y8 y9 y10 y11 y12
   unfold laws_FnConfCheck.j2
   repeat' first
   | (with_reducible exact ih0 _ _ _ _ _ _ _ _ _ _ _ _)
   | (with_reducible exact ih1 _ _ _ _ _ _ _ _ _ _ _ _)
   | (with_reducible exact ih2 _ _ _ _ _ _ _ _ _ _ _ _ _)
   | (with_reducible exact impl_ConfCheck.mono _ _ _ _ _ _ _ _ _ _ _)
   | (with_reducible exact impl_ConfTurn.mono _ _ _ _ _ _ _ _ _ _ _ _ _)
   | (with_reducible exact spec_ConfCheck.mono _ _ _ _ _ _ _ _ _ _ _)
   | (with_reducible exact spec_DrawConfCheck.mono _ _)
   | (with_reducible exact LeO.refl _)
   | (with_reducible exact LeO.none _)
   | (with_reducible refine LeO.ite ?_ ?_)
   | (with_reducible refine LeO.bind ?_ (fun _ => ?_))
   | exact ih0 _ _ _ _ _ _ _ _ _ _ _ _
   | exact ih1 _ _ _ _ _ _ _ _ _ _ _ _
   | exact ih2 _ _ _ _ _ _ _ _ _ _ _ _ _
   | exact impl_ConfCheck.mono _ _ _ _ _ _ _ _ _ _ _
   | exact impl_ConfTurn.mono _ _ _ _ _ _ _ _ _ _ _ _ _
   | exact spec_ConfCheck.mono _ _ _ _ _ _ _ _ _ _ _
   | exact spec_DrawConfCheck.mono _ _
   | exact LeO.none _
   | refine LeO.ite ?_ ?_
   | refine LeO.bind ?_ (fun _ => ?_)
theorem laws_FnConfCheck.mono : ∀ a0 k, LeO (laws_FnConfCheck.f k a0) (laws_FnConfCheck.f (k + 1) a0) := by
 intro a0 k
 obtain ⟨ih0, ih1, ih2⟩ := laws_FnConfCheck.mono_l k
 unfold laws_FnConfCheck.f
 repeat' first
   | (with_reducible exact ih0 _ _ _ _ _ _ _ _ _ _ _ _)
   | (with_reducible exact ih1 _ _ _ _ _ _ _ _ _ _ _ _)
   | (with_reducible exact ih2 _ _ _ _ _ _ _ _ _ _ _ _ _)
   | (with_reducible exact impl_ConfCheck.mono _ _ _ _ _ _ _ _ _ _ _)
   | (with_reducible exact impl_ConfTurn.mono _ _ _ _ _ _ _ _ _ _ _ _ _)
   | (with_reducible exact spec_ConfCheck.mono _ _ _ _ _ _ _ _ _ _ _)
   | (with_reducible exact spec_DrawConfCheck.mono _ _)
   | (with_reducible exact LeO.refl _)
   | (with_reducible exact LeO.none _)
   | (with_reducible refine LeO.ite ?_ ?_)
   | (with_reducible refine LeO.bind ?_ (fun _ => ?_))
   | exact ih0 _ _ _ _ _ _ _ _ _ _ _ _
   | exact ih1 _ _ _ _ _ _ _ _ _ _ _ _
   | exact ih2 _ _ _ _ _ _ _ _ _ _ _ _ _
   | exact impl_ConfCheck.mono _ _ _ _ _ _ _ _ _ _ _
   | exact impl_ConfTurn.mono _ _ _ _ _ _ _ _ _ _ _ _ _
   | exact spec_ConfCheck.mono _ _ _ _ _ _ _ _ _ _ _
   | exact spec_DrawConfCheck.mono _ _
   | exact LeO.none _
   | refine LeO.ite ?_ ?_
   | refine LeO.bind ?_ (fun _ => ?_)
def laws_FnConfCheck.T12 : Bool × List (List Nat × List Nat) := (true, [([], []), ([], []), ([0, 1], [0, 1]), ([], []), ([3], [3]), ([], []), ([4, 5], [4, 5]), ([6], [6]), ([2, 7], [2, 7]), ([8, 2], [8]), ([9], [9]), ([9], [9]), ([10, 11, 9, 9], [9, 10, 11]), ([9], [9]), ([13, 9], [9, 13]), ([9], [9]), ([14, 15, 9], [9, 14, 15]), ([16, 9], [9, 16]), ([12, 17, 9], [9, 12, 17]), ([9, 18], [9, 18]), ([19, 12], [19]), ([20], [20]), ([21, 20], [20, 21]), ([20], [20]), ([22, 23, 20], [20, 22, 23]), ([24, 20], [20, 24]), ([20], [20]), ([26, 20], [20, 26]), ([27, 20], [20, 27]), ([28, 20], [20, 28]), ([25, 29, 20, 20], [20, 25, 29]), ([30, 20], [20, 30]), ([20, 31], [20, 31])])
def laws_FnConfCheck.B12 : List Nat := [0, 0, 3, 0, 8, 0, 56, 120, 255, 511, 1023, 1023, 4095, 1023, 9215, 1023, 58367, 123903, 262143, 524287, 1048575, 2097151, 4194303, 2097151, 16777215, 33554431, 2097151, 69206015, 203423743, 471859199, 1073741823, 2147483647, 4294967295]
theorem laws_FnConfCheck.tab12 : rtab .any (opsOf Tryd.f4 12) = laws_FnConfCheck.T12 := by kernel_rfl
theorem laws_FnConfCheck.bits12 : waitsOk laws_FnConfCheck.T12.2 laws_FnConfCheck.B12 = true := by kernel_rfl
set_option maxHeartbeats 8000000 in
set_option maxRecDepth 100000 in
theorem laws_FnConfCheck.calls (k : Nat) (A0 : Option Addr) (c0 : Nat) (l0 : List Int) (r : Bool) (w : World) (hr0 : Kd.C (Kd.int .u8) w A0 l0.length l0) (hc0 : l0.length ≤ c0) (h : laws_FnConfCheck.f k l0 = some r) (hG : GErr w) :
  Calls Tryd.prog 4 #[.slice A0 l0.length c0] w fun e w' => e = .returned (.bool r) ∧ Below w.heap.size w w' := by
 have HG0 := Aside0.mk hG
 clear hG
 have hu32 := Tryd.underlying32
 have HR0 := Aside0.mk hr0
 have HC0 := Aside0.mk hc0
 clear hr0 hc0
 have HB := m_ (Below.refl w.heap.size w)
 have H : (if (l0.length : Int) > 1048576 then (some true) else ((spec_DrawConfCheck.f k l0).bind fun bt436 => ((impl_ConfCheck.f k bt436.1 bt436.2.1 bt436.2.2.1 bt436.2.2.2.1 bt436.2.2.2.2.1 bt436.2.2.2.2.2.1 bt436.2.2.2.2.2.2.1 bt436.2.2.2.2.2.2.2.1 bt436.2.2.2.2.2.2.2.2.1 bt436.2.2.2.2.2.2.2.2.2).bind fun t461 => ((spec_ConfCheck.f k bt436.1 bt436.2.1 bt436.2.2.1 bt436.2.2.2.1 bt436.2.2.2.2.1 bt436.2.2.2.2.2.1 bt436.2.2.2.2.2.2.1 bt436.2.2.2.2.2.2.2.1 bt436.2.2.2.2.2.2.2.2.1 bt436.2.2.2.2.2.2.2.2.2).bind fun t463 => (if t461 = t463 then ((impl_ConfCheck.f k (-1) bt436.2.1 bt436.2.2.1 bt436.2.2.2.1 bt436.2.2.2.2.1 bt436.2.2.2.2.2.1 bt436.2.2.2.2.2.2.1 bt436.2.2.2.2.2.2.2.1 bt436.2.2.2.2.2.2.2.2.1 bt436.2.2.2.2.2.2.2.2.2).bind fun t464 => (if t464 = 1 then ((laws_skIn.f t461 0 8).bind fun t465 => (laws_FnConfCheck.j0 k t461 (!t465) bt436.1 bt436.2.1 bt436.2.2.1 bt436.2.2.2.1 bt436.2.2.2.2.1 bt436.2.2.2.2.2.1 bt436.2.2.2.2.2.2.1 bt436.2.2.2.2.2.2.2.1 bt436.2.2.2.2.2.2.2.2.1 bt436.2.2.2.2.2.2.2.2.2)) else (laws_FnConfCheck.j0 k t461 true bt436.1 bt436.2.1 bt436.2.2.1 bt436.2.2.2.1 bt436.2.2.2.2.1 bt436.2.2.2.2.2.1 bt436.2.2.2.2.2.2.1 bt436.2.2.2.2.2.2.2.1 bt436.2.2.2.2.2.2.2.2.1 bt436.2.2.2.2.2.2.2.2.2))) else (laws_FnConfCheck.j0 k t461 true bt436.1 bt436.2.1 bt436.2.2.1 bt436.2.2.2.1 bt436.2.2.2.2.1 bt436.2.2.2.2.2.1 bt436.2.2.2.2.2.2.1 bt436.2.2.2.2.2.2.2.1 bt436.2.2.2.2.2.2.2.2.1 bt436.2.2.2.2.2.2.2.2.2)))))) = some r := h
 clear h
 by_cases c2 : (l0.length : Int) > 1048576
 ·rw [if_pos c2] at H
  have c2b0 : decide (1048576 < (l0.length : Int)) = true := decide_eq_true c2
  have c2b1 : decide (1048576 < l0.length) = true := decide_eq_true (by omega)
  clear c2
  obtain rfl := Option.some.inj H
  go_enter Tryd.func4, Tryd.ntmps4
  go_wp2
  go_ret
  exact ⟨rf_, (hB0 HB.out)⟩
 ·rw [if_neg c2] at H
  have c2b0 : decide (1048576 < (l0.length : Int)) = false := decide_eq_false c2
  have c2b1 : decide (1048576 < l0.length) = false := decide_eq_false (by omega)
  clear c2
  replace H := Option.bind_eq_some_iff.mp H
  obtain ⟨⟨t436, t437, t438, t441, t444, t447, t450, t453, t456, t459⟩, A30, H⟩ := H
  replace H : ((impl_ConfCheck.f k t436 t437 t438 t441 t444 t447 t450 t453 t456 t459).bind fun t461 => ((spec_ConfCheck.f k t436 t437 t438 t441 t444 t447 t450 t453 t456 t459).bind fun t463 => (if t461 = t463 then ((impl_ConfCheck.f k (-1) t437 t438 t441 t444 t447 t450 t453 t456 t459).bind fun t464 => (if t464 = 1 then ((laws_skIn.f t461 0 8).bind fun t465 => (laws_FnConfCheck.j0 k t461 (!t465) t436 t437 t438 t441 t444 t447 t450 t453 t456 t459)) else (laws_FnConfCheck.j0 k t461 true t436 t437 t438 t441 t444 t447 t450 t453 t456 t459))) else (laws_FnConfCheck.j0 k t461 true t436 t437 t438 t441 t444 t447 t450 t453 t456 t459)))) = some r := H
  have A3 := Aside0.mk A30
  clear A30
  replace H := Option.bind_eq_some_iff.mp H
  obtain ⟨t461, A40, H⟩ := H
  replace H : ((spec_ConfCheck.f k t436 t437 t438 t441 t444 t447 t450 t453 t456 t459).bind fun t463 => (if t461 = t463 then ((impl_ConfCheck.f k (-1) t437 t438 t441 t444 t447 t450 t453 t456 t459).bind fun t464 => (if t464 = 1 then ((laws_skIn.f t461 0 8).bind fun t465 => (laws_FnConfCheck.j0 k t461 (!t465) t436 t437 t438 t441 t444 t447 t450 t453 t456 t459)) else (laws_FnConfCheck.j0 k t461 true t436 t437 t438 t441 t444 t447 t450 t453 t456 t459))) else (laws_FnConfCheck.j0 k t461 true t436 t437 t438 t441 t444 t447 t450 t453 t456 t459))) = some r := H
  have A4 := Aside0.mk A40
  clear A40
  have HC5 := Aside0.mk H
  clear H
  go_enter Tryd.func4, Tryd.ntmps4
  go_upto_region 7 with (first | ((with_reducible refine gate_callee (f := 14) rfl ?_); refine goesL_ (some 11) rfl rfl Tryd.func14 (by kernel_rfl) rfl #[.slice A0 l0.length c0] rfl gl_ ?_; (with_reducible refine (spec_DrawConfCheck.calls k _ _ l0 t436 t437 t438 t441 t444 t447 t450 t453 t456 t459 _ ?side1 ?side2 A3.out).mono ?_); (case side1 => exact cN HR0.out); (case side2 => exact HC0.out); rintro e w6 ⟨v439, v442, v445, v448, v451, v454, v457, rfl, ho0, ho1, ho2, ho3, ho4, ho5, ho6, hb⟩; refine ⟨_, rfl, ?_⟩; have n0_ := m_ (Kd.N_lower (Kd.N_mono (ok' := fun k_ => some k_ ≠ (v442 : Value).ownBlock ∧ some k_ ≠ (v445 : Value).ownBlock ∧ some k_ ≠ (v448 : Value).ownBlock ∧ some k_ ≠ (v451 : Value).ownBlock ∧ some k_ ≠ (v454 : Value).ownBlock ∧ some k_ ≠ (v457 : Value).ownBlock) ho0 (fun k_ hk_ => ⟨hk_.2.1, hk_.2.2.1, hk_.2.2.2.1, hk_.2.2.2.2.1, hk_.2.2.2.2.2.1, hk_.2.2.2.2.2.2⟩)) (below_size (bN HB.out))); have n1_ := m_ (Kd.R_lower (Kd.R_mono (ok' := fun k_ => some k_ ≠ (v445 : Value).ownBlock ∧ some k_ ≠ (v448 : Value).ownBlock ∧ some k_ ≠ (v451 : Value).ownBlock ∧ some k_ ≠ (v454 : Value).ownBlock) ho1 (fun _ hk_ => hk_.2)) (below_size (bN HB.out))); have n2_ := m_ (Kd.R_lower (Kd.R_mono (ok' := fun k_ => some k_ ≠ (v442 : Value).ownBlock ∧ some k_ ≠ (v448 : Value).ownBlock ∧ some k_ ≠ (v451 : Value).ownBlock ∧ some k_ ≠ (v454 : Value).ownBlock) ho2 (fun _ hk_ => hk_.2)) (below_size (bN HB.out))); have n3_ := m_ (Kd.R_lower (Kd.R_mono (ok' := fun k_ => some k_ ≠ (v442 : Value).ownBlock ∧ some k_ ≠ (v445 : Value).ownBlock ∧ some k_ ≠ (v451 : Value).ownBlock ∧ some k_ ≠ (v454 : Value).ownBlock) ho3 (fun _ hk_ => hk_.2)) (below_size (bN HB.out))); have n4_ := m_ (Kd.R_lower (Kd.R_mono (ok' := fun k_ => some k_ ≠ (v442 : Value).ownBlock ∧ some k_ ≠ (v445 : Value).ownBlock ∧ some k_ ≠ (v448 : Value).ownBlock ∧ some k_ ≠ (v454 : Value).ownBlock) ho4 (fun _ hk_ => hk_.2)) (below_size (bN HB.out))); have n5_ := m_ (Kd.R_lower (Kd.R_mono (ok' := fun k_ => some k_ ≠ (v442 : Value).ownBlock ∧ some k_ ≠ (v445 : Value).ownBlock ∧ some k_ ≠ (v448 : Value).ownBlock ∧ some k_ ≠ (v451 : Value).ownBlock) ho5 (fun _ hk_ => hk_.2)) (below_size (bN HB.out))); have n6_ := m_ (Kd.R_lower (Kd.R_mono (ok' := fun k_ => True) ho6 (fun _ hk_ => trivial)) (below_size (bN HB.out))); have n7_ := m_ (below_step (bN HB.out) hb); clear HB; have HO440 := n0_; have HO443 := n1_; have HO446 := n2_; have HO449 := n3_; have HO452 := n4_; have HO455 := n5_; have HO458 := n6_; have HB := n7_; clear n0_ n1_ n2_ n3_ n4_ n5_ n6_ n7_; (try clear hb); (try clear hb2); (try clear hk); (try clear hi); (try clear ho0); (try clear ho1); (try clear ho2); (try clear ho3); (try clear ho4); (try clear ho5); (try clear ho6)) | ((with_reducible refine gate_dst (N := 3) rfl ?_); (try (refine gate_guard (by rfl) ?_; dsimp only)); refine box_event ?hg (N := 3) ?hd (cs := #[.int .i64 0, .int .i64 0, .slice none 0 0, .slice none 0 0, .slice none 0 0, .slice none 0 0, .slice none 0 0, .slice none 0 0, .slice none 0 0, .int .i64 0]) (t := 32) ?hr ?_; (case hd => rfl); (case hg => rfl); (case hr => first | (go_simp; done) | (go_simp; rfl)); intro gb460 hg w7 hbox hb; have n0_ := m_ (Kd.N_below (Kd.N_elderB (by (with_reducible repeat (first | apply Kd.N_alloc | apply Kd.N_drewN | apply Kd.N_drew)); exact HO440.out) gb460 (Nat.le_of_eq hg.symm)) hb); have n1_ := m_ (Kd.R_below (rN HO443.out) hb); have n2_ := m_ (Kd.R_below (rN HO446.out) hb); have n3_ := m_ (Kd.R_below (rN HO449.out) hb); have n4_ := m_ (Kd.R_below (rN HO452.out) hb); have n5_ := m_ (Kd.R_below (rN HO455.out) hb); have n6_ := m_ (Kd.R_below (rN HO458.out) hb); have n7_ := m_ (below_step (bN HB.out) hb); have n8_ := m_ (hbox); have n9_ := m_ ((by rw [hg]; exact (below_size (bN HB.out)) : w.heap.size ≤ gb460)); have n10_ := m_ ((by rw [hg]; exact (below_size (bN HB.out)) : w.heap.size ≤ gb460)); clear HO440 HO443 HO446 HO449 HO452 HO455 HO458 HB; have HO440 := n0_; have HO443 := n1_; have HO446 := n2_; have HO449 := n3_; have HO452 := n4_; have HO455 := n5_; have HO458 := n6_; have HB := n7_; have BK460 := n8_; have GW460 := n9_; have GE460 := n10_; clear n0_ n1_ n2_ n3_ n4_ n5_ n6_ n7_ n8_ n9_ n10_ hb hbox hg; obtain ⟨⟨hcz8_0, hcz8_1, hcz8_2, hcz8_3, hcz8_4, hcz8_5, hcz8_6, hcz8_7, hcz8_8, hcz8_9⟩, hfz8_0, hfz8_1, hfz8_2, hfz8_3, hfz8_4, hfz8_5, hfz8_6, hfz8_7, hfz8_8, hfz8_9⟩ := row10 BK460.out; obtain ⟨Ao9, co9, eo9⟩ := Kd.N_slice HO440.out; subst eo9; obtain ⟨Ao10, co10, eo10⟩ := Kd.R_slice HO443.out; subst eo10; obtain ⟨Ao11, co11, eo11⟩ := Kd.R_slice HO446.out; subst eo11; obtain ⟨Ao12, co12, eo12⟩ := Kd.R_slice HO449.out; subst eo12; obtain ⟨Ao13, co13, eo13⟩ := Kd.R_slice HO452.out; subst eo13; obtain ⟨Ao14, co14, eo14⟩ := Kd.R_slice HO455.out; subst eo14; obtain ⟨Ao15, co15, eo15⟩ := Kd.R_slice HO458.out; subst eo15) | ((with_reducible refine gate_callee (f := 15) rfl ?_); refine goesL_ (some 13) rfl rfl Tryd.func15 (by kernel_rfl) rfl #[.agg #[.int .i64 t436, .int .i64 t437, .slice Ao9 t438.length co9, .slice Ao10 t441.length co10, .slice Ao11 t444.length co11, .slice Ao12 t447.length co12, .slice Ao13 t450.length co13, .slice Ao14 t453.length co14, .slice Ao15 t456.length co15, .int .i64 t459]] rfl gl_ ?_; (with_reducible refine (impl_ConfCheck.calls k t436 t437 _ _ t438 _ _ t441 _ _ t444 _ _ t447 _ _ t450 _ _ t453 _ _ t456 t459 t461 _ ?side1 ?side2 ?side3 ?side4 ?side5 ?side6 ?side7 ?side8 ?side9 ?side10 ?side11 ?side12 ?side13 ?side14 A4.out ?sideG).mono ?_); (case sideG => exact GErr.below (bN HB.out) HG0.out); (case side1 => refine (Kd.N_reads' (e := 75) (base := w.heap.size) (ok := fun k_ => ((nb Ao10 t441.length co10 k_ ∧ (nb Ao11 t444.length co11 k_ ∧ (nb Ao12 t447.length co12 k_ ∧ (nb Ao13 t450.length co13 k_ ∧ (nb Ao14 t453.length co14 k_ ∧ nb Ao15 t456.length co15 k_))))) ∧ k_ ≠ gb460)) (n := t438.length) (c := co9) ?_).2.2; exact (by (with_reducible repeat (first | apply Kd.N_alloc | apply Kd.N_drewN | apply Kd.N_drew)); exact (Kd.N_mono (Kd.N_far (p := ⟨gb460, 9, none⟩) (Kd.N_far (p := ⟨gb460, 8, none⟩) (Kd.N_far (p := ⟨gb460, 7, none⟩) (Kd.N_far (p := ⟨gb460, 6, none⟩) (Kd.N_far (p := ⟨gb460, 5, none⟩) (Kd.N_far (p := ⟨gb460, 4, none⟩) (Kd.N_far (p := ⟨gb460, 3, none⟩) (Kd.N_far (p := ⟨gb460, 2, none⟩) (Kd.N_far (p := ⟨gb460, 1, none⟩) (Kd.N_far (p := ⟨gb460, 0, none⟩) (Kd.N_mono HO440.out (fun k_ hk => (⟨hk, hk.2⟩ : _ ∧ k_ ≠ gb460))) (fun _ hk => hk.2) (.int .i64 t436)) (fun _ hk => hk.2) (.int .i64 t437)) (fun _ hk => hk.2) (.slice Ao9 t438.length co9)) (fun _ hk => hk.2) (.slice Ao10 t441.length co10)) (fun _ hk => hk.2) (.slice Ao11 t444.length co11)) (fun _ hk => hk.2) (.slice Ao12 t447.length co12)) (fun _ hk => hk.2) (.slice Ao13 t450.length co13)) (fun _ hk => hk.2) (.slice Ao14 t453.length co14)) (fun _ hk => hk.2) (.slice Ao15 t456.length co15)) (fun _ hk => hk.2) (.int .i64 t459)) (fun _ h_ => h_.1)))); (case side2 => exact (Kd.N_reads' HO440.out).2.1); (case side3 => refine (Kd.R_reads' (e := 3) (base := w.heap.size) (ok := fun k_ => (nb Ao11 t444.length co11 k_ ∧ (nb Ao12 t447.length co12 k_ ∧ (nb Ao13 t450.length co13 k_ ∧ nb Ao14 t453.length co14 k_)))) (n := t441.length) (c := co10) ?_).2.2; exact (frN (Kd.R_types HO443.out BK460.out (by decide)))); (case side4 => exact (Kd.R_reads' HO443.out).2.1); (case side5 => refine (Kd.R_reads' (e := 3) (base := w.heap.size) (ok := fun k_ => (nb Ao10 t441.length co10 k_ ∧ (nb Ao12 t447.length co12 k_ ∧ (nb Ao13 t450.length co13 k_ ∧ nb Ao14 t453.length co14 k_)))) (n := t444.length) (c := co11) ?_).2.2; exact (frN (Kd.R_types HO446.out BK460.out (by decide)))); (case side6 => exact (Kd.R_reads' HO446.out).2.1); (case side7 => refine (Kd.R_reads' (e := 3) (base := w.heap.size) (ok := fun k_ => (nb Ao10 t441.length co10 k_ ∧ (nb Ao11 t444.length co11 k_ ∧ (nb Ao13 t450.length co13 k_ ∧ nb Ao14 t453.length co14 k_)))) (n := t447.length) (c := co12) ?_).2.2; exact (frN (Kd.R_types HO449.out BK460.out (by decide)))); (case side8 => exact (Kd.R_reads' HO449.out).2.1); (case side9 => refine (Kd.R_reads' (e := 3) (base := w.heap.size) (ok := fun k_ => (nb Ao10 t441.length co10 k_ ∧ (nb Ao11 t444.length co11 k_ ∧ (nb Ao12 t447.length co12 k_ ∧ nb Ao14 t453.length co14 k_)))) (n := t450.length) (c := co13) ?_).2.2; exact (frN (Kd.R_types HO452.out BK460.out (by decide)))); (case side10 => exact (Kd.R_reads' HO452.out).2.1); (case side11 => refine (Kd.R_reads' (e := 3) (base := w.heap.size) (ok := fun k_ => (nb Ao10 t441.length co10 k_ ∧ (nb Ao11 t444.length co11 k_ ∧ (nb Ao12 t447.length co12 k_ ∧ nb Ao13 t450.length co13 k_)))) (n := t453.length) (c := co14) ?_).2.2; exact (frN (Kd.R_types HO455.out BK460.out (by decide)))); (case side12 => exact (Kd.R_reads' HO455.out).2.1); (case side13 => refine (Kd.R_reads' (e := 78) (base := w.heap.size) (ok := fun k_ => True) (n := t456.length) (c := co15) ?_).2.2; exact (frN (Kd.R_types HO458.out BK460.out (by decide)))); (case side14 => exact (Kd.R_reads' HO458.out).2.1); rintro e w16 ⟨rfl, hb⟩; refine ⟨_, rfl, ?_⟩; have n0_ := m_ (Kd.N_below (by (with_reducible repeat (first | apply Kd.N_alloc | apply Kd.N_drewN | apply Kd.N_drew)); exact (Kd.N_mono (Kd.N_far (p := ⟨gb460, 9, none⟩) (Kd.N_far (p := ⟨gb460, 8, none⟩) (Kd.N_far (p := ⟨gb460, 7, none⟩) (Kd.N_far (p := ⟨gb460, 6, none⟩) (Kd.N_far (p := ⟨gb460, 5, none⟩) (Kd.N_far (p := ⟨gb460, 4, none⟩) (Kd.N_far (p := ⟨gb460, 3, none⟩) (Kd.N_far (p := ⟨gb460, 2, none⟩) (Kd.N_far (p := ⟨gb460, 1, none⟩) (Kd.N_far (p := ⟨gb460, 0, none⟩) (Kd.N_mono HO440.out (fun k_ hk => (⟨hk, hk.2⟩ : _ ∧ k_ ≠ gb460))) (fun _ hk => hk.2) (.int .i64 t436)) (fun _ hk => hk.2) (.int .i64 t437)) (fun _ hk => hk.2) (.slice Ao9 t438.length co9)) (fun _ hk => hk.2) (.slice Ao10 t441.length co10)) (fun _ hk => hk.2) (.slice Ao11 t444.length co11)) (fun _ hk => hk.2) (.slice Ao12 t447.length co12)) (fun _ hk => hk.2) (.slice Ao13 t450.length co13)) (fun _ hk => hk.2) (.slice Ao14 t453.length co14)) (fun _ hk => hk.2) (.slice Ao15 t456.length co15)) (fun _ hk => hk.2) (.int .i64 t459)) (fun _ h_ => h_.1))) hb); have n1_ := m_ (Kd.R_below (frN (Kd.R_types HO443.out BK460.out (by decide))) hb); have n2_ := m_ (Kd.R_below (frN (Kd.R_types HO446.out BK460.out (by decide))) hb); have n3_ := m_ (Kd.R_below (frN (Kd.R_types HO449.out BK460.out (by decide))) hb); have n4_ := m_ (Kd.R_below (frN (Kd.R_types HO452.out BK460.out (by decide))) hb); have n5_ := m_ (Kd.R_below (frN (Kd.R_types HO455.out BK460.out (by decide))) hb); have n6_ := m_ (Kd.R_below (frN (Kd.R_types HO458.out BK460.out (by decide))) hb); have n7_ := m_ (blk_below (g := gb460) (o := .cells #[.int .i64 t436, .int .i64 t437, .slice Ao9 t438.length co9, .slice Ao10 t441.length co10, .slice Ao11 t444.length co11, .slice Ao12 t447.length co12, .slice Ao13 t450.length co13, .slice Ao14 t453.length co14, .slice Ao15 t456.length co15, .int .i64 t459] 32 (0, 0)) (by (with_reducible repeat (first | refine blk_drewN ?_ _ | refine blk_drew ?_ | refine blk_alloc ?_ _)); apply put10; (with_reducible repeat (first | refine blk_drewN ?_ _ | refine blk_drew ?_ | refine blk_alloc ?_ _)); exact BK460.out) hb); have n8_ := m_ (below_step (bN HB.out) hb); clear HO440 HO443 HO446 HO449 HO452 HO455 HO458 BK460 HB; have HO440 := n0_; have HO443 := n1_; have HO446 := n2_; have HO449 := n3_; have HO452 := n4_; have HO455 := n5_; have HO458 := n6_; have BK460 := n7_; have HB := n8_; clear n0_ n1_ n2_ n3_ n4_ n5_ n6_ n7_ n8_; (try clear hb); (try clear hb2); (try clear hk); (try clear hi); obtain ⟨⟨hcz17_0, hcz17_1, hcz17_2, hcz17_3, hcz17_4, hcz17_5, hcz17_6, hcz17_7, hcz17_8, hcz17_9⟩, hfz17_0, hfz17_1, hfz17_2, hfz17_3, hfz17_4, hfz17_5, hfz17_6, hfz17_7, hfz17_8, hfz17_9⟩ := row10 BK460.out) | ((with_reducible refine gate_dst (N := 5) rfl ?_); (try (refine gate_guard (by rfl) ?_; dsimp only)); refine box_event ?hg (N := 5) ?hd (cs := #[.int .i64 0, .int .i64 0, .slice none 0 0, .slice none 0 0, .slice none 0 0, .slice none 0 0, .slice none 0 0, .slice none 0 0, .slice none 0 0, .int .i64 0]) (t := 32) ?hr ?_; (case hd => rfl); (case hg => rfl); (case hr => first | (go_simp; done) | (go_simp; rfl)); intro gb462 hg w18 hbox hb; have n0_ := m_ (Kd.N_below (Kd.N_elderB (by (with_reducible repeat (first | apply Kd.N_alloc | apply Kd.N_drewN | apply Kd.N_drew)); exact HO440.out) gb462 (Nat.le_of_eq hg.symm)) hb); have n1_ := m_ (Kd.R_below (rN HO443.out) hb); have n2_ := m_ (Kd.R_below (rN HO446.out) hb); have n3_ := m_ (Kd.R_below (rN HO449.out) hb); have n4_ := m_ (Kd.R_below (rN HO452.out) hb); have n5_ := m_ (Kd.R_below (rN HO455.out) hb); have n6_ := m_ (Kd.R_below (rN HO458.out) hb); have n7_ := m_ (blk_below (kN BK460.out) hb); have n8_ := m_ (below_step (bN HB.out) hb); have n9_ := m_ (hbox); have n10_ := m_ ((by rw [hg]; exact (below_size (bN HB.out)) : w.heap.size ≤ gb462)); have n11_ := m_ ((by rw [hg]; exact (below_size (bN HB.out)) : w.heap.size ≤ gb462)); have n12_ := m_ (nL hg BK460.out); have n13_ := m_ (nG hg BK460.out); clear HO440 HO443 HO446 HO449 HO452 HO455 HO458 BK460 HB; have HO440 := n0_; have HO443 := n1_; have HO446 := n2_; have HO449 := n3_; have HO452 := n4_; have HO455 := n5_; have HO458 := n6_; have BK460 := n7_; have HB := n8_; have BK462 := n9_; have GW462 := n10_; have GE462 := n11_; have NB460_462 := n12_; have NB462_460 := n13_; clear n0_ n1_ n2_ n3_ n4_ n5_ n6_ n7_ n8_ n9_ n10_ n11_ n12_ n13_ hb hbox hg; have hnb19 := NB462_460.out; have hnc19 := NB460_462.out; obtain ⟨⟨hcz20_0, hcz20_1, hcz20_2, hcz20_3, hcz20_4, hcz20_5, hcz20_6, hcz20_7, hcz20_8, hcz20_9⟩, hfz20_0, hfz20_1, hfz20_2, hfz20_3, hfz20_4, hfz20_5, hfz20_6, hfz20_7, hfz20_8, hfz20_9⟩ := row10 BK462.out))
  (try simp only [Act.put, List.setIfInBounds_toArray, List.set_cons_zero, List.set_cons_succ])
  go_cut [29] (fun v29 wc => ∃ (kq : Nat) (x29_4 : Bool), v29 = .bool x29_4 ∧ Aside0 (laws_FnConfCheck.j0 kq t461 x29_4 t436 t437 t438 t441 t444 t447 t450 t453 t456 t459 = some r) ∧ Aside0 (kq ≤ k) ∧ Aside0 (Kd.N (Kd.slice 107 k107) 75 wc w.heap.size (fun k_ => some k_ ≠ ((.slice Ao10 t441.length co10) : Value).ownBlock ∧ some k_ ≠ ((.slice Ao11 t444.length co11) : Value).ownBlock ∧ some k_ ≠ ((.slice Ao12 t447.length co12) : Value).ownBlock ∧ some k_ ≠ ((.slice Ao13 t450.length co13) : Value).ownBlock ∧ some k_ ≠ ((.slice Ao14 t453.length co14) : Value).ownBlock ∧ some k_ ≠ ((.slice Ao15 t456.length co15) : Value).ownBlock ∧ some k_ ≠ ((.slice Ao10 t441.length co10) : Value).ownBlock ∧ some k_ ≠ ((.slice Ao11 t444.length co11) : Value).ownBlock ∧ some k_ ≠ ((.slice Ao12 t447.length co12) : Value).ownBlock ∧ some k_ ≠ ((.slice Ao13 t450.length co13) : Value).ownBlock ∧ some k_ ≠ ((.slice Ao14 t453.length co14) : Value).ownBlock ∧ some k_ ≠ ((.slice Ao15 t456.length co15) : Value).ownBlock ∧ k_ ≠ gb460 ∧ k_ ≠ gb462) (.slice Ao9 t438.length co9) t438) ∧ Aside0 (Kd.R (Kd.int .i64) 3 wc w.heap.size (fun k_ => some k_ ≠ ((.slice Ao11 t444.length co11) : Value).ownBlock ∧ some k_ ≠ ((.slice Ao12 t447.length co12) : Value).ownBlock ∧ some k_ ≠ ((.slice Ao13 t450.length co13) : Value).ownBlock ∧ some k_ ≠ ((.slice Ao14 t453.length co14) : Value).ownBlock ∧ some k_ ≠ ((.slice Ao11 t444.length co11) : Value).ownBlock ∧ some k_ ≠ ((.slice Ao12 t447.length co12) : Value).ownBlock ∧ some k_ ≠ ((.slice Ao13 t450.length co13) : Value).ownBlock ∧ some k_ ≠ ((.slice Ao14 t453.length co14) : Value).ownBlock) (.slice Ao10 t441.length co10) t441) ∧ Aside0 (Kd.R (Kd.int .i64) 3 wc w.heap.size (fun k_ => some k_ ≠ ((.slice Ao10 t441.length co10) : Value).ownBlock ∧ some k_ ≠ ((.slice Ao12 t447.length co12) : Value).ownBlock ∧ some k_ ≠ ((.slice Ao13 t450.length co13) : Value).ownBlock ∧ some k_ ≠ ((.slice Ao14 t453.length co14) : Value).ownBlock ∧ some k_ ≠ ((.slice Ao10 t441.length co10) : Value).ownBlock ∧ some k_ ≠ ((.slice Ao12 t447.length co12) : Value).ownBlock ∧ some k_ ≠ ((.slice Ao13 t450.length co13) : Value).ownBlock ∧ some k_ ≠ ((.slice Ao14 t453.length co14) : Value).ownBlock) (.slice Ao11 t444.length co11) t444) ∧ Aside0 (Kd.R (Kd.int .i64) 3 wc w.heap.size (fun k_ => some k_ ≠ ((.slice Ao10 t441.length co10) : Value).ownBlock ∧ some k_ ≠ ((.slice Ao11 t444.length co11) : Value).ownBlock ∧ some k_ ≠ ((.slice Ao13 t450.length co13) : Value).ownBlock ∧ some k_ ≠ ((.slice Ao14 t453.length co14) : Value).ownBlock ∧ some k_ ≠ ((.slice Ao10 t441.length co10) : Value).ownBlock ∧ some k_ ≠ ((.slice Ao11 t444.length co11) : Value).ownBlock ∧ some k_ ≠ ((.slice Ao13 t450.length co13) : Value).ownBlock ∧ some k_ ≠ ((.slice Ao14 t453.length co14) : Value).ownBlock) (.slice Ao12 t447.length co12) t447) ∧ Aside0 (Kd.R (Kd.int .i64) 3 wc w.heap.size (fun k_ => some k_ ≠ ((.slice Ao10 t441.length co10) : Value).ownBlock ∧ some k_ ≠ ((.slice Ao11 t444.length co11) : Value).ownBlock ∧ some k_ ≠ ((.slice Ao12 t447.length co12) : Value).ownBlock ∧ some k_ ≠ ((.slice Ao14 t453.length co14) : Value).ownBlock ∧ some k_ ≠ ((.slice Ao10 t441.length co10) : Value).ownBlock ∧ some k_ ≠ ((.slice Ao11 t444.length co11) : Value).ownBlock ∧ some k_ ≠ ((.slice Ao12 t447.length co12) : Value).ownBlock ∧ some k_ ≠ ((.slice Ao14 t453.length co14) : Value).ownBlock) (.slice Ao13 t450.length co13) t450) ∧ Aside0 (Kd.R (Kd.int .i64) 3 wc w.heap.size (fun k_ => some k_ ≠ ((.slice Ao10 t441.length co10) : Value).ownBlock ∧ some k_ ≠ ((.slice Ao11 t444.length co11) : Value).ownBlock ∧ some k_ ≠ ((.slice Ao12 t447.length co12) : Value).ownBlock ∧ some k_ ≠ ((.slice Ao13 t450.length co13) : Value).ownBlock ∧ some k_ ≠ ((.slice Ao10 t441.length co10) : Value).ownBlock ∧ some k_ ≠ ((.slice Ao11 t444.length co11) : Value).ownBlock ∧ some k_ ≠ ((.slice Ao12 t447.length co12) : Value).ownBlock ∧ some k_ ≠ ((.slice Ao13 t450.length co13) : Value).ownBlock) (.slice Ao14 t453.length co14) t453) ∧ Aside0 (Kd.R k78 78 wc w.heap.size (fun _ => True) (.slice Ao15 t456.length co15) t456) ∧ Aside0 (Kd.N (Kd.slice 107 k107) 75 wc w.heap.size (fun k_ => some k_ ≠ ((.slice Ao10 t441.length co10) : Value).ownBlock ∧ some k_ ≠ ((.slice Ao11 t444.length co11) : Value).ownBlock ∧ some k_ ≠ ((.slice Ao12 t447.length co12) : Value).ownBlock ∧ some k_ ≠ ((.slice Ao13 t450.length co13) : Value).ownBlock ∧ some k_ ≠ ((.slice Ao14 t453.length co14) : Value).ownBlock ∧ some k_ ≠ ((.slice Ao15 t456.length co15) : Value).ownBlock ∧ some k_ ≠ ((.slice Ao10 t441.length co10) : Value).ownBlock ∧ some k_ ≠ ((.slice Ao11 t444.length co11) : Value).ownBlock ∧ some k_ ≠ ((.slice Ao12 t447.length co12) : Value).ownBlock ∧ some k_ ≠ ((.slice Ao13 t450.length co13) : Value).ownBlock ∧ some k_ ≠ ((.slice Ao14 t453.length co14) : Value).ownBlock ∧ some k_ ≠ ((.slice Ao15 t456.length co15) : Value).ownBlock ∧ k_ ≠ gb460 ∧ k_ ≠ gb462) (.slice Ao9 t438.length co9) t438) ∧ Aside0 (Kd.R (Kd.int .i64) 3 wc w.heap.size (fun k_ => some k_ ≠ ((.slice Ao11 t444.length co11) : Value).ownBlock ∧ some k_ ≠ ((.slice Ao12 t447.length co12) : Value).ownBlock ∧ some k_ ≠ ((.slice Ao13 t450.length co13) : Value).ownBlock ∧ some k_ ≠ ((.slice Ao14 t453.length co14) : Value).ownBlock ∧ some k_ ≠ ((.slice Ao11 t444.length co11) : Value).ownBlock ∧ some k_ ≠ ((.slice Ao12 t447.length co12) : Value).ownBlock ∧ some k_ ≠ ((.slice Ao13 t450.length co13) : Value).ownBlock ∧ some k_ ≠ ((.slice Ao14 t453.length co14) : Value).ownBlock) (.slice Ao10 t441.length co10) t441) ∧ Aside0 (Kd.R (Kd.int .i64) 3 wc w.heap.size (fun k_ => some k_ ≠ ((.slice Ao10 t441.length co10) : Value).ownBlock ∧ some k_ ≠ ((.slice Ao12 t447.length co12) : Value).ownBlock ∧ some k_ ≠ ((.slice Ao13 t450.length co13) : Value).ownBlock ∧ some k_ ≠ ((.slice Ao14 t453.length co14) : Value).ownBlock ∧ some k_ ≠ ((.slice Ao10 t441.length co10) : Value).ownBlock ∧ some k_ ≠ ((.slice Ao12 t447.length co12) : Value).ownBlock ∧ some k_ ≠ ((.slice Ao13 t450.length co13) : Value).ownBlock ∧ some k_ ≠ ((.slice Ao14 t453.length co14) : Value).ownBlock) (.slice Ao11 t444.length co11) t444) ∧ Aside0 (Kd.R (Kd.int .i64) 3 wc w.heap.size (fun k_ => some k_ ≠ ((.slice Ao10 t441.length co10) : Value).ownBlock ∧ some k_ ≠ ((.slice Ao11 t444.length co11) : Value).ownBlock ∧ some k_ ≠ ((.slice Ao13 t450.length co13) : Value).ownBlock ∧ some k_ ≠ ((.slice Ao14 t453.length co14) : Value).ownBlock ∧ some k_ ≠ ((.slice Ao10 t441.length co10) : Value).ownBlock ∧ some k_ ≠ ((.slice Ao11 t444.length co11) : Value).ownBlock ∧ some k_ ≠ ((.slice Ao13 t450.length co13) : Value).ownBlock ∧ some k_ ≠ ((.slice Ao14 t453.length co14) : Value).ownBlock) (.slice Ao12 t447.length co12) t447) ∧ Aside0 (Kd.R (Kd.int .i64) 3 wc w.heap.size (fun k_ => some k_ ≠ ((.slice Ao10 t441.length co10) : Value).ownBlock ∧ some k_ ≠ ((.slice Ao11 t444.length co11) : Value).ownBlock ∧ some k_ ≠ ((.slice Ao12 t447.length co12) : Value).ownBlock ∧ some k_ ≠ ((.slice Ao14 t453.length co14) : Value).ownBlock ∧ some k_ ≠ ((.slice Ao10 t441.length co10) : Value).ownBlock ∧ some k_ ≠ ((.slice Ao11 t444.length co11) : Value).ownBlock ∧ some k_ ≠ ((.slice Ao12 t447.length co12) : Value).ownBlock ∧ some k_ ≠ ((.slice Ao14 t453.length co14) : Value).ownBlock) (.slice Ao13 t450.length co13) t450) ∧ Aside0 (Kd.R (Kd.int .i64) 3 wc w.heap.size (fun k_ => some k_ ≠ ((.slice Ao10 t441.length co10) : Value).ownBlock ∧ some k_ ≠ ((.slice Ao11 t444.length co11) : Value).ownBlock ∧ some k_ ≠ ((.slice Ao12 t447.length co12) : Value).ownBlock ∧ some k_ ≠ ((.slice Ao13 t450.length co13) : Value).ownBlock ∧ some k_ ≠ ((.slice Ao10 t441.length co10) : Value).ownBlock ∧ some k_ ≠ ((.slice Ao11 t444.length co11) : Value).ownBlock ∧ some k_ ≠ ((.slice Ao12 t447.length co12) : Value).ownBlock ∧ some k_ ≠ ((.slice Ao13 t450.length co13) : Value).ownBlock) (.slice Ao14 t453.length co14) t453) ∧ Aside0 (Kd.R k78 78 wc w.heap.size (fun _ => True) (.slice Ao15 t456.length co15) t456) ∧ Aside0 (wc.heap[gb460]? = some (.cells #[.int .i64 t436, .int .i64 t437, (.slice Ao9 t438.length co9), (.slice Ao10 t441.length co10), (.slice Ao11 t444.length co11), (.slice Ao12 t447.length co12), (.slice Ao13 t450.length co13), (.slice Ao14 t453.length co14), (.slice Ao15 t456.length co15), .int .i64 t459] 32 (0, 0))) ∧ Aside0 (wc.heap[gb462]? = some (.cells #[.int .i64 (-1), .int .i64 t437, (.slice Ao9 t438.length co9), (.slice Ao10 t441.length co10), (.slice Ao11 t444.length co11), (.slice Ao12 t447.length co12), (.slice Ao13 t450.length co13), (.slice Ao14 t453.length co14), (.slice Ao15 t456.length co15), .int .i64 t459] 32 (0, 0))) ∧ Aside0 (Below w.heap.size w wc))
  case first =>
   have H := HC5.out
   clear HC5
   replace H := Option.bind_eq_some_iff.mp H
   obtain ⟨t463, A210, H⟩ := H
   replace H : (if t461 = t463 then ((impl_ConfCheck.f k (-1) t437 t438 t441 t444 t447 t450 t453 t456 t459).bind fun t464 => (if t464 = 1 then ((laws_skIn.f t461 0 8).bind fun t465 => (laws_FnConfCheck.j0 k t461 (!t465) t436 t437 t438 t441 t444 t447 t450 t453 t456 t459)) else (laws_FnConfCheck.j0 k t461 true t436 t437 t438 t441 t444 t447 t450 t453 t456 t459))) else (laws_FnConfCheck.j0 k t461 true t436 t437 t438 t441 t444 t447 t450 t453 t456 t459)) = some r := H
   have A21 := Aside0.mk A210
   clear A210
   by_cases c22 : t461 = t463
   ·rw [if_pos c22] at H
    have c22b0 : (t461 == t463) = true := beq_iff_eq.mpr c22
    have c22b1 : (t461 != t463) = false := bne_eq_false_iff_eq.mpr c22
    clear c22
    (first | rw [c22b0] | (simp only [i64_w, i32_w]; rw [c22b0]) | skip)
    replace H := Option.bind_eq_some_iff.mp H
    obtain ⟨t464, A230, H⟩ := H
    replace H : (if t464 = 1 then ((laws_skIn.f t461 0 8).bind fun t465 => (laws_FnConfCheck.j0 k t461 (!t465) t436 t437 t438 t441 t444 t447 t450 t453 t456 t459)) else (laws_FnConfCheck.j0 k t461 true t436 t437 t438 t441 t444 t447 t450 t453 t456 t459)) = some r := H
    have A23 := Aside0.mk A230
    clear A230
    by_cases c24 : t464 = 1
    ·rw [if_pos c24] at H
     have c24b0 : (t464 == 1) = true := beq_iff_eq.mpr c24
     have c24b1 : (t464 != 1) = false := bne_eq_false_iff_eq.mpr c24
     clear c24
     replace H := Option.bind_eq_some_iff.mp H
     obtain ⟨t465, A250, H⟩ := H
     replace H : (laws_FnConfCheck.j0 k t461 (!t465) t436 t437 t438 t441 t444 t447 t450 t453 t456 t459) = some r := H
     have A25 := Aside0.mk A250
     clear A250
     have H' := Aside0.mk H
     clear H
     have hnb26 := NB460_462.out
     have hnc26 := NB462_460.out
     obtain ⟨⟨hcz27_0, hcz27_1, hcz27_2, hcz27_3, hcz27_4, hcz27_5, hcz27_6, hcz27_7, hcz27_8, hcz27_9⟩, hfz27_0, hfz27_1, hfz27_2, hfz27_3, hfz27_4, hfz27_5, hfz27_6, hfz27_7, hfz27_8, hfz27_9⟩ := row10 BK460.out
     go_wp2_with (first | ((with_reducible refine gate_callee (f := 16) rfl ?_); refine goesL_ (some 18) rfl rfl Tryd.func16 (by kernel_rfl) rfl #[.agg #[.int .i64 t436, .int .i64 t437, .slice Ao9 t438.length co9, .slice Ao10 t441.length co10, .slice Ao11 t444.length co11, .slice Ao12 t447.length co12, .slice Ao13 t450.length co13, .slice Ao14 t453.length co14, .slice Ao15 t456.length co15, .int .i64 t459]] rfl gl_ ?_; (with_reducible refine (spec_ConfCheck.calls k t436 t437 _ _ t438 _ _ t441 _ _ t444 _ _ t447 _ _ t450 _ _ t453 _ _ t456 t459 t463 _ ?side1 ?side2 ?side3 ?side4 ?side5 ?side6 ?side7 ?side8 ?side9 ?side10 ?side11 ?side12 ?side13 ?side14 A21.out).mono ?_); (case side1 => refine (Kd.N_reads' (e := 75) (base := w.heap.size) (ok := fun k_ => (((nb Ao10 t441.length co10 k_ ∧ (nb Ao11 t444.length co11 k_ ∧ (nb Ao12 t447.length co12 k_ ∧ (nb Ao13 t450.length co13 k_ ∧ (nb Ao14 t453.length co14 k_ ∧ nb Ao15 t456.length co15 k_))))) ∧ k_ ≠ gb460) ∧ k_ ≠ gb462)) (n := t438.length) (c := co9) ?_).2.2; exact (by (with_reducible repeat (first | apply Kd.N_alloc | apply Kd.N_drewN | apply Kd.N_drew)); exact (Kd.N_mono (Kd.N_far (p := ⟨gb462, 0, none⟩) (Kd.N_far (p := ⟨gb462, 9, none⟩) (Kd.N_far (p := ⟨gb462, 8, none⟩) (Kd.N_far (p := ⟨gb462, 7, none⟩) (Kd.N_far (p := ⟨gb462, 6, none⟩) (Kd.N_far (p := ⟨gb462, 5, none⟩) (Kd.N_far (p := ⟨gb462, 4, none⟩) (Kd.N_far (p := ⟨gb462, 3, none⟩) (Kd.N_far (p := ⟨gb462, 2, none⟩) (Kd.N_far (p := ⟨gb462, 1, none⟩) (Kd.N_far (p := ⟨gb462, 0, none⟩) (Kd.N_mono HO440.out (fun k_ hk => (⟨hk, hk.2⟩ : _ ∧ k_ ≠ gb462))) (fun _ hk => hk.2) (.int .i64 t436)) (fun _ hk => hk.2) (.int .i64 t437)) (fun _ hk => hk.2) (.slice Ao9 t438.length co9)) (fun _ hk => hk.2) (.slice Ao10 t441.length co10)) (fun _ hk => hk.2) (.slice Ao11 t444.length co11)) (fun _ hk => hk.2) (.slice Ao12 t447.length co12)) (fun _ hk => hk.2) (.slice Ao13 t450.length co13)) (fun _ hk => hk.2) (.slice Ao14 t453.length co14)) (fun _ hk => hk.2) (.slice Ao15 t456.length co15)) (fun _ hk => hk.2) (.int .i64 t459)) (fun _ hk => hk.2) (.int .i64 (-1))) (fun _ h_ => h_.1)))); (case side2 => exact (Kd.N_reads' HO440.out).2.1); (case side3 => refine (Kd.R_reads' (e := 3) (base := w.heap.size) (ok := fun k_ => (nb Ao11 t444.length co11 k_ ∧ (nb Ao12 t447.length co12 k_ ∧ (nb Ao13 t450.length co13 k_ ∧ nb Ao14 t453.length co14 k_)))) (n := t441.length) (c := co10) ?_).2.2; exact (frN (Kd.R_types HO443.out BK462.out (by decide)))); (case side4 => exact (Kd.R_reads' HO443.out).2.1); (case side5 => refine (Kd.R_reads' (e := 3) (base := w.heap.size) (ok := fun k_ => (nb Ao10 t441.length co10 k_ ∧ (nb Ao12 t447.length co12 k_ ∧ (nb Ao13 t450.length co13 k_ ∧ nb Ao14 t453.length co14 k_)))) (n := t444.length) (c := co11) ?_).2.2; exact (frN (Kd.R_types HO446.out BK462.out (by decide)))); (case side6 => exact (Kd.R_reads' HO446.out).2.1); (case side7 => refine (Kd.R_reads' (e := 3) (base := w.heap.size) (ok := fun k_ => (nb Ao10 t441.length co10 k_ ∧ (nb Ao11 t444.length co11 k_ ∧ (nb Ao13 t450.length co13 k_ ∧ nb Ao14 t453.length co14 k_)))) (n := t447.length) (c := co12) ?_).2.2; exact (frN (Kd.R_types HO449.out BK462.out (by decide)))); (case side8 => exact (Kd.R_reads' HO449.out).2.1); (case side9 => refine (Kd.R_reads' (e := 3) (base := w.heap.size) (ok := fun k_ => (nb Ao10 t441.length co10 k_ ∧ (nb Ao11 t444.length co11 k_ ∧ (nb Ao12 t447.length co12 k_ ∧ nb Ao14 t453.length co14 k_)))) (n := t450.length) (c := co13) ?_).2.2; exact (frN (Kd.R_types HO452.out BK462.out (by decide)))); (case side10 => exact (Kd.R_reads' HO452.out).2.1); (case side11 => refine (Kd.R_reads' (e := 3) (base := w.heap.size) (ok := fun k_ => (nb Ao10 t441.length co10 k_ ∧ (nb Ao11 t444.length co11 k_ ∧ (nb Ao12 t447.length co12 k_ ∧ nb Ao13 t450.length co13 k_)))) (n := t453.length) (c := co14) ?_).2.2; exact (frN (Kd.R_types HO455.out BK462.out (by decide)))); (case side12 => exact (Kd.R_reads' HO455.out).2.1); (case side13 => refine (Kd.R_reads' (e := 78) (base := w.heap.size) (ok := fun k_ => True) (n := t456.length) (c := co15) ?_).2.2; exact (frN (Kd.R_types HO458.out BK462.out (by decide)))); (case side14 => exact (Kd.R_reads' HO458.out).2.1); rintro e w28 ⟨rfl, hb⟩; refine ⟨_, rfl, ?_⟩; have n0_ := m_ (Kd.N_below (by (with_reducible repeat (first | apply Kd.N_alloc | apply Kd.N_drewN | apply Kd.N_drew)); exact (Kd.N_mono (Kd.N_far (p := ⟨gb462, 0, none⟩) (Kd.N_far (p := ⟨gb462, 9, none⟩) (Kd.N_far (p := ⟨gb462, 8, none⟩) (Kd.N_far (p := ⟨gb462, 7, none⟩) (Kd.N_far (p := ⟨gb462, 6, none⟩) (Kd.N_far (p := ⟨gb462, 5, none⟩) (Kd.N_far (p := ⟨gb462, 4, none⟩) (Kd.N_far (p := ⟨gb462, 3, none⟩) (Kd.N_far (p := ⟨gb462, 2, none⟩) (Kd.N_far (p := ⟨gb462, 1, none⟩) (Kd.N_far (p := ⟨gb462, 0, none⟩) (Kd.N_mono HO440.out (fun k_ hk => (⟨hk, hk.2⟩ : _ ∧ k_ ≠ gb462))) (fun _ hk => hk.2) (.int .i64 t436)) (fun _ hk => hk.2) (.int .i64 t437)) (fun _ hk => hk.2) (.slice Ao9 t438.length co9)) (fun _ hk => hk.2) (.slice Ao10 t441.length co10)) (fun _ hk => hk.2) (.slice Ao11 t444.length co11)) (fun _ hk => hk.2) (.slice Ao12 t447.length co12)) (fun _ hk => hk.2) (.slice Ao13 t450.length co13)) (fun _ hk => hk.2) (.slice Ao14 t453.length co14)) (fun _ hk => hk.2) (.slice Ao15 t456.length co15)) (fun _ hk => hk.2) (.int .i64 t459)) (fun _ hk => hk.2) (.int .i64 (-1))) (fun _ h_ => h_.1))) hb); have n1_ := m_ (Kd.R_below (frN (Kd.R_types HO443.out BK462.out (by decide))) hb); have n2_ := m_ (Kd.R_below (frN (Kd.R_types HO446.out BK462.out (by decide))) hb); have n3_ := m_ (Kd.R_below (frN (Kd.R_types HO449.out BK462.out (by decide))) hb); have n4_ := m_ (Kd.R_below (frN (Kd.R_types HO452.out BK462.out (by decide))) hb); have n5_ := m_ (Kd.R_below (frN (Kd.R_types HO455.out BK462.out (by decide))) hb); have n6_ := m_ (Kd.R_below (frN (Kd.R_types HO458.out BK462.out (by decide))) hb); have n7_ := m_ (blk_below (g := gb460) (o := .cells #[.int .i64 t436, .int .i64 t437, .slice Ao9 t438.length co9, .slice Ao10 t441.length co10, .slice Ao11 t444.length co11, .slice Ao12 t447.length co12, .slice Ao13 t450.length co13, .slice Ao14 t453.length co14, .slice Ao15 t456.length co15, .int .i64 t459] 32 (0, 0)) (kF BK460.out NB460_462.out) hb); have n8_ := m_ (blk_below (g := gb462) (o := .cells #[.int .i64 (-1), .int .i64 t437, .slice Ao9 t438.length co9, .slice Ao10 t441.length co10, .slice Ao11 t444.length co11, .slice Ao12 t447.length co12, .slice Ao13 t450.length co13, .slice Ao14 t453.length co14, .slice Ao15 t456.length co15, .int .i64 t459] 32 (0, 0)) (by (with_reducible repeat (first | refine blk_drewN ?_ _ | refine blk_drew ?_ | refine blk_alloc ?_ _)); refine blk_put (cs := #[.int .i64 t436, .int .i64 t437, .slice Ao9 t438.length co9, .slice Ao10 t441.length co10, .slice Ao11 t444.length co11, .slice Ao12 t447.length co12, .slice Ao13 t450.length co13, .slice Ao14 t453.length co14, .slice Ao15 t456.length co15, .int .i64 t459]) ?_ 0 _ rfl; (with_reducible repeat (first | refine blk_drewN ?_ _ | refine blk_drew ?_ | refine blk_alloc ?_ _)); apply put10; (with_reducible repeat (first | refine blk_drewN ?_ _ | refine blk_drew ?_ | refine blk_alloc ?_ _)); exact BK462.out) hb); have n9_ := m_ (below_step (bN HB.out) hb); clear HO440 HO443 HO446 HO449 HO452 HO455 HO458 BK460 BK462 HB; have HO440 := n0_; have HO443 := n1_; have HO446 := n2_; have HO449 := n3_; have HO452 := n4_; have HO455 := n5_; have HO458 := n6_; have BK460 := n7_; have BK462 := n8_; have HB := n9_; clear n0_ n1_ n2_ n3_ n4_ n5_ n6_ n7_ n8_ n9_; (try clear hb); (try clear hb2); (try clear hk); (try clear hi); obtain ⟨⟨hcz29_0, hcz29_1, hcz29_2, hcz29_3, hcz29_4, hcz29_5, hcz29_6, hcz29_7, hcz29_8, hcz29_9⟩, hfz29_0, hfz29_1, hfz29_2, hfz29_3, hfz29_4, hfz29_5, hfz29_6, hfz29_7, hfz29_8, hfz29_9⟩ := row10 BK462.out) | (go_at_call 15; (with_reducible refine (impl_ConfCheck.calls k (-1) t437 _ _ t438 _ _ t441 _ _ t444 _ _ t447 _ _ t450 _ _ t453 _ _ t456 t459 t464 _ ?side1 ?side2 ?side3 ?side4 ?side5 ?side6 ?side7 ?side8 ?side9 ?side10 ?side11 ?side12 ?side13 ?side14 A23.out ?sideG).mono ?_); (case sideG => exact GErr.below (bN HB.out) HG0.out); (case side1 => exact cN (Kd.N_reads' HO440.out).2.2); (case side2 => exact (Kd.N_reads' HO440.out).2.1); (case side3 => exact cN (Kd.R_reads' HO443.out).2.2); (case side4 => exact (Kd.R_reads' HO443.out).2.1); (case side5 => exact cN (Kd.R_reads' HO446.out).2.2); (case side6 => exact (Kd.R_reads' HO446.out).2.1); (case side7 => exact cN (Kd.R_reads' HO449.out).2.2); (case side8 => exact (Kd.R_reads' HO449.out).2.1); (case side9 => exact cN (Kd.R_reads' HO452.out).2.2); (case side10 => exact (Kd.R_reads' HO452.out).2.1); (case side11 => exact cN (Kd.R_reads' HO455.out).2.2); (case side12 => exact (Kd.R_reads' HO455.out).2.1); (case side13 => exact cN (Kd.R_reads' HO458.out).2.2); (case side14 => exact (Kd.R_reads' HO458.out).2.1); rintro e w30 ⟨rfl, hb⟩; have n0_ := m_ (Kd.N_below (by (with_reducible repeat (first | apply Kd.N_alloc | apply Kd.N_drewN | apply Kd.N_drew)); exact HO440.out) hb); have n1_ := m_ (Kd.R_below (rN HO443.out) hb); have n2_ := m_ (Kd.R_below (rN HO446.out) hb); have n3_ := m_ (Kd.R_below (rN HO449.out) hb); have n4_ := m_ (Kd.R_below (rN HO452.out) hb); have n5_ := m_ (Kd.R_below (rN HO455.out) hb); have n6_ := m_ (Kd.R_below (rN HO458.out) hb); have n7_ := m_ (blk_below (kN BK460.out) hb); have n8_ := m_ (blk_below (kN BK462.out) hb); have n9_ := m_ (below_step (bN HB.out) hb); clear HO440 HO443 HO446 HO449 HO452 HO455 HO458 BK460 BK462 HB; have HO440 := n0_; have HO443 := n1_; have HO446 := n2_; have HO449 := n3_; have HO452 := n4_; have HO455 := n5_; have HO458 := n6_; have BK460 := n7_; have BK462 := n8_; have HB := n9_; clear n0_ n1_ n2_ n3_ n4_ n5_ n6_ n7_ n8_ n9_; (try clear hb); (try clear hb2); (try clear hk); (try clear hi)) | (go_at_call 17; (with_reducible refine (laws_skIn.calls t461 0 8 t465 _ A25.out).mono ?_); rintro e w' ⟨rfl, ⟨nd, rfl⟩⟩))
     go_meet
     case rel => exact ⟨_, (!t465), (by first | rfl | (simp; done) | (simp [*]; done)), H', ⟨by first | omega | exact Nat.le_refl _⟩, ⟨by (with_reducible repeat (first | apply Kd.N_alloc | apply Kd.N_drewN | apply Kd.N_drew)); exact Kd.N_mono HO440.out (fun _ hk => ⟨hk.1.1.1, ⟨hk.1.1.2.1, ⟨hk.1.1.2.2.1, ⟨hk.1.1.2.2.2.1, ⟨hk.1.1.2.2.2.2.1, ⟨hk.1.1.2.2.2.2.2, ⟨hk.1.1.1, ⟨hk.1.1.2.1, ⟨hk.1.1.2.2.1, ⟨hk.1.1.2.2.2.1, ⟨hk.1.1.2.2.2.2.1, ⟨hk.1.1.2.2.2.2.2, ⟨hk.1.2, hk.2⟩⟩⟩⟩⟩⟩⟩⟩⟩⟩⟩⟩⟩)⟩, ⟨by (with_reducible repeat (first | apply Kd.R_alloc | apply Kd.R_drewN | apply Kd.R_drew)); exact Kd.R_mono HO443.out (fun _ hk => ⟨hk.1, ⟨hk.2.1, ⟨hk.2.2.1, ⟨hk.2.2.2, ⟨hk.1, ⟨hk.2.1, ⟨hk.2.2.1, hk.2.2.2⟩⟩⟩⟩⟩⟩⟩)⟩, ⟨by (with_reducible repeat (first | apply Kd.R_alloc | apply Kd.R_drewN | apply Kd.R_drew)); exact Kd.R_mono HO446.out (fun _ hk => ⟨hk.1, ⟨hk.2.1, ⟨hk.2.2.1, ⟨hk.2.2.2, ⟨hk.1, ⟨hk.2.1, ⟨hk.2.2.1, hk.2.2.2⟩⟩⟩⟩⟩⟩⟩)⟩, ⟨by (with_reducible repeat (first | apply Kd.R_alloc | apply Kd.R_drewN | apply Kd.R_drew)); exact Kd.R_mono HO449.out (fun _ hk => ⟨hk.1, ⟨hk.2.1, ⟨hk.2.2.1, ⟨hk.2.2.2, ⟨hk.1, ⟨hk.2.1, ⟨hk.2.2.1, hk.2.2.2⟩⟩⟩⟩⟩⟩⟩)⟩, ⟨by (with_reducible repeat (first | apply Kd.R_alloc | apply Kd.R_drewN | apply Kd.R_drew)); exact Kd.R_mono HO452.out (fun _ hk => ⟨hk.1, ⟨hk.2.1, ⟨hk.2.2.1, ⟨hk.2.2.2, ⟨hk.1, ⟨hk.2.1, ⟨hk.2.2.1, hk.2.2.2⟩⟩⟩⟩⟩⟩⟩)⟩, ⟨by (with_reducible repeat (first | apply Kd.R_alloc | apply Kd.R_drewN | apply Kd.R_drew)); exact Kd.R_mono HO455.out (fun _ hk => ⟨hk.1, ⟨hk.2.1, ⟨hk.2.2.1, ⟨hk.2.2.2, ⟨hk.1, ⟨hk.2.1, ⟨hk.2.2.1, hk.2.2.2⟩⟩⟩⟩⟩⟩⟩)⟩, ⟨rN HO458.out⟩, ⟨by (with_reducible repeat (first | apply Kd.N_alloc | apply Kd.N_drewN | apply Kd.N_drew)); exact Kd.N_mono HO440.out (fun _ hk => ⟨hk.1.1.1, ⟨hk.1.1.2.1, ⟨hk.1.1.2.2.1, ⟨hk.1.1.2.2.2.1, ⟨hk.1.1.2.2.2.2.1, ⟨hk.1.1.2.2.2.2.2, ⟨hk.1.1.1, ⟨hk.1.1.2.1, ⟨hk.1.1.2.2.1, ⟨hk.1.1.2.2.2.1, ⟨hk.1.1.2.2.2.2.1, ⟨hk.1.1.2.2.2.2.2, ⟨hk.1.2, hk.2⟩⟩⟩⟩⟩⟩⟩⟩⟩⟩⟩⟩⟩)⟩, ⟨by (with_reducible repeat (first | apply Kd.R_alloc | apply Kd.R_drewN | apply Kd.R_drew)); exact Kd.R_mono HO443.out (fun _ hk => ⟨hk.1, ⟨hk.2.1, ⟨hk.2.2.1, ⟨hk.2.2.2, ⟨hk.1, ⟨hk.2.1, ⟨hk.2.2.1, hk.2.2.2⟩⟩⟩⟩⟩⟩⟩)⟩, ⟨by (with_reducible repeat (first | apply Kd.R_alloc | apply Kd.R_drewN | apply Kd.R_drew)); exact Kd.R_mono HO446.out (fun _ hk => ⟨hk.1, ⟨hk.2.1, ⟨hk.2.2.1, ⟨hk.2.2.2, ⟨hk.1, ⟨hk.2.1, ⟨hk.2.2.1, hk.2.2.2⟩⟩⟩⟩⟩⟩⟩)⟩, ⟨by (with_reducible repeat (first | apply Kd.R_alloc | apply Kd.R_drewN | apply Kd.R_drew)); exact Kd.R_mono HO449.out (fun _ hk => ⟨hk.1, ⟨hk.2.1, ⟨hk.2.2.1, ⟨hk.2.2.2, ⟨hk.1, ⟨hk.2.1, ⟨hk.2.2.1, hk.2.2.2⟩⟩⟩⟩⟩⟩⟩)⟩, ⟨by (with_reducible repeat (first | apply Kd.R_alloc | apply Kd.R_drewN | apply Kd.R_drew)); exact Kd.R_mono HO452.out (fun _ hk => ⟨hk.1, ⟨hk.2.1, ⟨hk.2.2.1, ⟨hk.2.2.2, ⟨hk.1, ⟨hk.2.1, ⟨hk.2.2.1, hk.2.2.2⟩⟩⟩⟩⟩⟩⟩)⟩, ⟨by (with_reducible repeat (first | apply Kd.R_alloc | apply Kd.R_drewN | apply Kd.R_drew)); exact Kd.R_mono HO455.out (fun _ hk => ⟨hk.1, ⟨hk.2.1, ⟨hk.2.2.1, ⟨hk.2.2.2, ⟨hk.1, ⟨hk.2.1, ⟨hk.2.2.1, hk.2.2.2⟩⟩⟩⟩⟩⟩⟩)⟩, ⟨rN HO458.out⟩, ⟨kN BK460.out⟩, ⟨kN BK462.out⟩, ⟨(hB2 HB.out GE460.out GE462.out)⟩⟩
    ·rw [if_neg c24] at H
     have c24b0 : (t464 == 1) = false := beq_eq_false_iff_ne.mpr c24
     have c24b1 : (t464 != 1) = true := bne_iff_ne.mpr c24
     have H' := Aside0.mk H
     clear H
     have hnb31 := NB460_462.out
     have hnc31 := NB462_460.out
     obtain ⟨⟨hcz32_0, hcz32_1, hcz32_2, hcz32_3, hcz32_4, hcz32_5, hcz32_6, hcz32_7, hcz32_8, hcz32_9⟩, hfz32_0, hfz32_1, hfz32_2, hfz32_3, hfz32_4, hfz32_5, hfz32_6, hfz32_7, hfz32_8, hfz32_9⟩ := row10 BK460.out
     go_wp2_with (first | ((with_reducible refine gate_callee (f := 16) rfl ?_); refine goesL_ (some 18) rfl rfl Tryd.func16 (by kernel_rfl) rfl #[.agg #[.int .i64 t436, .int .i64 t437, .slice Ao9 t438.length co9, .slice Ao10 t441.length co10, .slice Ao11 t444.length co11, .slice Ao12 t447.length co12, .slice Ao13 t450.length co13, .slice Ao14 t453.length co14, .slice Ao15 t456.length co15, .int .i64 t459]] rfl gl_ ?_; (with_reducible refine (spec_ConfCheck.calls k t436 t437 _ _ t438 _ _ t441 _ _ t444 _ _ t447 _ _ t450 _ _ t453 _ _ t456 t459 t463 _ ?side1 ?side2 ?side3 ?side4 ?side5 ?side6 ?side7 ?side8 ?side9 ?side10 ?side11 ?side12 ?side13 ?side14 A21.out).mono ?_); (case side1 => refine (Kd.N_reads' (e := 75) (base := w.heap.size) (ok := fun k_ => (((nb Ao10 t441.length co10 k_ ∧ (nb Ao11 t444.length co11 k_ ∧ (nb Ao12 t447.length co12 k_ ∧ (nb Ao13 t450.length co13 k_ ∧ (nb Ao14 t453.length co14 k_ ∧ nb Ao15 t456.length co15 k_))))) ∧ k_ ≠ gb460) ∧ k_ ≠ gb462)) (n := t438.length) (c := co9) ?_).2.2; exact (by (with_reducible repeat (first | apply Kd.N_alloc | apply Kd.N_drewN | apply Kd.N_drew)); exact (Kd.N_mono (Kd.N_far (p := ⟨gb462, 0, none⟩) (Kd.N_far (p := ⟨gb462, 9, none⟩) (Kd.N_far (p := ⟨gb462, 8, none⟩) (Kd.N_far (p := ⟨gb462, 7, none⟩) (Kd.N_far (p := ⟨gb462, 6, none⟩) (Kd.N_far (p := ⟨gb462, 5, none⟩) (Kd.N_far (p := ⟨gb462, 4, none⟩) (Kd.N_far (p := ⟨gb462, 3, none⟩) (Kd.N_far (p := ⟨gb462, 2, none⟩) (Kd.N_far (p := ⟨gb462, 1, none⟩) (Kd.N_far (p := ⟨gb462, 0, none⟩) (Kd.N_mono HO440.out (fun k_ hk => (⟨hk, hk.2⟩ : _ ∧ k_ ≠ gb462))) (fun _ hk => hk.2) (.int .i64 t436)) (fun _ hk => hk.2) (.int .i64 t437)) (fun _ hk => hk.2) (.slice Ao9 t438.length co9)) (fun _ hk => hk.2) (.slice Ao10 t441.length co10)) (fun _ hk => hk.2) (.slice Ao11 t444.length co11)) (fun _ hk => hk.2) (.slice Ao12 t447.length co12)) (fun _ hk => hk.2) (.slice Ao13 t450.length co13)) (fun _ hk => hk.2) (.slice Ao14 t453.length co14)) (fun _ hk => hk.2) (.slice Ao15 t456.length co15)) (fun _ hk => hk.2) (.int .i64 t459)) (fun _ hk => hk.2) (.int .i64 (-1))) (fun _ h_ => h_.1)))); (case side2 => exact (Kd.N_reads' HO440.out).2.1); (case side3 => refine (Kd.R_reads' (e := 3) (base := w.heap.size) (ok := fun k_ => (nb Ao11 t444.length co11 k_ ∧ (nb Ao12 t447.length co12 k_ ∧ (nb Ao13 t450.length co13 k_ ∧ nb Ao14 t453.length co14 k_)))) (n := t441.length) (c := co10) ?_).2.2; exact (frN (Kd.R_types HO443.out BK462.out (by decide)))); (case side4 => exact (Kd.R_reads' HO443.out).2.1); (case side5 => refine (Kd.R_reads' (e := 3) (base := w.heap.size) (ok := fun k_ => (nb Ao10 t441.length co10 k_ ∧ (nb Ao12 t447.length co12 k_ ∧ (nb Ao13 t450.length co13 k_ ∧ nb Ao14 t453.length co14 k_)))) (n := t444.length) (c := co11) ?_).2.2; exact (frN (Kd.R_types HO446.out BK462.out (by decide)))); (case side6 => exact (Kd.R_reads' HO446.out).2.1); (case side7 => refine (Kd.R_reads' (e := 3) (base := w.heap.size) (ok := fun k_ => (nb Ao10 t441.length co10 k_ ∧ (nb Ao11 t444.length co11 k_ ∧ (nb Ao13 t450.length co13 k_ ∧ nb Ao14 t453.length co14 k_)))) (n := t447.length) (c := co12) ?_).2.2; exact (frN (Kd.R_types HO449.out BK462.out (by decide)))); (case side8 => exact (Kd.R_reads' HO449.out).2.1); (case side9 => refine (Kd.R_reads' (e := 3) (base := w.heap.size) (ok := fun k_ => (nb Ao10 t441.length co10 k_ ∧ (nb Ao11 t444.length co11 k_ ∧ (nb Ao12 t447.length co12 k_ ∧ nb Ao14 t453.length co14 k_)))) (n := t450.length) (c := co13) ?_).2.2; exact (frN (Kd.R_types HO452.out BK462.out (by decide)))); (case side10 => exact (Kd.R_reads' HO452.out).2.1); (case side11 => refine (Kd.R_reads' (e := 3) (base := w.heap.size) (ok := fun k_ => (nb Ao10 t441.length co10 k_ ∧ (nb Ao11 t444.length co11 k_ ∧ (nb Ao12 t447.length co12 k_ ∧ nb Ao13 t450.length co13 k_)))) (n := t453.length) (c := co14) ?_).2.2; exact (frN (Kd.R_types HO455.out BK462.out (by decide)))); (case side12 => exact (Kd.R_reads' HO455.out).2.1); (case side13 => refine (Kd.R_reads' (e := 78) (base := w.heap.size) (ok := fun k_ => True) (n := t456.length) (c := co15) ?_).2.2; exact (frN (Kd.R_types HO458.out BK462.out (by decide)))); (case side14 => exact (Kd.R_reads' HO458.out).2.1); rintro e w33 ⟨rfl, hb⟩; refine ⟨_, rfl, ?_⟩; have n0_ := m_ (Kd.N_below (by (with_reducible repeat (first | apply Kd.N_alloc | apply Kd.N_drewN | apply Kd.N_drew)); exact (Kd.N_mono (Kd.N_far (p := ⟨gb462, 0, none⟩) (Kd.N_far (p := ⟨gb462, 9, none⟩) (Kd.N_far (p := ⟨gb462, 8, none⟩) (Kd.N_far (p := ⟨gb462, 7, none⟩) (Kd.N_far (p := ⟨gb462, 6, none⟩) (Kd.N_far (p := ⟨gb462, 5, none⟩) (Kd.N_far (p := ⟨gb462, 4, none⟩) (Kd.N_far (p := ⟨gb462, 3, none⟩) (Kd.N_far (p := ⟨gb462, 2, none⟩) (Kd.N_far (p := ⟨gb462, 1, none⟩) (Kd.N_far (p := ⟨gb462, 0, none⟩) (Kd.N_mono HO440.out (fun k_ hk => (⟨hk, hk.2⟩ : _ ∧ k_ ≠ gb462))) (fun _ hk => hk.2) (.int .i64 t436)) (fun _ hk => hk.2) (.int .i64 t437)) (fun _ hk => hk.2) (.slice Ao9 t438.length co9)) (fun _ hk => hk.2) (.slice Ao10 t441.length co10)) (fun _ hk => hk.2) (.slice Ao11 t444.length co11)) (fun _ hk => hk.2) (.slice Ao12 t447.length co12)) (fun _ hk => hk.2) (.slice Ao13 t450.length co13)) (fun _ hk => hk.2) (.slice Ao14 t453.length co14)) (fun _ hk => hk.2) (.slice Ao15 t456.length co15)) (fun _ hk => hk.2) (.int .i64 t459)) (fun _ hk => hk.2) (.int .i64 (-1))) (fun _ h_ => h_.1))) hb); have n1_ := m_ (Kd.R_below (frN (Kd.R_types HO443.out BK462.out (by decide))) hb); have n2_ := m_ (Kd.R_below (frN (Kd.R_types HO446.out BK462.out (by decide))) hb); have n3_ := m_ (Kd.R_below (frN (Kd.R_types HO449.out BK462.out (by decide))) hb); have n4_ := m_ (Kd.R_below (frN (Kd.R_types HO452.out BK462.out (by decide))) hb); have n5_ := m_ (Kd.R_below (frN (Kd.R_types HO455.out BK462.out (by decide))) hb); have n6_ := m_ (Kd.R_below (frN (Kd.R_types HO458.out BK462.out (by decide))) hb); have n7_ := m_ (blk_below (g := gb460) (o := .cells #[.int .i64 t436, .int .i64 t437, .slice Ao9 t438.length co9, .slice Ao10 t441.length co10, .slice Ao11 t444.length co11, .slice Ao12 t447.length co12, .slice Ao13 t450.length co13, .slice Ao14 t453.length co14, .slice Ao15 t456.length co15, .int .i64 t459] 32 (0, 0)) (kF BK460.out NB460_462.out) hb); have n8_ := m_ (blk_below (g := gb462) (o := .cells #[.int .i64 (-1), .int .i64 t437, .slice Ao9 t438.length co9, .slice Ao10 t441.length co10, .slice Ao11 t444.length co11, .slice Ao12 t447.length co12, .slice Ao13 t450.length co13, .slice Ao14 t453.length co14, .slice Ao15 t456.length co15, .int .i64 t459] 32 (0, 0)) (by (with_reducible repeat (first | refine blk_drewN ?_ _ | refine blk_drew ?_ | refine blk_alloc ?_ _)); refine blk_put (cs := #[.int .i64 t436, .int .i64 t437, .slice Ao9 t438.length co9, .slice Ao10 t441.length co10, .slice Ao11 t444.length co11, .slice Ao12 t447.length co12, .slice Ao13 t450.length co13, .slice Ao14 t453.length co14, .slice Ao15 t456.length co15, .int .i64 t459]) ?_ 0 _ rfl; (with_reducible repeat (first | refine blk_drewN ?_ _ | refine blk_drew ?_ | refine blk_alloc ?_ _)); apply put10; (with_reducible repeat (first | refine blk_drewN ?_ _ | refine blk_drew ?_ | refine blk_alloc ?_ _)); exact BK462.out) hb); have n9_ := m_ (below_step (bN HB.out) hb); clear HO440 HO443 HO446 HO449 HO452 HO455 HO458 BK460 BK462 HB; have HO440 := n0_; have HO443 := n1_; have HO446 := n2_; have HO449 := n3_; have HO452 := n4_; have HO455 := n5_; have HO458 := n6_; have BK460 := n7_; have BK462 := n8_; have HB := n9_; clear n0_ n1_ n2_ n3_ n4_ n5_ n6_ n7_ n8_ n9_; (try clear hb); (try clear hb2); (try clear hk); (try clear hi); obtain ⟨⟨hcz34_0, hcz34_1, hcz34_2, hcz34_3, hcz34_4, hcz34_5, hcz34_6, hcz34_7, hcz34_8, hcz34_9⟩, hfz34_0, hfz34_1, hfz34_2, hfz34_3, hfz34_4, hfz34_5, hfz34_6, hfz34_7, hfz34_8, hfz34_9⟩ := row10 BK462.out) | (go_at_call 15; (with_reducible refine (impl_ConfCheck.calls k (-1) t437 _ _ t438 _ _ t441 _ _ t444 _ _ t447 _ _ t450 _ _ t453 _ _ t456 t459 t464 _ ?side1 ?side2 ?side3 ?side4 ?side5 ?side6 ?side7 ?side8 ?side9 ?side10 ?side11 ?side12 ?side13 ?side14 A23.out ?sideG).mono ?_); (case sideG => exact GErr.below (bN HB.out) HG0.out); (case side1 => exact cN (Kd.N_reads' HO440.out).2.2); (case side2 => exact (Kd.N_reads' HO440.out).2.1); (case side3 => exact cN (Kd.R_reads' HO443.out).2.2); (case side4 => exact (Kd.R_reads' HO443.out).2.1); (case side5 => exact cN (Kd.R_reads' HO446.out).2.2); (case side6 => exact (Kd.R_reads' HO446.out).2.1); (case side7 => exact cN (Kd.R_reads' HO449.out).2.2); (case side8 => exact (Kd.R_reads' HO449.out).2.1); (case side9 => exact cN (Kd.R_reads' HO452.out).2.2); (case side10 => exact (Kd.R_reads' HO452.out).2.1); (case side11 => exact cN (Kd.R_reads' HO455.out).2.2); (case side12 => exact (Kd.R_reads' HO455.out).2.1); (case side13 => exact cN (Kd.R_reads' HO458.out).2.2); (case side14 => exact (Kd.R_reads' HO458.out).2.1); rintro e w35 ⟨rfl, hb⟩; have n0_ := m_ (Kd.N_below (by (with_reducible repeat (first | apply Kd.N_alloc | apply Kd.N_drewN | apply Kd.N_drew)); exact HO440.out) hb); have n1_ := m_ (Kd.R_below (rN HO443.out) hb); have n2_ := m_ (Kd.R_below (rN HO446.out) hb); have n3_ := m_ (Kd.R_below (rN HO449.out) hb); have n4_ := m_ (Kd.R_below (rN HO452.out) hb); have n5_ := m_ (Kd.R_below (rN HO455.out) hb); have n6_ := m_ (Kd.R_below (rN HO458.out) hb); have n7_ := m_ (blk_below (kN BK460.out) hb); have n8_ := m_ (blk_below (kN BK462.out) hb); have n9_ := m_ (below_step (bN HB.out) hb); clear HO440 HO443 HO446 HO449 HO452 HO455 HO458 BK460 BK462 HB; have HO440 := n0_; have HO443 := n1_; have HO446 := n2_; have HO449 := n3_; have HO452 := n4_; have HO455 := n5_; have HO458 := n6_; have BK460 := n7_; have BK462 := n8_; have HB := n9_; clear n0_ n1_ n2_ n3_ n4_ n5_ n6_ n7_ n8_ n9_; (try clear hb); (try clear hb2); (try clear hk); (try clear hi)))
     go_meet
     case rel => exact ⟨_, (true), (by first | rfl | (simp; done) | (simp [*]; done)), H', ⟨by first | omega | exact Nat.le_refl _⟩, ⟨by (with_reducible repeat (first | apply Kd.N_alloc | apply Kd.N_drewN | apply Kd.N_drew)); exact Kd.N_mono HO440.out (fun _ hk => ⟨hk.1.1.1, ⟨hk.1.1.2.1, ⟨hk.1.1.2.2.1, ⟨hk.1.1.2.2.2.1, ⟨hk.1.1.2.2.2.2.1, ⟨hk.1.1.2.2.2.2.2, ⟨hk.1.1.1, ⟨hk.1.1.2.1, ⟨hk.1.1.2.2.1, ⟨hk.1.1.2.2.2.1, ⟨hk.1.1.2.2.2.2.1, ⟨hk.1.1.2.2.2.2.2, ⟨hk.1.2, hk.2⟩⟩⟩⟩⟩⟩⟩⟩⟩⟩⟩⟩⟩)⟩, ⟨by (with_reducible repeat (first | apply Kd.R_alloc | apply Kd.R_drewN | apply Kd.R_drew)); exact Kd.R_mono HO443.out (fun _ hk => ⟨hk.1, ⟨hk.2.1, ⟨hk.2.2.1, ⟨hk.2.2.2, ⟨hk.1, ⟨hk.2.1, ⟨hk.2.2.1, hk.2.2.2⟩⟩⟩⟩⟩⟩⟩)⟩, ⟨by (with_reducible repeat (first | apply Kd.R_alloc | apply Kd.R_drewN | apply Kd.R_drew)); exact Kd.R_mono HO446.out (fun _ hk => ⟨hk.1, ⟨hk.2.1, ⟨hk.2.2.1, ⟨hk.2.2.2, ⟨hk.1, ⟨hk.2.1, ⟨hk.2.2.1, hk.2.2.2⟩⟩⟩⟩⟩⟩⟩)⟩, ⟨by (with_reducible repeat (first | apply Kd.R_alloc | apply Kd.R_drewN | apply Kd.R_drew)); exact Kd.R_mono HO449.out (fun _ hk => ⟨hk.1, ⟨hk.2.1, ⟨hk.2.2.1, ⟨hk.2.2.2, ⟨hk.1, ⟨hk.2.1, ⟨hk.2.2.1, hk.2.2.2⟩⟩⟩⟩⟩⟩⟩)⟩, ⟨by (with_reducible repeat (first | apply Kd.R_alloc | apply Kd.R_drewN | apply Kd.R_drew)); exact Kd.R_mono HO452.out (fun _ hk => ⟨hk.1, ⟨hk.2.1, ⟨hk.2.2.1, ⟨hk.2.2.2, ⟨hk.1, ⟨hk.2.1, ⟨hk.2.2.1, hk.2.2.2⟩⟩⟩⟩⟩⟩⟩)⟩, ⟨by (with_reducible repeat (first | apply Kd.R_alloc | apply Kd.R_drewN | apply Kd.R_drew)); exact Kd.R_mono HO455.out (fun _ hk => ⟨hk.1, ⟨hk.2.1, ⟨hk.2.2.1, ⟨hk.2.2.2, ⟨hk.1, ⟨hk.2.1, ⟨hk.2.2.1, hk.2.2.2⟩⟩⟩⟩⟩⟩⟩)⟩, ⟨rN HO458.out⟩, ⟨by (with_reducible repeat (first | apply Kd.N_alloc | apply Kd.N_drewN | apply Kd.N_drew)); exact Kd.N_mono HO440.out (fun _ hk => ⟨hk.1.1.1, ⟨hk.1.1.2.1, ⟨hk.1.1.2.2.1, ⟨hk.1.1.2.2.2.1, ⟨hk.1.1.2.2.2.2.1, ⟨hk.1.1.2.2.2.2.2, ⟨hk.1.1.1, ⟨hk.1.1.2.1, ⟨hk.1.1.2.2.1, ⟨hk.1.1.2.2.2.1, ⟨hk.1.1.2.2.2.2.1, ⟨hk.1.1.2.2.2.2.2, ⟨hk.1.2, hk.2⟩⟩⟩⟩⟩⟩⟩⟩⟩⟩⟩⟩⟩)⟩, ⟨by (with_reducible repeat (first | apply Kd.R_alloc | apply Kd.R_drewN | apply Kd.R_drew)); exact Kd.R_mono HO443.out (fun _ hk => ⟨hk.1, ⟨hk.2.1, ⟨hk.2.2.1, ⟨hk.2.2.2, ⟨hk.1, ⟨hk.2.1, ⟨hk.2.2.1, hk.2.2.2⟩⟩⟩⟩⟩⟩⟩)⟩, ⟨by (with_reducible repeat (first | apply Kd.R_alloc | apply Kd.R_drewN | apply Kd.R_drew)); exact Kd.R_mono HO446.out (fun _ hk => ⟨hk.1, ⟨hk.2.1, ⟨hk.2.2.1, ⟨hk.2.2.2, ⟨hk.1, ⟨hk.2.1, ⟨hk.2.2.1, hk.2.2.2⟩⟩⟩⟩⟩⟩⟩)⟩, ⟨by (with_reducible repeat (first | apply Kd.R_alloc | apply Kd.R_drewN | apply Kd.R_drew)); exact Kd.R_mono HO449.out (fun _ hk => ⟨hk.1, ⟨hk.2.1, ⟨hk.2.2.1, ⟨hk.2.2.2, ⟨hk.1, ⟨hk.2.1, ⟨hk.2.2.1, hk.2.2.2⟩⟩⟩⟩⟩⟩⟩)⟩, ⟨by (with_reducible repeat (first | apply Kd.R_alloc | apply Kd.R_drewN | apply Kd.R_drew)); exact Kd.R_mono HO452.out (fun _ hk => ⟨hk.1, ⟨hk.2.1, ⟨hk.2.2.1, ⟨hk.2.2.2, ⟨hk.1, ⟨hk.2.1, ⟨hk.2.2.1, hk.2.2.2⟩⟩⟩⟩⟩⟩⟩)⟩, ⟨by (with_reducible repeat (first | apply Kd.R_alloc | apply Kd.R_drewN | apply Kd.R_drew)); exact Kd.R_mono HO455.out (fun _ hk => ⟨hk.1, ⟨hk.2.1, ⟨hk.2.2.1, ⟨hk.2.2.2, ⟨hk.1, ⟨hk.2.1, ⟨hk.2.2.1, hk.2.2.2⟩⟩⟩⟩⟩⟩⟩)⟩, ⟨rN HO458.out⟩, ⟨kN BK460.out⟩, ⟨kN BK462.out⟩, ⟨(hB2 HB.out GE460.out GE462.out)⟩⟩
   ·rw [if_neg c22] at H
    have c22b0 : (t461 == t463) = false := beq_eq_false_iff_ne.mpr c22
    have c22b1 : (t461 != t463) = true := bne_iff_ne.mpr c22
    (first | rw [c22b0] | (simp only [i64_w, i32_w]; rw [c22b0]) | skip)
    have H' := Aside0.mk H
    clear H
    have hnb36 := NB460_462.out
    have hnc36 := NB462_460.out
    obtain ⟨⟨hcz37_0, hcz37_1, hcz37_2, hcz37_3, hcz37_4, hcz37_5, hcz37_6, hcz37_7, hcz37_8, hcz37_9⟩, hfz37_0, hfz37_1, hfz37_2, hfz37_3, hfz37_4, hfz37_5, hfz37_6, hfz37_7, hfz37_8, hfz37_9⟩ := row10 BK460.out
    go_wp2_with (first | ((with_reducible refine gate_callee (f := 16) rfl ?_); refine goesL_ (some 18) rfl rfl Tryd.func16 (by kernel_rfl) rfl #[.agg #[.int .i64 t436, .int .i64 t437, .slice Ao9 t438.length co9, .slice Ao10 t441.length co10, .slice Ao11 t444.length co11, .slice Ao12 t447.length co12, .slice Ao13 t450.length co13, .slice Ao14 t453.length co14, .slice Ao15 t456.length co15, .int .i64 t459]] rfl gl_ ?_; (with_reducible refine (spec_ConfCheck.calls k t436 t437 _ _ t438 _ _ t441 _ _ t444 _ _ t447 _ _ t450 _ _ t453 _ _ t456 t459 t463 _ ?side1 ?side2 ?side3 ?side4 ?side5 ?side6 ?side7 ?side8 ?side9 ?side10 ?side11 ?side12 ?side13 ?side14 A21.out).mono ?_); (case side1 => refine (Kd.N_reads' (e := 75) (base := w.heap.size) (ok := fun k_ => (((nb Ao10 t441.length co10 k_ ∧ (nb Ao11 t444.length co11 k_ ∧ (nb Ao12 t447.length co12 k_ ∧ (nb Ao13 t450.length co13 k_ ∧ (nb Ao14 t453.length co14 k_ ∧ nb Ao15 t456.length co15 k_))))) ∧ k_ ≠ gb460) ∧ k_ ≠ gb462)) (n := t438.length) (c := co9) ?_).2.2; exact (by (with_reducible repeat (first | apply Kd.N_alloc | apply Kd.N_drewN | apply Kd.N_drew)); exact (Kd.N_mono (Kd.N_far (p := ⟨gb462, 0, none⟩) (Kd.N_far (p := ⟨gb462, 9, none⟩) (Kd.N_far (p := ⟨gb462, 8, none⟩) (Kd.N_far (p := ⟨gb462, 7, none⟩) (Kd.N_far (p := ⟨gb462, 6, none⟩) (Kd.N_far (p := ⟨gb462, 5, none⟩) (Kd.N_far (p := ⟨gb462, 4, none⟩) (Kd.N_far (p := ⟨gb462, 3, none⟩) (Kd.N_far (p := ⟨gb462, 2, none⟩) (Kd.N_far (p := ⟨gb462, 1, none⟩) (Kd.N_far (p := ⟨gb462, 0, none⟩) (Kd.N_mono HO440.out (fun k_ hk => (⟨hk, hk.2⟩ : _ ∧ k_ ≠ gb462))) (fun _ hk => hk.2) (.int .i64 t436)) (fun _ hk => hk.2) (.int .i64 t437)) (fun _ hk => hk.2) (.slice Ao9 t438.length co9)) (fun _ hk => hk.2) (.slice Ao10 t441.length co10)) (fun _ hk => hk.2) (.slice Ao11 t444.length co11)) (fun _ hk => hk.2) (.slice Ao12 t447.length co12)) (fun _ hk => hk.2) (.slice Ao13 t450.length co13)) (fun _ hk => hk.2) (.slice Ao14 t453.length co14)) (fun _ hk => hk.2) (.slice Ao15 t456.length co15)) (fun _ hk => hk.2) (.int .i64 t459)) (fun _ hk => hk.2) (.int .i64 (-1))) (fun _ h_ => h_.1)))); (case side2 => exact (Kd.N_reads' HO440.out).2.1); (case side3 => refine (Kd.R_reads' (e := 3) (base := w.heap.size) (ok := fun k_ => (nb Ao11 t444.length co11 k_ ∧ (nb Ao12 t447.length co12 k_ ∧ (nb Ao13 t450.length co13 k_ ∧ nb Ao14 t453.length co14 k_)))) (n := t441.length) (c := co10) ?_).2.2; exact (frN (Kd.R_types HO443.out BK462.out (by decide)))); (case side4 => exact (Kd.R_reads' HO443.out).2.1); (case side5 => refine (Kd.R_reads' (e := 3) (base := w.heap.size) (ok := fun k_ => (nb Ao10 t441.length co10 k_ ∧ (nb Ao12 t447.length co12 k_ ∧ (nb Ao13 t450.length co13 k_ ∧ nb Ao14 t453.length co14 k_)))) (n := t444.length) (c := co11) ?_).2.2; exact (frN (Kd.R_types HO446.out BK462.out (by decide)))); (case side6 => exact (Kd.R_reads' HO446.out).2.1); (case side7 => refine (Kd.R_reads' (e := 3) (base := w.heap.size) (ok := fun k_ => (nb Ao10 t441.length co10 k_ ∧ (nb Ao11 t444.length co11 k_ ∧ (nb Ao13 t450.length co13 k_ ∧ nb Ao14 t453.length co14 k_)))) (n := t447.length) (c := co12) ?_).2.2; exact (frN (Kd.R_types HO449.out BK462.out (by decide)))); (case side8 => exact (Kd.R_reads' HO449.out).2.1); (case side9 => refine (Kd.R_reads' (e := 3) (base := w.heap.size) (ok := fun k_ => (nb Ao10 t441.length co10 k_ ∧ (nb Ao11 t444.length co11 k_ ∧ (nb Ao12 t447.length co12 k_ ∧ nb Ao14 t453.length co14 k_)))) (n := t450.length) (c := co13) ?_).2.2; exact (frN (Kd.R_types HO452.out BK462.out (by decide)))); (case side10 => exact (Kd.R_reads' HO452.out).2.1); (case side11 => refine (Kd.R_reads' (e := 3) (base := w.heap.size) (ok := fun k_ => (nb Ao10 t441.length co10 k_ ∧ (nb Ao11 t444.length co11 k_ ∧ (nb Ao12 t447.length co12 k_ ∧ nb Ao13 t450.length co13 k_)))) (n := t453.length) (c := co14) ?_).2.2; exact (frN (Kd.R_types HO455.out BK462.out (by decide)))); (case side12 => exact (Kd.R_reads' HO455.out).2.1); (case side13 => refine (Kd.R_reads' (e := 78) (base := w.heap.size) (ok := fun k_ => True) (n := t456.length) (c := co15) ?_).2.2; exact (frN (Kd.R_types HO458.out BK462.out (by decide)))); (case side14 => exact (Kd.R_reads' HO458.out).2.1); rintro e w38 ⟨rfl, hb⟩; refine ⟨_, rfl, ?_⟩; have n0_ := m_ (Kd.N_below (by (with_reducible repeat (first | apply Kd.N_alloc | apply Kd.N_drewN | apply Kd.N_drew)); exact (Kd.N_mono (Kd.N_far (p := ⟨gb462, 0, none⟩) (Kd.N_far (p := ⟨gb462, 9, none⟩) (Kd.N_far (p := ⟨gb462, 8, none⟩) (Kd.N_far (p := ⟨gb462, 7, none⟩) (Kd.N_far (p := ⟨gb462, 6, none⟩) (Kd.N_far (p := ⟨gb462, 5, none⟩) (Kd.N_far (p := ⟨gb462, 4, none⟩) (Kd.N_far (p := ⟨gb462, 3, none⟩) (Kd.N_far (p := ⟨gb462, 2, none⟩) (Kd.N_far (p := ⟨gb462, 1, none⟩) (Kd.N_far (p := ⟨gb462, 0, none⟩) (Kd.N_mono HO440.out (fun k_ hk => (⟨hk, hk.2⟩ : _ ∧ k_ ≠ gb462))) (fun _ hk => hk.2) (.int .i64 t436)) (fun _ hk => hk.2) (.int .i64 t437)) (fun _ hk => hk.2) (.slice Ao9 t438.length co9)) (fun _ hk => hk.2) (.slice Ao10 t441.length co10)) (fun _ hk => hk.2) (.slice Ao11 t444.length co11)) (fun _ hk => hk.2) (.slice Ao12 t447.length co12)) (fun _ hk => hk.2) (.slice Ao13 t450.length co13)) (fun _ hk => hk.2) (.slice Ao14 t453.length co14)) (fun _ hk => hk.2) (.slice Ao15 t456.length co15)) (fun _ hk => hk.2) (.int .i64 t459)) (fun _ hk => hk.2) (.int .i64 (-1))) (fun _ h_ => h_.1))) hb); have n1_ := m_ (Kd.R_below (frN (Kd.R_types HO443.out BK462.out (by decide))) hb); have n2_ := m_ (Kd.R_below (frN (Kd.R_types HO446.out BK462.out (by decide))) hb); have n3_ := m_ (Kd.R_below (frN (Kd.R_types HO449.out BK462.out (by decide))) hb); have n4_ := m_ (Kd.R_below (frN (Kd.R_types HO452.out BK462.out (by decide))) hb); have n5_ := m_ (Kd.R_below (frN (Kd.R_types HO455.out BK462.out (by decide))) hb); have n6_ := m_ (Kd.R_below (frN (Kd.R_types HO458.out BK462.out (by decide))) hb); have n7_ := m_ (blk_below (g := gb460) (o := .cells #[.int .i64 t436, .int .i64 t437, .slice Ao9 t438.length co9, .slice Ao10 t441.length co10, .slice Ao11 t444.length co11, .slice Ao12 t447.length co12, .slice Ao13 t450.length co13, .slice Ao14 t453.length co14, .slice Ao15 t456.length co15, .int .i64 t459] 32 (0, 0)) (kF BK460.out NB460_462.out) hb); have n8_ := m_ (blk_below (g := gb462) (o := .cells #[.int .i64 (-1), .int .i64 t437, .slice Ao9 t438.length co9, .slice Ao10 t441.length co10, .slice Ao11 t444.length co11, .slice Ao12 t447.length co12, .slice Ao13 t450.length co13, .slice Ao14 t453.length co14, .slice Ao15 t456.length co15, .int .i64 t459] 32 (0, 0)) (by (with_reducible repeat (first | refine blk_drewN ?_ _ | refine blk_drew ?_ | refine blk_alloc ?_ _)); refine blk_put (cs := #[.int .i64 t436, .int .i64 t437, .slice Ao9 t438.length co9, .slice Ao10 t441.length co10, .slice Ao11 t444.length co11, .slice Ao12 t447.length co12, .slice Ao13 t450.length co13, .slice Ao14 t453.length co14, .slice Ao15 t456.length co15, .int .i64 t459]) ?_ 0 _ rfl; (with_reducible repeat (first | refine blk_drewN ?_ _ | refine blk_drew ?_ | refine blk_alloc ?_ _)); apply put10; (with_reducible repeat (first | refine blk_drewN ?_ _ | refine blk_drew ?_ | refine blk_alloc ?_ _)); exact BK462.out) hb); have n9_ := m_ (below_step (bN HB.out) hb); clear HO440 HO443 HO446 HO449 HO452 HO455 HO458 BK460 BK462 HB; have HO440 := n0_; have HO443 := n1_; have HO446 := n2_; have HO449 := n3_; have HO452 := n4_; have HO455 := n5_; have HO458 := n6_; have BK460 := n7_; have BK462 := n8_; have HB := n9_; clear n0_ n1_ n2_ n3_ n4_ n5_ n6_ n7_ n8_ n9_; (try clear hb); (try clear hb2); (try clear hk); (try clear hi)))
    go_meet
    case rel => exact ⟨_, (true), (by first | rfl | (simp; done) | (simp [*]; done)), H', ⟨by first | omega | exact Nat.le_refl _⟩, ⟨by (with_reducible repeat (first | apply Kd.N_alloc | apply Kd.N_drewN | apply Kd.N_drew)); exact Kd.N_mono HO440.out (fun _ hk => ⟨hk.1.1.1, ⟨hk.1.1.2.1, ⟨hk.1.1.2.2.1, ⟨hk.1.1.2.2.2.1, ⟨hk.1.1.2.2.2.2.1, ⟨hk.1.1.2.2.2.2.2, ⟨hk.1.1.1, ⟨hk.1.1.2.1, ⟨hk.1.1.2.2.1, ⟨hk.1.1.2.2.2.1, ⟨hk.1.1.2.2.2.2.1, ⟨hk.1.1.2.2.2.2.2, ⟨hk.1.2, hk.2⟩⟩⟩⟩⟩⟩⟩⟩⟩⟩⟩⟩⟩)⟩, ⟨by (with_reducible repeat (first | apply Kd.R_alloc | apply Kd.R_drewN | apply Kd.R_drew)); exact Kd.R_mono HO443.out (fun _ hk => ⟨hk.1, ⟨hk.2.1, ⟨hk.2.2.1, ⟨hk.2.2.2, ⟨hk.1, ⟨hk.2.1, ⟨hk.2.2.1, hk.2.2.2⟩⟩⟩⟩⟩⟩⟩)⟩, ⟨by (with_reducible repeat (first | apply Kd.R_alloc | apply Kd.R_drewN | apply Kd.R_drew)); exact Kd.R_mono HO446.out (fun _ hk => ⟨hk.1, ⟨hk.2.1, ⟨hk.2.2.1, ⟨hk.2.2.2, ⟨hk.1, ⟨hk.2.1, ⟨hk.2.2.1, hk.2.2.2⟩⟩⟩⟩⟩⟩⟩)⟩, ⟨by (with_reducible repeat (first | apply Kd.R_alloc | apply Kd.R_drewN | apply Kd.R_drew)); exact Kd.R_mono HO449.out (fun _ hk => ⟨hk.1, ⟨hk.2.1, ⟨hk.2.2.1, ⟨hk.2.2.2, ⟨hk.1, ⟨hk.2.1, ⟨hk.2.2.1, hk.2.2.2⟩⟩⟩⟩⟩⟩⟩)⟩, ⟨by (with_reducible repeat (first | apply Kd.R_alloc | apply Kd.R_drewN | apply Kd.R_drew)); exact Kd.R_mono HO452.out (fun _ hk => ⟨hk.1, ⟨hk.2.1, ⟨hk.2.2.1, ⟨hk.2.2.2, ⟨hk.1, ⟨hk.2.1, ⟨hk.2.2.1, hk.2.2.2⟩⟩⟩⟩⟩⟩⟩)⟩, ⟨by (with_reducible repeat (first | apply Kd.R_alloc | apply Kd.R_drewN | apply Kd.R_drew)); exact Kd.R_mono HO455.out (fun _ hk => ⟨hk.1, ⟨hk.2.1, ⟨hk.2.2.1, ⟨hk.2.2.2, ⟨hk.1, ⟨hk.2.1, ⟨hk.2.2.1, hk.2.2.2⟩⟩⟩⟩⟩⟩⟩)⟩, ⟨rN HO458.out⟩, ⟨by (with_reducible repeat (first | apply Kd.N_alloc | apply Kd.N_drewN | apply Kd.N_drew)); exact Kd.N_mono HO440.out (fun _ hk => ⟨hk.1.1.1, ⟨hk.1.1.2.1, ⟨hk.1.1.2.2.1, ⟨hk.1.1.2.2.2.1, ⟨hk.1.1.2.2.2.2.1, ⟨hk.1.1.2.2.2.2.2, ⟨hk.1.1.1, ⟨hk.1.1.2.1, ⟨hk.1.1.2.2.1, ⟨hk.1.1.2.2.2.1, ⟨hk.1.1.2.2.2.2.1, ⟨hk.1.1.2.2.2.2.2, ⟨hk.1.2, hk.2⟩⟩⟩⟩⟩⟩⟩⟩⟩⟩⟩⟩⟩)⟩, ⟨by (with_reducible repeat (first | apply Kd.R_alloc | apply Kd.R_drewN | apply Kd.R_drew)); exact Kd.R_mono HO443.out (fun _ hk => ⟨hk.1, ⟨hk.2.1, ⟨hk.2.2.1, ⟨hk.2.2.2, ⟨hk.1, ⟨hk.2.1, ⟨hk.2.2.1, hk.2.2.2⟩⟩⟩⟩⟩⟩⟩)⟩, ⟨by (with_reducible repeat (first | apply Kd.R_alloc | apply Kd.R_drewN | apply Kd.R_drew)); exact Kd.R_mono HO446.out (fun _ hk => ⟨hk.1, ⟨hk.2.1, ⟨hk.2.2.1, ⟨hk.2.2.2, ⟨hk.1, ⟨hk.2.1, ⟨hk.2.2.1, hk.2.2.2⟩⟩⟩⟩⟩⟩⟩)⟩, ⟨by (with_reducible repeat (first | apply Kd.R_alloc | apply Kd.R_drewN | apply Kd.R_drew)); exact Kd.R_mono HO449.out (fun _ hk => ⟨hk.1, ⟨hk.2.1, ⟨hk.2.2.1, ⟨hk.2.2.2, ⟨hk.1, ⟨hk.2.1, ⟨hk.2.2.1, hk.2.2.2⟩⟩⟩⟩⟩⟩⟩)⟩, ⟨by (with_reducible repeat (first | apply Kd.R_alloc | apply Kd.R_drewN | apply Kd.R_drew)); exact Kd.R_mono HO452.out (fun _ hk => ⟨hk.1, ⟨hk.2.1, ⟨hk.2.2.1, ⟨hk.2.2.2, ⟨hk.1, ⟨hk.2.1, ⟨hk.2.2.1, hk.2.2.2⟩⟩⟩⟩⟩⟩⟩)⟩, ⟨by (with_reducible repeat (first | apply Kd.R_alloc | apply Kd.R_drewN | apply Kd.R_drew)); exact Kd.R_mono HO455.out (fun _ hk => ⟨hk.1, ⟨hk.2.1, ⟨hk.2.2.1, ⟨hk.2.2.2, ⟨hk.1, ⟨hk.2.1, ⟨hk.2.2.1, hk.2.2.2⟩⟩⟩⟩⟩⟩⟩)⟩, ⟨rN HO458.out⟩, ⟨kN BK460.out⟩, ⟨kN BK462.out⟩, ⟨(hB2 HB.out GE460.out GE462.out)⟩⟩
  case rest =>
   clear HC5
   try clear c1
   try clear c2
   try clear c2b0
   try clear c2b1
   try clear p2
   try clear c3
   try clear c4
   try clear c14
   try clear c15
   try clear c16
   try clear c19
   try clear c22
   try clear c22b0
   try clear c22b1
   try clear c24
   try clear c24b0
   try clear c24b1
   try clear c26
   try clear c31
   try clear c36
   obtain ⟨kq, x29_4, rfl, HA, HJ4, HO_461002, HO_461003, HO_461004, HO_461005, HO_461006, HO_461007, HO_461008, HO_463002, HO_463003, HO_463004, HO_463005, HO_463006, HO_463007, HO_463008, BK460, BK462, HB⟩ := hcut
   cases kq with
   | zero => exact absurd HA.out (by simp [laws_FnConfCheck.j0])
   | succ kj4 =>
    have H := HA.out
    clear HA
    simp only [laws_FnConfCheck.j0] at H
    by_cases c39 : x29_4 = true
    ·subst c39
     have H1 : (none) = some r := by rw [if_pos rfl] at H; exact H
     exact nomatch H1
    ·replace c39 := Bool.eq_false_iff.mpr c39
     subst c39
     have H1 : (laws_FnConfCheck.l0 kj4 t461 0 t436 t437 t438 t441 t444 t447 t450 t453 t456 t459) = some r := by rw [if_neg (show ¬ (false = true) by decide)] at H; exact H
     clear H
     have H := H1
     clear H1
     have H' := Aside0.mk H
     clear H
     go_wp2
     go_loopg [6] kj4 (fun kq v6 w' => ∃ (x6_2 : Int), v6 = .int .i64 x6_2 ∧ Aside0 (laws_FnConfCheck.l0 kq t461 x6_2 t436 t437 t438 t441 t444 t447 t450 t453 t456 t459 = some r) ∧ Aside0 (kq ≤ kj4) ∧ Aside0 (Kd.N (Kd.slice 107 k107) 75 w' w.heap.size (fun k_ => some k_ ≠ ((.slice Ao10 t441.length co10) : Value).ownBlock ∧ some k_ ≠ ((.slice Ao11 t444.length co11) : Value).ownBlock ∧ some k_ ≠ ((.slice Ao12 t447.length co12) : Value).ownBlock ∧ some k_ ≠ ((.slice Ao13 t450.length co13) : Value).ownBlock ∧ some k_ ≠ ((.slice Ao14 t453.length co14) : Value).ownBlock ∧ some k_ ≠ ((.slice Ao15 t456.length co15) : Value).ownBlock ∧ some k_ ≠ ((.slice Ao10 t441.length co10) : Value).ownBlock ∧ some k_ ≠ ((.slice Ao11 t444.length co11) : Value).ownBlock ∧ some k_ ≠ ((.slice Ao12 t447.length co12) : Value).ownBlock ∧ some k_ ≠ ((.slice Ao13 t450.length co13) : Value).ownBlock ∧ some k_ ≠ ((.slice Ao14 t453.length co14) : Value).ownBlock ∧ some k_ ≠ ((.slice Ao15 t456.length co15) : Value).ownBlock ∧ k_ ≠ gb460 ∧ k_ ≠ gb462) (.slice Ao9 t438.length co9) t438) ∧ Aside0 (Kd.R (Kd.int .i64) 3 w' w.heap.size (fun k_ => some k_ ≠ ((.slice Ao11 t444.length co11) : Value).ownBlock ∧ some k_ ≠ ((.slice Ao12 t447.length co12) : Value).ownBlock ∧ some k_ ≠ ((.slice Ao13 t450.length co13) : Value).ownBlock ∧ some k_ ≠ ((.slice Ao14 t453.length co14) : Value).ownBlock ∧ some k_ ≠ ((.slice Ao11 t444.length co11) : Value).ownBlock ∧ some k_ ≠ ((.slice Ao12 t447.length co12) : Value).ownBlock ∧ some k_ ≠ ((.slice Ao13 t450.length co13) : Value).ownBlock ∧ some k_ ≠ ((.slice Ao14 t453.length co14) : Value).ownBlock) (.slice Ao10 t441.length co10) t441) ∧ Aside0 (Kd.R (Kd.int .i64) 3 w' w.heap.size (fun k_ => some k_ ≠ ((.slice Ao10 t441.length co10) : Value).ownBlock ∧ some k_ ≠ ((.slice Ao12 t447.length co12) : Value).ownBlock ∧ some k_ ≠ ((.slice Ao13 t450.length co13) : Value).ownBlock ∧ some k_ ≠ ((.slice Ao14 t453.length co14) : Value).ownBlock ∧ some k_ ≠ ((.slice Ao10 t441.length co10) : Value).ownBlock ∧ some k_ ≠ ((.slice Ao12 t447.length co12) : Value).ownBlock ∧ some k_ ≠ ((.slice Ao13 t450.length co13) : Value).ownBlock ∧ some k_ ≠ ((.slice Ao14 t453.length co14) : Value).ownBlock) (.slice Ao11 t444.length co11) t444) ∧ Aside0 (Kd.R (Kd.int .i64) 3 w' w.heap.size (fun k_ => some k_ ≠ ((.slice Ao10 t441.length co10) : Value).ownBlock ∧ some k_ ≠ ((.slice Ao11 t444.length co11) : Value).ownBlock ∧ some k_ ≠ ((.slice Ao13 t450.length co13) : Value).ownBlock ∧ some k_ ≠ ((.slice Ao14 t453.length co14) : Value).ownBlock ∧ some k_ ≠ ((.slice Ao10 t441.length co10) : Value).ownBlock ∧ some k_ ≠ ((.slice Ao11 t444.length co11) : Value).ownBlock ∧ some k_ ≠ ((.slice Ao13 t450.length co13) : Value).ownBlock ∧ some k_ ≠ ((.slice Ao14 t453.length co14) : Value).ownBlock) (.slice Ao12 t447.length co12) t447) ∧ Aside0 (Kd.R (Kd.int .i64) 3 w' w.heap.size (fun k_ => some k_ ≠ ((.slice Ao10 t441.length co10) : Value).ownBlock ∧ some k_ ≠ ((.slice Ao11 t444.length co11) : Value).ownBlock ∧ some k_ ≠ ((.slice Ao12 t447.length co12) : Value).ownBlock ∧ some k_ ≠ ((.slice Ao14 t453.length co14) : Value).ownBlock ∧ some k_ ≠ ((.slice Ao10 t441.length co10) : Value).ownBlock ∧ some k_ ≠ ((.slice Ao11 t444.length co11) : Value).ownBlock ∧ some k_ ≠ ((.slice Ao12 t447.length co12) : Value).ownBlock ∧ some k_ ≠ ((.slice Ao14 t453.length co14) : Value).ownBlock) (.slice Ao13 t450.length co13) t450) ∧ Aside0 (Kd.R (Kd.int .i64) 3 w' w.heap.size (fun k_ => some k_ ≠ ((.slice Ao10 t441.length co10) : Value).ownBlock ∧ some k_ ≠ ((.slice Ao11 t444.length co11) : Value).ownBlock ∧ some k_ ≠ ((.slice Ao12 t447.length co12) : Value).ownBlock ∧ some k_ ≠ ((.slice Ao13 t450.length co13) : Value).ownBlock ∧ some k_ ≠ ((.slice Ao10 t441.length co10) : Value).ownBlock ∧ some k_ ≠ ((.slice Ao11 t444.length co11) : Value).ownBlock ∧ some k_ ≠ ((.slice Ao12 t447.length co12) : Value).ownBlock ∧ some k_ ≠ ((.slice Ao13 t450.length co13) : Value).ownBlock) (.slice Ao14 t453.length co14) t453) ∧ Aside0 (Kd.R k78 78 w' w.heap.size (fun _ => True) (.slice Ao15 t456.length co15) t456) ∧ Aside0 (Kd.N (Kd.slice 107 k107) 75 w' w.heap.size (fun k_ => some k_ ≠ ((.slice Ao10 t441.length co10) : Value).ownBlock ∧ some k_ ≠ ((.slice Ao11 t444.length co11) : Value).ownBlock ∧ some k_ ≠ ((.slice Ao12 t447.length co12) : Value).ownBlock ∧ some k_ ≠ ((.slice Ao13 t450.length co13) : Value).ownBlock ∧ some k_ ≠ ((.slice Ao14 t453.length co14) : Value).ownBlock ∧ some k_ ≠ ((.slice Ao15 t456.length co15) : Value).ownBlock ∧ some k_ ≠ ((.slice Ao10 t441.length co10) : Value).ownBlock ∧ some k_ ≠ ((.slice Ao11 t444.length co11) : Value).ownBlock ∧ some k_ ≠ ((.slice Ao12 t447.length co12) : Value).ownBlock ∧ some k_ ≠ ((.slice Ao13 t450.length co13) : Value).ownBlock ∧ some k_ ≠ ((.slice Ao14 t453.length co14) : Value).ownBlock ∧ some k_ ≠ ((.slice Ao15 t456.length co15) : Value).ownBlock ∧ k_ ≠ gb460 ∧ k_ ≠ gb462) (.slice Ao9 t438.length co9) t438) ∧ Aside0 (Kd.R (Kd.int .i64) 3 w' w.heap.size (fun k_ => some k_ ≠ ((.slice Ao11 t444.length co11) : Value).ownBlock ∧ some k_ ≠ ((.slice Ao12 t447.length co12) : Value).ownBlock ∧ some k_ ≠ ((.slice Ao13 t450.length co13) : Value).ownBlock ∧ some k_ ≠ ((.slice Ao14 t453.length co14) : Value).ownBlock ∧ some k_ ≠ ((.slice Ao11 t444.length co11) : Value).ownBlock ∧ some k_ ≠ ((.slice Ao12 t447.length co12) : Value).ownBlock ∧ some k_ ≠ ((.slice Ao13 t450.length co13) : Value).ownBlock ∧ some k_ ≠ ((.slice Ao14 t453.length co14) : Value).ownBlock) (.slice Ao10 t441.length co10) t441) ∧ Aside0 (Kd.R (Kd.int .i64) 3 w' w.heap.size (fun k_ => some k_ ≠ ((.slice Ao10 t441.length co10) : Value).ownBlock ∧ some k_ ≠ ((.slice Ao12 t447.length co12) : Value).ownBlock ∧ some k_ ≠ ((.slice Ao13 t450.length co13) : Value).ownBlock ∧ some k_ ≠ ((.slice Ao14 t453.length co14) : Value).ownBlock ∧ some k_ ≠ ((.slice Ao10 t441.length co10) : Value).ownBlock ∧ some k_ ≠ ((.slice Ao12 t447.length co12) : Value).ownBlock ∧ some k_ ≠ ((.slice Ao13 t450.length co13) : Value).ownBlock ∧ some k_ ≠ ((.slice Ao14 t453.length co14) : Value).ownBlock) (.slice Ao11 t444.length co11) t444) ∧ Aside0 (Kd.R (Kd.int .i64) 3 w' w.heap.size (fun k_ => some k_ ≠ ((.slice Ao10 t441.length co10) : Value).ownBlock ∧ some k_ ≠ ((.slice Ao11 t444.length co11) : Value).ownBlock ∧ some k_ ≠ ((.slice Ao13 t450.length co13) : Value).ownBlock ∧ some k_ ≠ ((.slice Ao14 t453.length co14) : Value).ownBlock ∧ some k_ ≠ ((.slice Ao10 t441.length co10) : Value).ownBlock ∧ some k_ ≠ ((.slice Ao11 t444.length co11) : Value).ownBlock ∧ some k_ ≠ ((.slice Ao13 t450.length co13) : Value).ownBlock ∧ some k_ ≠ ((.slice Ao14 t453.length co14) : Value).ownBlock) (.slice Ao12 t447.length co12) t447) ∧ Aside0 (Kd.R (Kd.int .i64) 3 w' w.heap.size (fun k_ => some k_ ≠ ((.slice Ao10 t441.length co10) : Value).ownBlock ∧ some k_ ≠ ((.slice Ao11 t444.length co11) : Value).ownBlock ∧ some k_ ≠ ((.slice Ao12 t447.length co12) : Value).ownBlock ∧ some k_ ≠ ((.slice Ao14 t453.length co14) : Value).ownBlock ∧ some k_ ≠ ((.slice Ao10 t441.length co10) : Value).ownBlock ∧ some k_ ≠ ((.slice Ao11 t444.length co11) : Value).ownBlock ∧ some k_ ≠ ((.slice Ao12 t447.length co12) : Value).ownBlock ∧ some k_ ≠ ((.slice Ao14 t453.length co14) : Value).ownBlock) (.slice Ao13 t450.length co13) t450) ∧ Aside0 (Kd.R (Kd.int .i64) 3 w' w.heap.size (fun k_ => some k_ ≠ ((.slice Ao10 t441.length co10) : Value).ownBlock ∧ some k_ ≠ ((.slice Ao11 t444.length co11) : Value).ownBlock ∧ some k_ ≠ ((.slice Ao12 t447.length co12) : Value).ownBlock ∧ some k_ ≠ ((.slice Ao13 t450.length co13) : Value).ownBlock ∧ some k_ ≠ ((.slice Ao10 t441.length co10) : Value).ownBlock ∧ some k_ ≠ ((.slice Ao11 t444.length co11) : Value).ownBlock ∧ some k_ ≠ ((.slice Ao12 t447.length co12) : Value).ownBlock ∧ some k_ ≠ ((.slice Ao13 t450.length co13) : Value).ownBlock) (.slice Ao14 t453.length co14) t453) ∧ Aside0 (Kd.R k78 78 w' w.heap.size (fun _ => True) (.slice Ao15 t456.length co15) t456) ∧ Aside0 (w'.heap[gb460]? = some (.cells #[.int .i64 t436, .int .i64 t437, (.slice Ao9 t438.length co9), (.slice Ao10 t441.length co10), (.slice Ao11 t444.length co11), (.slice Ao12 t447.length co12), (.slice Ao13 t450.length co13), (.slice Ao14 t453.length co14), (.slice Ao15 t456.length co15), .int .i64 t459] 32 (0, 0))) ∧ Aside0 (w'.heap[gb462]? = some (.cells #[.int .i64 (-1), .int .i64 t437, (.slice Ao9 t438.length co9), (.slice Ao10 t441.length co10), (.slice Ao11 t444.length co11), (.slice Ao12 t447.length co12), (.slice Ao13 t450.length co13), (.slice Ao14 t453.length co14), (.slice Ao15 t456.length co15), .int .i64 t459] 32 (0, 0))) ∧ Aside0 (Below w.heap.size w w'))
     case atStart => exact ⟨(0), (by first | rfl | (simp; done) | (simp [*]; done)), H', ⟨Nat.le_refl _⟩, ⟨by (with_reducible repeat (first | apply Kd.N_alloc | apply Kd.N_drewN | apply Kd.N_drew)); exact HO_461002.out⟩, ⟨rN HO_461003.out⟩, ⟨rN HO_461004.out⟩, ⟨rN HO_461005.out⟩, ⟨rN HO_461006.out⟩, ⟨rN HO_461007.out⟩, ⟨rN HO_461008.out⟩, ⟨by (with_reducible repeat (first | apply Kd.N_alloc | apply Kd.N_drewN | apply Kd.N_drew)); exact HO_463002.out⟩, ⟨rN HO_463003.out⟩, ⟨rN HO_463004.out⟩, ⟨rN HO_463005.out⟩, ⟨rN HO_463006.out⟩, ⟨rN HO_463007.out⟩, ⟨rN HO_463008.out⟩, ⟨kN BK460.out⟩, ⟨kN BK462.out⟩, ⟨(hB2 HB.out GE460.out GE462.out)⟩⟩
     case round =>
      clear H'
      try clear c1
      try clear c2
      try clear c2b0
      try clear c2b1
      try clear p2
      try clear c3
      try clear c4
      try clear c14
      try clear c15
      try clear c16
      try clear c19
      try clear c22
      try clear c22b0
      try clear c22b1
      try clear c24
      try clear c24b0
      try clear c24b1
      try clear c26
      try clear c31
      try clear c36
      try clear c39
      try clear p2
      obtain ⟨x6_2, rfl, HA, HK2, HO_461002, HO_461003, HO_461004, HO_461005, HO_461006, HO_461007, HO_461008, HO_463002, HO_463003, HO_463004, HO_463005, HO_463006, HO_463007, HO_463008, BK460, BK462, HB⟩ := hrel
      cases gk with
      | zero => exact absurd HA.out (by simp [laws_FnConfCheck.l0])
      | succ k2 =>
       have H := HA.out
       clear HA
       simp only [laws_FnConfCheck.l0] at H
       have HC40 := Aside0.mk H
       clear H
       go_upto_region 10 with (fail)
       go_cut [38] (fun v38 wc => ∃ (kq : Nat) (x38_39 : Bool), v38 = .bool x38_39 ∧ Aside0 (laws_FnConfCheck.j2 kq t461 x6_2 x38_39 t436 t437 t438 t441 t444 t447 t450 t453 t456 t459 = some r) ∧ Aside0 (kq ≤ k2) ∧ Aside0 (Kd.N (Kd.slice 107 k107) 75 wc w.heap.size (fun k_ => some k_ ≠ ((.slice Ao10 t441.length co10) : Value).ownBlock ∧ some k_ ≠ ((.slice Ao11 t444.length co11) : Value).ownBlock ∧ some k_ ≠ ((.slice Ao12 t447.length co12) : Value).ownBlock ∧ some k_ ≠ ((.slice Ao13 t450.length co13) : Value).ownBlock ∧ some k_ ≠ ((.slice Ao14 t453.length co14) : Value).ownBlock ∧ some k_ ≠ ((.slice Ao15 t456.length co15) : Value).ownBlock ∧ some k_ ≠ ((.slice Ao10 t441.length co10) : Value).ownBlock ∧ some k_ ≠ ((.slice Ao11 t444.length co11) : Value).ownBlock ∧ some k_ ≠ ((.slice Ao12 t447.length co12) : Value).ownBlock ∧ some k_ ≠ ((.slice Ao13 t450.length co13) : Value).ownBlock ∧ some k_ ≠ ((.slice Ao14 t453.length co14) : Value).ownBlock ∧ some k_ ≠ ((.slice Ao15 t456.length co15) : Value).ownBlock ∧ k_ ≠ gb460 ∧ k_ ≠ gb462) (.slice Ao9 t438.length co9) t438) ∧ Aside0 (Kd.R (Kd.int .i64) 3 wc w.heap.size (fun k_ => some k_ ≠ ((.slice Ao11 t444.length co11) : Value).ownBlock ∧ some k_ ≠ ((.slice Ao12 t447.length co12) : Value).ownBlock ∧ some k_ ≠ ((.slice Ao13 t450.length co13) : Value).ownBlock ∧ some k_ ≠ ((.slice Ao14 t453.length co14) : Value).ownBlock ∧ some k_ ≠ ((.slice Ao11 t444.length co11) : Value).ownBlock ∧ some k_ ≠ ((.slice Ao12 t447.length co12) : Value).ownBlock ∧ some k_ ≠ ((.slice Ao13 t450.length co13) : Value).ownBlock ∧ some k_ ≠ ((.slice Ao14 t453.length co14) : Value).ownBlock) (.slice Ao10 t441.length co10) t441) ∧ Aside0 (Kd.R (Kd.int .i64) 3 wc w.heap.size (fun k_ => some k_ ≠ ((.slice Ao10 t441.length co10) : Value).ownBlock ∧ some k_ ≠ ((.slice Ao12 t447.length co12) : Value).ownBlock ∧ some k_ ≠ ((.slice Ao13 t450.length co13) : Value).ownBlock ∧ some k_ ≠ ((.slice Ao14 t453.length co14) : Value).ownBlock ∧ some k_ ≠ ((.slice Ao10 t441.length co10) : Value).ownBlock ∧ some k_ ≠ ((.slice Ao12 t447.length co12) : Value).ownBlock ∧ some k_ ≠ ((.slice Ao13 t450.length co13) : Value).ownBlock ∧ some k_ ≠ ((.slice Ao14 t453.length co14) : Value).ownBlock) (.slice Ao11 t444.length co11) t444) ∧ Aside0 (Kd.R (Kd.int .i64) 3 wc w.heap.size (fun k_ => some k_ ≠ ((.slice Ao10 t441.length co10) : Value).ownBlock ∧ some k_ ≠ ((.slice Ao11 t444.length co11) : Value).ownBlock ∧ some k_ ≠ ((.slice Ao13 t450.length co13) : Value).ownBlock ∧ some k_ ≠ ((.slice Ao14 t453.length co14) : Value).ownBlock ∧ some k_ ≠ ((.slice Ao10 t441.length co10) : Value).ownBlock ∧ some k_ ≠ ((.slice Ao11 t444.length co11) : Value).ownBlock ∧ some k_ ≠ ((.slice Ao13 t450.length co13) : Value).ownBlock ∧ some k_ ≠ ((.slice Ao14 t453.length co14) : Value).ownBlock) (.slice Ao12 t447.length co12) t447) ∧ Aside0 (Kd.R (Kd.int .i64) 3 wc w.heap.size (fun k_ => some k_ ≠ ((.slice Ao10 t441.length co10) : Value).ownBlock ∧ some k_ ≠ ((.slice Ao11 t444.length co11) : Value).ownBlock ∧ some k_ ≠ ((.slice Ao12 t447.length co12) : Value).ownBlock ∧ some k_ ≠ ((.slice Ao14 t453.length co14) : Value).ownBlock ∧ some k_ ≠ ((.slice Ao10 t441.length co10) : Value).ownBlock ∧ some k_ ≠ ((.slice Ao11 t444.length co11) : Value).ownBlock ∧ some k_ ≠ ((.slice Ao12 t447.length co12) : Value).ownBlock ∧ some k_ ≠ ((.slice Ao14 t453.length co14) : Value).ownBlock) (.slice Ao13 t450.length co13) t450) ∧ Aside0 (Kd.R (Kd.int .i64) 3 wc w.heap.size (fun k_ => some k_ ≠ ((.slice Ao10 t441.length co10) : Value).ownBlock ∧ some k_ ≠ ((.slice Ao11 t444.length co11) : Value).ownBlock ∧ some k_ ≠ ((.slice Ao12 t447.length co12) : Value).ownBlock ∧ some k_ ≠ ((.slice Ao13 t450.length co13) : Value).ownBlock ∧ some k_ ≠ ((.slice Ao10 t441.length co10) : Value).ownBlock ∧ some k_ ≠ ((.slice Ao11 t444.length co11) : Value).ownBlock ∧ some k_ ≠ ((.slice Ao12 t447.length co12) : Value).ownBlock ∧ some k_ ≠ ((.slice Ao13 t450.length co13) : Value).ownBlock) (.slice Ao14 t453.length co14) t453) ∧ Aside0 (Kd.R k78 78 wc w.heap.size (fun _ => True) (.slice Ao15 t456.length co15) t456) ∧ Aside0 (Kd.N (Kd.slice 107 k107) 75 wc w.heap.size (fun k_ => some k_ ≠ ((.slice Ao10 t441.length co10) : Value).ownBlock ∧ some k_ ≠ ((.slice Ao11 t444.length co11) : Value).ownBlock ∧ some k_ ≠ ((.slice Ao12 t447.length co12) : Value).ownBlock ∧ some k_ ≠ ((.slice Ao13 t450.length co13) : Value).ownBlock ∧ some k_ ≠ ((.slice Ao14 t453.length co14) : Value).ownBlock ∧ some k_ ≠ ((.slice Ao15 t456.length co15) : Value).ownBlock ∧ some k_ ≠ ((.slice Ao10 t441.length co10) : Value).ownBlock ∧ some k_ ≠ ((.slice Ao11 t444.length co11) : Value).ownBlock ∧ some k_ ≠ ((.slice Ao12 t447.length co12) : Value).ownBlock ∧ some k_ ≠ ((.slice Ao13 t450.length co13) : Value).ownBlock ∧ some k_ ≠ ((.slice Ao14 t453.length co14) : Value).ownBlock ∧ some k_ ≠ ((.slice Ao15 t456.length co15) : Value).ownBlock ∧ k_ ≠ gb460 ∧ k_ ≠ gb462) (.slice Ao9 t438.length co9) t438) ∧ Aside0 (Kd.R (Kd.int .i64) 3 wc w.heap.size (fun k_ => some k_ ≠ ((.slice Ao11 t444.length co11) : Value).ownBlock ∧ some k_ ≠ ((.slice Ao12 t447.length co12) : Value).ownBlock ∧ some k_ ≠ ((.slice Ao13 t450.length co13) : Value).ownBlock ∧ some k_ ≠ ((.slice Ao14 t453.length co14) : Value).ownBlock ∧ some k_ ≠ ((.slice Ao11 t444.length co11) : Value).ownBlock ∧ some k_ ≠ ((.slice Ao12 t447.length co12) : Value).ownBlock ∧ some k_ ≠ ((.slice Ao13 t450.length co13) : Value).ownBlock ∧ some k_ ≠ ((.slice Ao14 t453.length co14) : Value).ownBlock) (.slice Ao10 t441.length co10) t441) ∧ Aside0 (Kd.R (Kd.int .i64) 3 wc w.heap.size (fun k_ => some k_ ≠ ((.slice Ao10 t441.length co10) : Value).ownBlock ∧ some k_ ≠ ((.slice Ao12 t447.length co12) : Value).ownBlock ∧ some k_ ≠ ((.slice Ao13 t450.length co13) : Value).ownBlock ∧ some k_ ≠ ((.slice Ao14 t453.length co14) : Value).ownBlock ∧ some k_ ≠ ((.slice Ao10 t441.length co10) : Value).ownBlock ∧ some k_ ≠ ((.slice Ao12 t447.length co12) : Value).ownBlock ∧ some k_ ≠ ((.slice Ao13 t450.length co13) : Value).ownBlock ∧ some k_ ≠ ((.slice Ao14 t453.length co14) : Value).ownBlock) (.slice Ao11 t444.length co11) t444) ∧ Aside0 (Kd.R (Kd.int .i64) 3 wc w.heap.size (fun k_ => some k_ ≠ ((.slice Ao10 t441.length co10) : Value).ownBlock ∧ some k_ ≠ ((.slice Ao11 t444.length co11) : Value).ownBlock ∧ some k_ ≠ ((.slice Ao13 t450.length co13) : Value).ownBlock ∧ some k_ ≠ ((.slice Ao14 t453.length co14) : Value).ownBlock ∧ some k_ ≠ ((.slice Ao10 t441.length co10) : Value).ownBlock ∧ some k_ ≠ ((.slice Ao11 t444.length co11) : Value).ownBlock ∧ some k_ ≠ ((.slice Ao13 t450.length co13) : Value).ownBlock ∧ some k_ ≠ ((.slice Ao14 t453.length co14) : Value).ownBlock) (.slice Ao12 t447.length co12) t447) ∧ Aside0 (Kd.R (Kd.int .i64) 3 wc w.heap.size (fun k_ => some k_ ≠ ((.slice Ao10 t441.length co10) : Value).ownBlock ∧ some k_ ≠ ((.slice Ao11 t444.length co11) : Value).ownBlock ∧ some k_ ≠ ((.slice Ao12 t447.length co12) : Value).ownBlock ∧ some k_ ≠ ((.slice Ao14 t453.length co14) : Value).ownBlock ∧ some k_ ≠ ((.slice Ao10 t441.length co10) : Value).ownBlock ∧ some k_ ≠ ((.slice Ao11 t444.length co11) : Value).ownBlock ∧ some k_ ≠ ((.slice Ao12 t447.length co12) : Value).ownBlock ∧ some k_ ≠ ((.slice Ao14 t453.length co14) : Value).ownBlock) (.slice Ao13 t450.length co13) t450) ∧ Aside0 (Kd.R (Kd.int .i64) 3 wc w.heap.size (fun k_ => some k_ ≠ ((.slice Ao10 t441.length co10) : Value).ownBlock ∧ some k_ ≠ ((.slice Ao11 t444.length co11) : Value).ownBlock ∧ some k_ ≠ ((.slice Ao12 t447.length co12) : Value).ownBlock ∧ some k_ ≠ ((.slice Ao13 t450.length co13) : Value).ownBlock ∧ some k_ ≠ ((.slice Ao10 t441.length co10) : Value).ownBlock ∧ some k_ ≠ ((.slice Ao11 t444.length co11) : Value).ownBlock ∧ some k_ ≠ ((.slice Ao12 t447.length co12) : Value).ownBlock ∧ some k_ ≠ ((.slice Ao13 t450.length co13) : Value).ownBlock) (.slice Ao14 t453.length co14) t453) ∧ Aside0 (Kd.R k78 78 wc w.heap.size (fun _ => True) (.slice Ao15 t456.length co15) t456) ∧ Aside0 (wc.heap[gb460]? = some (.cells #[.int .i64 t436, .int .i64 t437, (.slice Ao9 t438.length co9), (.slice Ao10 t441.length co10), (.slice Ao11 t444.length co11), (.slice Ao12 t447.length co12), (.slice Ao13 t450.length co13), (.slice Ao14 t453.length co14), (.slice Ao15 t456.length co15), .int .i64 t459] 32 (0, 0))) ∧ Aside0 (wc.heap[gb462]? = some (.cells #[.int .i64 (-1), .int .i64 t437, (.slice Ao9 t438.length co9), (.slice Ao10 t441.length co10), (.slice Ao11 t444.length co11), (.slice Ao12 t447.length co12), (.slice Ao13 t450.length co13), (.slice Ao14 t453.length co14), (.slice Ao15 t456.length co15), .int .i64 t459] 32 (0, 0))) ∧ Aside0 (Below w.heap.size w wc))
       case first =>
        have H := HC40.out
        clear HC40
        by_cases c41 : x6_2 < (t447.length : Int)
        ·rw [if_pos c41] at H
         have c41b0 : decide (x6_2 < (t447.length : Int)) = true := decide_eq_true c41
         clear c41
         (first | rw [c41b0] | (simp only [i64_w, i32_w]; rw [c41b0]) | skip)
         have H' := Aside0.mk H
         clear H
         have hnb42 := NB460_462.out
         have hnc42 := NB462_460.out
         obtain ⟨⟨hcz43_0, hcz43_1, hcz43_2, hcz43_3, hcz43_4, hcz43_5, hcz43_6, hcz43_7, hcz43_8, hcz43_9⟩, hfz43_0, hfz43_1, hfz43_2, hfz43_3, hfz43_4, hfz43_5, hfz43_6, hfz43_7, hfz43_8, hfz43_9⟩ := row10 BK460.out
         go_wp2
         go_meet
         case rel => exact ⟨_, ((t461 == 0)), (by first | rfl | (simp; done) | (simp [*]; done)), H', ⟨by have := HJ4.out; have := HK2.out; first | omega | exact Nat.le_refl _⟩, ⟨by (with_reducible repeat (first | apply Kd.N_alloc | apply Kd.N_drewN | apply Kd.N_drew)); exact HO_461002.out⟩, ⟨rN HO_461003.out⟩, ⟨rN HO_461004.out⟩, ⟨rN HO_461005.out⟩, ⟨rN HO_461006.out⟩, ⟨rN HO_461007.out⟩, ⟨rN HO_461008.out⟩, ⟨by (with_reducible repeat (first | apply Kd.N_alloc | apply Kd.N_drewN | apply Kd.N_drew)); exact HO_463002.out⟩, ⟨rN HO_463003.out⟩, ⟨rN HO_463004.out⟩, ⟨rN HO_463005.out⟩, ⟨rN HO_463006.out⟩, ⟨rN HO_463007.out⟩, ⟨rN HO_463008.out⟩, ⟨kN BK460.out⟩, ⟨kN BK462.out⟩, ⟨(hB2 HB.out GE460.out GE462.out)⟩⟩
        ·rw [if_neg c41] at H
         have c41b0 : decide (x6_2 < (t447.length : Int)) = false := decide_eq_false c41
         clear c41
         (first | rw [c41b0] | (simp only [i64_w, i32_w]; rw [c41b0]) | skip)
         have H' := Aside0.mk H
         clear H
         have hnb44 := NB460_462.out
         have hnc44 := NB462_460.out
         obtain ⟨⟨hcz45_0, hcz45_1, hcz45_2, hcz45_3, hcz45_4, hcz45_5, hcz45_6, hcz45_7, hcz45_8, hcz45_9⟩, hfz45_0, hfz45_1, hfz45_2, hfz45_3, hfz45_4, hfz45_5, hfz45_6, hfz45_7, hfz45_8, hfz45_9⟩ := row10 BK460.out
         go_wp2
         go_meet
         case rel => exact ⟨_, (false), (by first | rfl | (simp; done) | (simp [*]; done)), H', ⟨by have := HJ4.out; have := HK2.out; first | omega | exact Nat.le_refl _⟩, ⟨by (with_reducible repeat (first | apply Kd.N_alloc | apply Kd.N_drewN | apply Kd.N_drew)); exact HO_461002.out⟩, ⟨rN HO_461003.out⟩, ⟨rN HO_461004.out⟩, ⟨rN HO_461005.out⟩, ⟨rN HO_461006.out⟩, ⟨rN HO_461007.out⟩, ⟨rN HO_461008.out⟩, ⟨by (with_reducible repeat (first | apply Kd.N_alloc | apply Kd.N_drewN | apply Kd.N_drew)); exact HO_463002.out⟩, ⟨rN HO_463003.out⟩, ⟨rN HO_463004.out⟩, ⟨rN HO_463005.out⟩, ⟨rN HO_463006.out⟩, ⟨rN HO_463007.out⟩, ⟨rN HO_463008.out⟩, ⟨kN BK460.out⟩, ⟨kN BK462.out⟩, ⟨(hB2 HB.out GE460.out GE462.out)⟩⟩
       case rest =>
        clear HC40
        try clear c1
        try clear c2
        try clear c2b0
        try clear c2b1
        try clear p2
        try clear c3
        try clear c4
        try clear c14
        try clear c15
        try clear c16
        try clear c19
        try clear c22
        try clear c22b0
        try clear c22b1
        try clear c24
        try clear c24b0
        try clear c24b1
        try clear c26
        try clear c31
        try clear c36
        try clear c39
        try clear c41
        try clear c41b0
        try clear c42
        try clear c44
        try clear p2
        obtain ⟨kq, x38_39, rfl, HA, HJ39, HO_461002, HO_461003, HO_461004, HO_461005, HO_461006, HO_461007, HO_461008, HO_463002, HO_463003, HO_463004, HO_463005, HO_463006, HO_463007, HO_463008, BK460, BK462, HB⟩ := hcut
        cases kq with
        | zero => exact absurd HA.out (by simp [laws_FnConfCheck.j2])
        | succ kj39 =>
         have H := HA.out
         clear HA
         simp only [laws_FnConfCheck.j2] at H
         by_cases c46 : x38_39 = true
         ·subst c46
          have H1 : ((impl_ConfTurn.f kj39 t436 t437 t438 t441 t444 t447 t450 t453 t456 t459 0 x6_2).bind fun t466 => (if 0 ≤ x6_2 then (if x6_2 < (t447.length : Int) then (if t466 = (rd t447 x6_2) then ((impl_ConfTurn.f kj39 t436 t437 t438 t441 t444 t447 t450 t453 t456 t459 1 x6_2).bind fun t468 => (if x6_2 < (t450.length : Int) then (if t468 = (rd t450 x6_2) then ((laws_skIn.f (rd t447 x6_2) (-1) (wrap64 ((t438.length : Int) - 1))).bind fun t471 => (if t471 = true then (laws_FnConfCheck.l0 kj39 t461 (wrap64 (x6_2 + 1)) t436 t437 t438 t441 t444 t447 t450 t453 t456 t459) else (none))) else (none)) else (none))) else (none)) else (none)) else (none))) = some r := by rw [if_pos rfl] at H; exact H
          clear H
          have H := H1
          clear H1
          replace H := Option.bind_eq_some_iff.mp H
          obtain ⟨t466, A470, H⟩ := H
          replace H : (if 0 ≤ x6_2 then (if x6_2 < (t447.length : Int) then (if t466 = (rd t447 x6_2) then ((impl_ConfTurn.f kj39 t436 t437 t438 t441 t444 t447 t450 t453 t456 t459 1 x6_2).bind fun t468 => (if x6_2 < (t450.length : Int) then (if t468 = (rd t450 x6_2) then ((laws_skIn.f (rd t447 x6_2) (-1) (wrap64 ((t438.length : Int) - 1))).bind fun t471 => (if t471 = true then (laws_FnConfCheck.l0 kj39 t461 (wrap64 (x6_2 + 1)) t436 t437 t438 t441 t444 t447 t450 t453 t456 t459) else (none))) else (none)) else (none))) else (none)) else (none)) else (none)) = some r := H
          have A47 := Aside0.mk A470
          clear A470
          by_cases c48 : 0 ≤ x6_2
          ·rw [if_pos c48] at H
           have c48b0 : decide (0 ≤ x6_2) = true := decide_eq_true c48
           clear c48
           by_cases c49 : x6_2 < (t447.length : Int)
           ·rw [if_pos c49] at H
            have c49b0 : decide (x6_2 < (t447.length : Int)) = true := decide_eq_true c49
            clear c49
            by_cases c50 : t466 = (rd t447 x6_2)
            ·rw [if_pos c50] at H
             have c50b0 : (t466 == (rd t447 x6_2)) = true := beq_iff_eq.mpr c50
             have c50b1 : (t466 != (rd t447 x6_2)) = false := bne_eq_false_iff_eq.mpr c50
             clear c50
             replace H := Option.bind_eq_some_iff.mp H
             obtain ⟨t468, A510, H⟩ := H
             replace H : (if x6_2 < (t450.length : Int) then (if t468 = (rd t450 x6_2) then ((laws_skIn.f (rd t447 x6_2) (-1) (wrap64 ((t438.length : Int) - 1))).bind fun t471 => (if t471 = true then (laws_FnConfCheck.l0 kj39 t461 (wrap64 (x6_2 + 1)) t436 t437 t438 t441 t444 t447 t450 t453 t456 t459) else (none))) else (none)) else (none)) = some r := H
             have A51 := Aside0.mk A510
             clear A510
             by_cases c52 : x6_2 < (t450.length : Int)
             ·rw [if_pos c52] at H
              have c52b0 : decide (x6_2 < (t450.length : Int)) = true := decide_eq_true c52
              clear c52
              by_cases c53 : t468 = (rd t450 x6_2)
              ·rw [if_pos c53] at H
               have c53b0 : (t468 == (rd t450 x6_2)) = true := beq_iff_eq.mpr c53
               have c53b1 : (t468 != (rd t450 x6_2)) = false := bne_eq_false_iff_eq.mpr c53
               clear c53
               replace H := Option.bind_eq_some_iff.mp H
               obtain ⟨t471, A540, H⟩ := H
               replace H : (if t471 = true then (laws_FnConfCheck.l0 kj39 t461 (wrap64 (x6_2 + 1)) t436 t437 t438 t441 t444 t447 t450 t453 t456 t459) else (none)) = some r := H
               have A54 := Aside0.mk A540
               clear A540
               by_cases c55 : t471 = true
               ·subst c55
                have H1 : (laws_FnConfCheck.l0 kj39 t461 (wrap64 (x6_2 + 1)) t436 t437 t438 t441 t444 t447 t450 t453 t456 t459) = some r := by rw [if_pos rfl] at H; exact H
                clear H
                have H := H1
                clear H1
                have H' := Aside0.mk H
                clear H
                try go_wp2
                have n0_ := m_ (Kd.N_drew HO_461002.out)
                have n1_ := m_ (Kd.R_drew HO_461003.out)
                have n2_ := m_ (Kd.R_drew HO_461004.out)
                have n3_ := m_ (Kd.R_drew HO_461005.out)
                have n4_ := m_ (Kd.R_drew HO_461006.out)
                have n5_ := m_ (Kd.R_drew HO_461007.out)
                have n6_ := m_ (Kd.R_drew HO_461008.out)
                have n7_ := m_ (Kd.N_drew HO_463002.out)
                have n8_ := m_ (Kd.R_drew HO_463003.out)
                have n9_ := m_ (Kd.R_drew HO_463004.out)
                have n10_ := m_ (Kd.R_drew HO_463005.out)
                have n11_ := m_ (Kd.R_drew HO_463006.out)
                have n12_ := m_ (Kd.R_drew HO_463007.out)
                have n13_ := m_ (Kd.R_drew HO_463008.out)
                have n14_ := m_ (blk_drew BK460.out)
                have n15_ := m_ (blk_drew BK462.out)
                have n16_ := m_ (below_drew1 HB.out)
                clear HO_461002 HO_461003 HO_461004 HO_461005 HO_461006 HO_461007 HO_461008 HO_463002 HO_463003 HO_463004 HO_463005 HO_463006 HO_463007 HO_463008 BK460 BK462 HB
                have HO_461002 := n0_; have HO_461003 := n1_
                have HO_461004 := n2_; have HO_461005 := n3_
                have HO_461006 := n4_; have HO_461007 := n5_
                have HO_461008 := n6_; have HO_463002 := n7_
                have HO_463003 := n8_; have HO_463004 := n9_
                have HO_463005 := n10_; have HO_463006 := n11_
                have HO_463007 := n12_; have HO_463008 := n13_; have BK460 := n14_; have BK462 := n15_; have HB := n16_
                clear n0_ n1_ n2_ n3_ n4_ n5_ n6_ n7_ n8_ n9_ n10_ n11_ n12_ n13_ n14_ n15_ n16_
                have p467 : 0 ≤ (x6_2 : Int) := of_decide_eq_true (by first | (with_reducible assumption) | assumption)
                have q467 : x6_2 < (t447.length : Int) := of_decide_eq_true (by first | (with_reducible assumption) | assumption)
                obtain ⟨ad467, e467, hx467_0⟩ := Kd.at_int (Kd.R_reads' HO_461005.out).2.2 x6_2 p467 q467
                cases e467
                replace p467 := eq_true p467
                replace q467 := eq_true q467
                have p469 : 0 ≤ (x6_2 : Int) := of_decide_eq_true (by first | (with_reducible assumption) | assumption)
                have q469 : x6_2 < (t450.length : Int) := of_decide_eq_true (by first | (with_reducible assumption) | assumption)
                obtain ⟨ad469, e469, hx469_0⟩ := Kd.at_int (Kd.R_reads' HO_461006.out).2.2 x6_2 p469 q469
                cases e469
                replace p469 := eq_true p469
                replace q469 := eq_true q469
                have p470 : 0 ≤ (x6_2 : Int) := of_decide_eq_true (by first | (with_reducible assumption) | assumption)
                have q470 : x6_2 < (t447.length : Int) := of_decide_eq_true (by first | (with_reducible assumption) | assumption)
                obtain ⟨ad470, e470, hx470_0⟩ := Kd.at_int (Kd.R_reads' HO_461005.out).2.2 x6_2 p470 q470
                obtain rfl : ad467 = ad470 := (by injection e470)
                replace p470 := eq_true p470
                replace q470 := eq_true q470
                refine start_ (n := 33) (S := fun w' => w'.cell? ⟨gb460, 0, none⟩ = some (.int .i64 t436) ∧ w'.cell? ⟨gb460, 1, none⟩ = some (.int .i64 t437) ∧ w'.cell? ⟨gb460, 2, none⟩ = some (.slice Ao9 t438.length co9) ∧ w'.cell? ⟨gb460, 3, none⟩ = some (.slice Ao10 t441.length co10) ∧ w'.cell? ⟨gb460, 4, none⟩ = some (.slice Ao11 t444.length co11) ∧ w'.cell? ⟨gb460, 5, none⟩ = some (.slice (some ad467) t447.length co12) ∧ w'.cell? ⟨gb460, 6, none⟩ = some (.slice (some ad469) t450.length co13) ∧ w'.cell? ⟨gb460, 7, none⟩ = some (.slice Ao14 t453.length co14) ∧ w'.cell? ⟨gb460, 8, none⟩ = some (.slice Ao15 t456.length co15) ∧ w'.cell? ⟨gb460, 9, none⟩ = some (.int .i64 t459) ∧ w'.cell? (ad467.add (x6_2).toNat) = some (.int .i64 (rd t447 x6_2)) ∧ w'.cell? (ad469.add (x6_2).toNat) = some (.int .i64 (rd t450 x6_2)) ∧ w'.cell? (ad467.add (x6_2).toNat) = some (.int .i64 (rd t447 x6_2))) (ds := []) #[false, false, false, false, false, false, false, false, false, false, false, false, false, false, false, false, false, false, false, false, false, false, false, false, false, false, false, false, false, false, false, false, false] (by kernel_rfl) rfl rfl ⟨bc BK460 0, bc BK460 1, bc BK460 2, bc BK460 3, bc BK460 4, bc BK460 5, bc BK460 6, bc BK460 7, bc BK460 8, bc BK460 9, hx467_0, hx469_0, hx470_0⟩ (fun hHeld => ?_); refine with_tabW laws_FnConfCheck.tab12 laws_FnConfCheck.bits12 (fun HT_ HW_ => ?_)
                generalize wc.drew = w56 at HO_461002 HO_461003 HO_461004 HO_461005 HO_461006 HO_461007 HO_461008 HO_463002 HO_463003 HO_463004 HO_463005 HO_463006 HO_463007 HO_463008 BK460 BK462 HB hx467_0 hx469_0 hx470_0 hHeld ⊢
                refine pu 1 42 HT_ (h := ?_)
                refine pu 3 44 HT_ (h := ?_)
                refine pu 5 46 HT_ (h := ?_)
                refine take_ (i := 0) (N := some 41) (v := ?_) (a' := ?_) #[true, true, false, true, false, true, false, false, false, false, false, false, false, false, false, false, false, false, false, false, false, false, false, false, false, false, false, false, false, false, false, false, false] rfl rfl (take_ofW HT_.out HW_.out (by kernel_rfl)) (fun _ _ _ h => h) (Or.inl ⟨by rfl, ?_⟩) hHeld ?_ ?_
                rotate_left
                ·rintro w' ⟨s0, s1, s2, s3, s4, s5, s6, s7, s8, s9, s10, s11, s12⟩
                 go_simp
                 with_reducible rfl
                rotate_left
                ·simp only [Act.put, List.setIfInBounds_toArray, List.set_cons_zero, List.set_cons_succ, i64_w, i32_w]
                 rfl
                refine take_ (i := 4) (N := some 45) (v := ?_) (a' := ?_) #[true, true, false, true, true, true, false, false, false, false, false, false, false, false, false, false, false, false, false, false, false, false, false, false, false, false, false, false, false, false, false, false, false] rfl rfl (take_ofW HT_.out HW_.out (by kernel_rfl)) (fun _ _ _ h => h) (Or.inl ⟨by rfl, ?_⟩) hHeld ?_ ?_
                rotate_left
                ·rintro w' ⟨s0, s1, s2, s3, s4, s5, s6, s7, s8, s9, s10, s11, s12⟩
                 go_simp
                 with_reducible rfl
                rotate_left
                ·simp only [Act.put, List.setIfInBounds_toArray, List.set_cons_zero, List.set_cons_succ, i64_w, i32_w]
                 rfl
                refine pu 6 47 HT_ (h := ?_)
                refine take_ (i := 7) (N := some 48) (v := ?_) (a' := ?_) #[true, true, false, true, true, true, true, true, false, false, false, false, false, false, false, false, false, false, false, false, false, false, false, false, false, false, false, false, false, false, false, false, false] rfl rfl (take_ofW HT_.out HW_.out (by kernel_rfl)) (fun _ _ _ h => h) (Or.inl ⟨by rfl, ?_⟩) hHeld ?_ ?_
                rotate_left
                ·rintro w' ⟨s0, s1, s2, s3, s4, s5, s6, s7, s8, s9, s10, s11, s12⟩
                 go_simp
                 with_reducible rfl
                rotate_left
                ·simp only [Act.put, List.setIfInBounds_toArray, List.set_cons_zero, List.set_cons_succ, i64_w, i32_w]
                 rfl
                refine one_ (i := 2) (N := some 43) #[true, true, true, true, true, true, true, true, false, false, false, false, false, false, false, false, false, false, false, false, false, false, false, false, false, false, false, false, false, false, false, false, false] rfl rfl (one_of HT_.out (by kernel_rfl)) (by decide) (fun K hK => ?_)
                refine goes_ Tryd.func12 (by kernel_rfl) rfl #[.agg #[.int .i64 t436, .int .i64 t437, .slice Ao9 t438.length co9, .slice Ao10 t441.length co10, .slice Ao11 t444.length co11, .slice (some ad467) t447.length co12, .slice (some ad469) t450.length co13, .slice Ao14 t453.length co14, .slice Ao15 t456.length co15, .int .i64 t459], .int .i64 0, .int .i64 x6_2] (by rfl) rfl rfl gl_ ?_
                with_reducible refine (impl_ConfTurn.calls kj39 t436 t437 _ _ t438 _ _ t441 _ _ t444 _ _ t447 _ _ t450 _ _ t453 _ _ t456 t459 0 x6_2 t466 _ ?side1 ?side2 ?side3 ?side4 ?side5 ?side6 ?side7 ?side8 ?side9 ?side10 ?side11 ?side12 ?side13 ?side14 A47.out ?sideG).mono ?_
                (case sideG => exact GErr.below (bN HB.out) HG0.out)
                (case side1 => exact cN (Kd.N_reads' HO_461002.out).2.2)
                (case side2 => exact (Kd.N_reads' HO_461002.out).2.1)
                (case side3 => exact cN (Kd.R_reads' HO_461003.out).2.2)
                (case side4 => exact (Kd.R_reads' HO_461003.out).2.1)
                (case side5 => exact cN (Kd.R_reads' HO_461004.out).2.2)
                (case side6 => exact (Kd.R_reads' HO_461004.out).2.1)
                (case side7 => exact cN (Kd.R_reads' HO_461005.out).2.2)
                (case side8 => exact (Kd.R_reads' HO_461005.out).2.1)
                (case side9 => exact cN (Kd.R_reads' HO_461006.out).2.2)
                (case side10 => exact (Kd.R_reads' HO_461006.out).2.1)
                (case side11 => exact cN (Kd.R_reads' HO_461007.out).2.2)
                (case side12 => exact (Kd.R_reads' HO_461007.out).2.1)
                (case side13 => exact cN (Kd.R_reads' HO_461008.out).2.2)
                (case side14 => exact (Kd.R_reads' HO_461008.out).2.1)
                rintro e w57 ⟨rfl, hb⟩
                have HS10_ := (hb.cell (World.block_lt_of_cell? _ _ (hHeld.2.2.2.2.2.2.2.2.2.2.1))).trans (hHeld.2.2.2.2.2.2.2.2.2.2.1)
                have HS11_ := (hb.cell (World.block_lt_of_cell? _ _ (hHeld.2.2.2.2.2.2.2.2.2.2.2.1))).trans (hHeld.2.2.2.2.2.2.2.2.2.2.2.1)
                have HS12_ := (hb.cell (World.block_lt_of_cell? _ _ (hHeld.2.2.2.2.2.2.2.2.2.2.2.2))).trans (hHeld.2.2.2.2.2.2.2.2.2.2.2.2)
                refine ⟨_, rfl, ?_⟩
                have n0_ := m_ (Kd.N_below (by (with_reducible repeat (first | apply Kd.N_alloc | apply Kd.N_drewN | apply Kd.N_drew)); exact HO_461002.out) hb)
                have n1_ := m_ (Kd.R_below (rN HO_461003.out) hb)
                have n2_ := m_ (Kd.R_below (rN HO_461004.out) hb)
                have n3_ := m_ (Kd.R_below (rN HO_461005.out) hb)
                have n4_ := m_ (Kd.R_below (rN HO_461006.out) hb)
                have n5_ := m_ (Kd.R_below (rN HO_461007.out) hb)
                have n6_ := m_ (Kd.R_below (rN HO_461008.out) hb)
                have n7_ := m_ (Kd.N_below (by (with_reducible repeat (first | apply Kd.N_alloc | apply Kd.N_drewN | apply Kd.N_drew)); exact HO_463002.out) hb)
                have n8_ := m_ (Kd.R_below (rN HO_463003.out) hb)
                have n9_ := m_ (Kd.R_below (rN HO_463004.out) hb)
                have n10_ := m_ (Kd.R_below (rN HO_463005.out) hb)
                have n11_ := m_ (Kd.R_below (rN HO_463006.out) hb)
                have n12_ := m_ (Kd.R_below (rN HO_463007.out) hb)
                have n13_ := m_ (Kd.R_below (rN HO_463008.out) hb)
                have n14_ := m_ (blk_below (kN BK460.out) hb)
                have n15_ := m_ (blk_below (kN BK462.out) hb)
                have n16_ := m_ (below_step (bN HB.out) hb)
                clear HO_461002 HO_461003 HO_461004 HO_461005 HO_461006 HO_461007 HO_461008 HO_463002 HO_463003 HO_463004 HO_463005 HO_463006 HO_463007 HO_463008 BK460 BK462 HB
                have HO_461002 := n0_; have HO_461003 := n1_
                have HO_461004 := n2_; have HO_461005 := n3_
                have HO_461006 := n4_; have HO_461007 := n5_
                have HO_461008 := n6_; have HO_463002 := n7_
                have HO_463003 := n8_; have HO_463004 := n9_
                have HO_463005 := n10_; have HO_463006 := n11_
                have HO_463007 := n12_; have HO_463008 := n13_; have BK460 := n14_; have BK462 := n15_; have HB := n16_
                clear n0_ n1_ n2_ n3_ n4_ n5_ n6_ n7_ n8_ n9_ n10_ n11_ n12_ n13_ n14_ n15_ n16_
                (try clear hb)
                (try clear hb2)
                (try clear hk)
                (try clear hi)
                refine hK.out _ _ ⟨bc BK460 0, bc BK460 1, bc BK460 2, bc BK460 3, bc BK460 4, bc BK460 5, bc BK460 6, bc BK460 7, bc BK460 8, bc BK460 9, HS10_, HS11_, HS12_⟩ (fun hHeld => ?_)
                clear hK K
                refine np (h := ?_)
                refine pu 8 49 HT_ (h := ?_)
                refine pu 9 50 HT_ (h := ?_)
                refine pu 11 52 HT_ (h := ?_)
                refine pu 13 54 HT_ (h := ?_)
                refine pu 15 56 HT_ (h := ?_)
                refine take_ (i := 10) (N := some 51) (v := ?_) (a' := ?_) #[true, true, true, true, true, true, true, true, true, true, true, true, false, true, false, true, false, false, false, false, false, false, false, false, false, false, false, false, false, false, false, false, false] rfl rfl (take_ofW HT_.out HW_.out (by kernel_rfl)) (fun _ _ _ h => h) (Or.inl ⟨by rfl, ?_⟩) hHeld ?_ ?_
                rotate_left
                ·rintro w' ⟨s0, s1, s2, s3, s4, s5, s6, s7, s8, s9, s10, s11, s12⟩
                 go_simp
                 with_reducible rfl
                rotate_left
                ·simp only [Act.put, List.setIfInBounds_toArray, List.set_cons_zero, List.set_cons_succ, i64_w, i32_w]
                 rfl
                refine take_ (i := 14) (N := some 55) (v := ?_) (a' := ?_) #[true, true, true, true, true, true, true, true, true, true, true, true, false, true, true, true, false, false, false, false, false, false, false, false, false, false, false, false, false, false, false, false, false] rfl rfl (take_ofW HT_.out HW_.out (by kernel_rfl)) (fun _ _ _ h => h) (Or.inl ⟨by rfl, ?_⟩) hHeld ?_ ?_
                rotate_left
                ·rintro w' ⟨s0, s1, s2, s3, s4, s5, s6, s7, s8, s9, s10, s11, s12⟩
                 go_simp
                 with_reducible rfl
                rotate_left
                ·simp only [Act.put, List.setIfInBounds_toArray, List.set_cons_zero, List.set_cons_succ, i64_w, i32_w]
                 rfl
                refine pu 16 57 HT_ (h := ?_)
                refine take_ (i := 17) (N := some 58) (v := ?_) (a' := ?_) #[true, true, true, true, true, true, true, true, true, true, true, true, false, true, true, true, true, true, false, false, false, false, false, false, false, false, false, false, false, false, false, false, false] rfl rfl (take_ofW HT_.out HW_.out (by kernel_rfl)) (fun _ _ _ h => h) (Or.inl ⟨by rfl, ?_⟩) hHeld ?_ ?_
                rotate_left
                ·rintro w' ⟨s0, s1, s2, s3, s4, s5, s6, s7, s8, s9, s10, s11, s12⟩
                 go_simp
                 with_reducible rfl
                rotate_left
                ·simp only [Act.put, List.setIfInBounds_toArray, List.set_cons_zero, List.set_cons_succ, i64_w, i32_w]
                 rfl
                refine one_ (i := 12) (N := some 53) #[true, true, true, true, true, true, true, true, true, true, true, true, true, true, true, true, true, true, false, false, false, false, false, false, false, false, false, false, false, false, false, false, false] rfl rfl (one_of HT_.out (by kernel_rfl)) (by decide) (fun K hK => ?_)
                refine goes_ Tryd.func12 (by kernel_rfl) rfl #[.agg #[.int .i64 t436, .int .i64 t437, .slice Ao9 t438.length co9, .slice Ao10 t441.length co10, .slice Ao11 t444.length co11, .slice (some ad467) t447.length co12, .slice (some ad469) t450.length co13, .slice Ao14 t453.length co14, .slice Ao15 t456.length co15, .int .i64 t459], .int .i64 1, .int .i64 x6_2] (by rfl) rfl rfl gl_ ?_
                with_reducible refine (impl_ConfTurn.calls kj39 t436 t437 _ _ t438 _ _ t441 _ _ t444 _ _ t447 _ _ t450 _ _ t453 _ _ t456 t459 1 x6_2 t468 _ ?side1 ?side2 ?side3 ?side4 ?side5 ?side6 ?side7 ?side8 ?side9 ?side10 ?side11 ?side12 ?side13 ?side14 A51.out ?sideG).mono ?_
                (case sideG => exact GErr.below (bN HB.out) HG0.out)
                (case side1 => exact cN (Kd.N_reads' HO_461002.out).2.2)
                (case side2 => exact (Kd.N_reads' HO_461002.out).2.1)
                (case side3 => exact cN (Kd.R_reads' HO_461003.out).2.2)
                (case side4 => exact (Kd.R_reads' HO_461003.out).2.1)
                (case side5 => exact cN (Kd.R_reads' HO_461004.out).2.2)
                (case side6 => exact (Kd.R_reads' HO_461004.out).2.1)
                (case side7 => exact cN (Kd.R_reads' HO_461005.out).2.2)
                (case side8 => exact (Kd.R_reads' HO_461005.out).2.1)
                (case side9 => exact cN (Kd.R_reads' HO_461006.out).2.2)
                (case side10 => exact (Kd.R_reads' HO_461006.out).2.1)
                (case side11 => exact cN (Kd.R_reads' HO_461007.out).2.2)
                (case side12 => exact (Kd.R_reads' HO_461007.out).2.1)
                (case side13 => exact cN (Kd.R_reads' HO_461008.out).2.2)
                (case side14 => exact (Kd.R_reads' HO_461008.out).2.1)
                rintro e w58 ⟨rfl, hb⟩
                have HS10_ := (hb.cell (World.block_lt_of_cell? _ _ (hHeld.2.2.2.2.2.2.2.2.2.2.1))).trans (hHeld.2.2.2.2.2.2.2.2.2.2.1)
                have HS11_ := (hb.cell (World.block_lt_of_cell? _ _ (hHeld.2.2.2.2.2.2.2.2.2.2.2.1))).trans (hHeld.2.2.2.2.2.2.2.2.2.2.2.1)
                have HS12_ := (hb.cell (World.block_lt_of_cell? _ _ (hHeld.2.2.2.2.2.2.2.2.2.2.2.2))).trans (hHeld.2.2.2.2.2.2.2.2.2.2.2.2)
                refine ⟨_, rfl, ?_⟩
                have n0_ := m_ (Kd.N_below (by (with_reducible repeat (first | apply Kd.N_alloc | apply Kd.N_drewN | apply Kd.N_drew)); exact HO_461002.out) hb)
                have n1_ := m_ (Kd.R_below (rN HO_461003.out) hb)
                have n2_ := m_ (Kd.R_below (rN HO_461004.out) hb)
                have n3_ := m_ (Kd.R_below (rN HO_461005.out) hb)
                have n4_ := m_ (Kd.R_below (rN HO_461006.out) hb)
                have n5_ := m_ (Kd.R_below (rN HO_461007.out) hb)
                have n6_ := m_ (Kd.R_below (rN HO_461008.out) hb)
                have n7_ := m_ (Kd.N_below (by (with_reducible repeat (first | apply Kd.N_alloc | apply Kd.N_drewN | apply Kd.N_drew)); exact HO_463002.out) hb)
                have n8_ := m_ (Kd.R_below (rN HO_463003.out) hb)
                have n9_ := m_ (Kd.R_below (rN HO_463004.out) hb)
                have n10_ := m_ (Kd.R_below (rN HO_463005.out) hb)
                have n11_ := m_ (Kd.R_below (rN HO_463006.out) hb)
                have n12_ := m_ (Kd.R_below (rN HO_463007.out) hb)
                have n13_ := m_ (Kd.R_below (rN HO_463008.out) hb)
                have n14_ := m_ (blk_below (kN BK460.out) hb)
                have n15_ := m_ (blk_below (kN BK462.out) hb)
                have n16_ := m_ (below_step (bN HB.out) hb)
                clear HO_461002 HO_461003 HO_461004 HO_461005 HO_461006 HO_461007 HO_461008 HO_463002 HO_463003 HO_463004 HO_463005 HO_463006 HO_463007 HO_463008 BK460 BK462 HB
                have HO_461002 := n0_; have HO_461003 := n1_
                have HO_461004 := n2_; have HO_461005 := n3_
                have HO_461006 := n4_; have HO_461007 := n5_
                have HO_461008 := n6_; have HO_463002 := n7_
                have HO_463003 := n8_; have HO_463004 := n9_
                have HO_463005 := n10_; have HO_463006 := n11_
                have HO_463007 := n12_; have HO_463008 := n13_; have BK460 := n14_; have BK462 := n15_; have HB := n16_
                clear n0_ n1_ n2_ n3_ n4_ n5_ n6_ n7_ n8_ n9_ n10_ n11_ n12_ n13_ n14_ n15_ n16_
                (try clear hb)
                (try clear hb2)
                (try clear hk)
                (try clear hi)
                refine hK.out _ _ ⟨bc BK460 0, bc BK460 1, bc BK460 2, bc BK460 3, bc BK460 4, bc BK460 5, bc BK460 6, bc BK460 7, bc BK460 8, bc BK460 9, HS10_, HS11_, HS12_⟩ (fun hHeld => ?_)
                clear hK K
                refine np (h := ?_)
                refine pu 18 59 HT_ (h := ?_)
                refine pu 19 60 HT_ (h := ?_)
                refine pu 20 61 HT_ (h := ?_)
                refine pu 21 62 HT_ (h := ?_)
                refine pu 23 64 HT_ (h := ?_)
                refine pu 26 67 HT_ (h := ?_)
                refine take_ (i := 22) (N := some 63) (v := ?_) (a' := ?_) #[true, true, true, true, true, true, true, true, true, true, true, true, true, true, true, true, true, true, true, true, true, true, true, true, false, false, true, false, false, false, false, false, false] rfl rfl (take_ofW HT_.out HW_.out (by kernel_rfl)) (fun _ _ _ h => h) (Or.inl ⟨by rfl, ?_⟩) hHeld ?_ ?_
                rotate_left
                ·rintro w' ⟨s0, s1, s2, s3, s4, s5, s6, s7, s8, s9, s10, s11, s12⟩
                 go_simp
                 with_reducible rfl
                rotate_left
                ·simp only [Act.put, List.setIfInBounds_toArray, List.set_cons_zero, List.set_cons_succ, i64_w, i32_w]
                 rfl
                refine pu 24 65 HT_ (h := ?_)
                refine take_ (i := 25) (N := some 66) (v := ?_) (a' := ?_) #[true, true, true, true, true, true, true, true, true, true, true, true, true, true, true, true, true, true, true, true, true, true, true, true, true, true, true, false, false, false, false, false, false] rfl rfl (take_ofW HT_.out HW_.out (by kernel_rfl)) (fun _ _ _ h => h) (Or.inl ⟨by rfl, ?_⟩) hHeld ?_ ?_
                rotate_left
                ·rintro w' ⟨s0, s1, s2, s3, s4, s5, s6, s7, s8, s9, s10, s11, s12⟩
                 go_simp
                 with_reducible rfl
                rotate_left
                ·simp only [Act.put, List.setIfInBounds_toArray, List.set_cons_zero, List.set_cons_succ, i64_w, i32_w]
                 rfl
                refine take_ (i := 27) (N := some 68) (v := ?_) (a' := ?_) #[true, true, true, true, true, true, true, true, true, true, true, true, true, true, true, true, true, true, true, true, true, true, true, true, true, true, true, true, false, false, false, false, false] rfl rfl (take_ofW HT_.out HW_.out (by kernel_rfl)) (fun _ _ _ h => h) (Or.inl ⟨by rfl, ?_⟩) hHeld ?_ ?_
                rotate_left
                ·rintro w' ⟨s0, s1, s2, s3, s4, s5, s6, s7, s8, s9, s10, s11, s12⟩
                 go_simp
                 with_reducible rfl
                rotate_left
                ·simp only [Act.put, List.setIfInBounds_toArray, List.set_cons_zero, List.set_cons_succ, i64_w, i32_w]
                 rfl
                refine pu 28 69 HT_ (h := ?_)
                refine pu 29 70 HT_ (h := ?_)
                refine one_ (i := 30) (N := some 71) #[true, true, true, true, true, true, true, true, true, true, true, true, true, true, true, true, true, true, true, true, true, true, true, true, true, true, true, true, true, true, true, false, false] rfl rfl (one_of HT_.out (by kernel_rfl)) (by decide) (fun K hK => ?_)
                refine goes_ Tryd.func17 (by kernel_rfl) rfl #[.int .i64 (rd t447 x6_2), .int .i64 (-1), .int .i64 (wrap64 ((t438.length : Int) - 1))] (by rfl) rfl rfl gl_ ?_
                with_reducible refine (laws_skIn.calls (rd t447 x6_2) (-1) (wrap64 ((t438.length : Int) - 1)) true _ A54.out).mono ?_
                rintro e w' ⟨rfl, ⟨nd, rfl⟩⟩
                refine ⟨_, rfl, ?_⟩
                refine hK.out _ _ ⟨bc BK460 0, bc BK460 1, bc BK460 2, bc BK460 3, bc BK460 4, bc BK460 5, bc BK460 6, bc BK460 7, bc BK460 8, bc BK460 9, hHeld.2.2.2.2.2.2.2.2.2.2.1, hHeld.2.2.2.2.2.2.2.2.2.2.2.1, hHeld.2.2.2.2.2.2.2.2.2.2.2.2⟩ (fun hHeld => ?_)
                clear hK K
                refine np (h := ?_)
                refine pu 31 72 HT_ (h := ?_)
                refine pu 32 73 HT_ (h := ?_)
                refine done_ (done_of HT_.out (by kernel_rfl)) ?_
                try go_wp2
                go_roundg kj39
                case measure => have := HJ4.out; have := HK2.out; have := HJ39.out; omega
                case rel => exact ⟨(wrap64 (x6_2 + 1)), (by first | rfl | (simp; done) | (simp [*]; done)), H', ⟨by have := HJ4.out; have := HK2.out; have := HJ39.out; omega⟩, ⟨by (with_reducible repeat (first | apply Kd.N_alloc | apply Kd.N_drewN | apply Kd.N_drew)); exact HO_461002.out⟩, ⟨rN HO_461003.out⟩, ⟨rN HO_461004.out⟩, ⟨rN HO_461005.out⟩, ⟨rN HO_461006.out⟩, ⟨rN HO_461007.out⟩, ⟨rN HO_461008.out⟩, ⟨by (with_reducible repeat (first | apply Kd.N_alloc | apply Kd.N_drewN | apply Kd.N_drew)); exact HO_463002.out⟩, ⟨rN HO_463003.out⟩, ⟨rN HO_463004.out⟩, ⟨rN HO_463005.out⟩, ⟨rN HO_463006.out⟩, ⟨rN HO_463007.out⟩, ⟨rN HO_463008.out⟩, ⟨kN BK460.out⟩, ⟨kN BK462.out⟩, ⟨(hB2 HB.out GE460.out GE462.out)⟩⟩
               ·replace c55 := Bool.eq_false_iff.mpr c55
                subst c55
                have H1 : (none) = some r := by rw [if_neg (show ¬ (false = true) by decide)] at H; exact H
                exact absurd H1 (by simp)
              ·rw [if_neg c53] at H
               exact absurd H (by simp)
             ·rw [if_neg c52] at H
              exact absurd H (by simp)
            ·rw [if_neg c50] at H
             exact absurd H (by simp)
           ·rw [if_neg c49] at H
            exact absurd H (by simp)
          ·rw [if_neg c48] at H
           exact absurd H (by simp)
         ·replace c46 := Bool.eq_false_iff.mpr c46
          subst c46
          have H1 : (some true) = some r := by rw [if_neg (show ¬ (false = true) by decide)] at H; exact H
          clear H
          have H := H1
          clear H1
          obtain rfl := Option.some.inj H
          go_wp2
          go_ret
          exact ⟨rf_, (hB2 HB.out GE460.out GE462.out)⟩

/-- THE ONE PURE STATEMENT of laws_FnConfCheck: yours. -/
def laws_FnConfCheck.Pure : Prop := ∀ (l0 : List Int), l0.length ≤ maxLen → l0.length * 1 ≤ 140737488351232 → (∀ x ∈ l0, (Lit.int .u8 x).wf = true) → ∃ k, laws_FnConfCheck.f k l0 = some true
theorem laws_FnConfCheck.walk (P : laws_FnConfCheck.Pure) (a0 : Option Addr) (len0 cap0 : Nat) (z0 : List Int) (w : World) (w0 : (a0 = none ∧ len0 = 0 ∧ cap0 = 0 ∧ z0 = []) ∨ ∃ x, a0 = some x ∧ len0 ≤ cap0 ∧ cap0 ≤ maxLen ∧ z0.length = cap0 ∧ (∀ i, i < z0.length → w.cell? (x.add i) = some (.int .u8 (z0.getD i 0))) ∧ ∀ n ∈ z0, (Lit.int .u8 n).wf = true) (y0 : len0 * 1 ≤ 140737488351232) (hG : GErr w) :
  Calls Tryd.prog 4 #[.slice a0 len0 cap0] w fun e w' => e = .returned (.bool true) ∧ Below w.heap.size w w' := by
 obtain ⟨l0, rfl, hr0, hm0, hw0, hc0⟩ := ReadsInt.ofRowC w0
 obtain ⟨k, h⟩ := P l0 hm0 y0 hw0
 refine (laws_FnConfCheck.calls k _ _ l0 true w (Kd.C_of_reads (d := (0 : Int)) (h1 := fun _ => rfl) hr0) hc0 h hG).mono ?_
 rintro e w' ⟨rfl, hd⟩
 exact ⟨rfl, hd⟩

end Go.Proofs.YtcenmlpfbpogoaaDoor.P
