/- The machine side of these statements, function by function: what each Go function answers (as a Lean function), and that it does. Written by a program (mp.py) for this claim. -/
import Derived.Test.YtmhdphohhheoaaaPx0
import Derived.Test.YtmhdphohhheoaaaPx3
import Derived.Test.YtmhdphohhheoaaaPx5
import Derived.Test.YtmhdphohhheoaaaPx7
import Derived.Test.YtmhdphohhheoaaaPx11
import Derived.Test.YtmhdphohhheoaaaPx12
import Derived.Test.YtmhdphohhheoaaaPx14
namespace Go.Proofs.Ytmhdphohhheoaaa.P
open Go.RowKit Go.Proofs.YtmhdphohhheoaaaW.PrintWords Go.Proofs.YtmhdphohhheoaaaW.PrintLast Go.Proofs.YtmhdphohhheoaaaW.PrintMore
attribute [local go_sem] max2_int min2_int max_two min_two max_three min_three max_four min_four   -- for this text's walks alone
set_option linter.unusedVariables false
set_option linter.unusedSimpArgs false

/-! ### laws_FnPartSend: function 7 -/
def laws_FnPartSend.j0 : Nat → Int → Bool → Bool → Bool → List (S53) → List Int → Int → Bool → List Int → List (S53) → List Int → Int → Bool → List Int → List (S53) → List Int → Int → Bool → List Int → Option (Bool)
 | 0, _, _, _, _, _, _, _, _, _, _, _, _, _, _, _, _, _, _, _ => none
 | k + 1, x4, x6, x8, x50, x400000, x400001, x400002, x400003, x400004, x413000, x413001, x413002, x413003, x413004, x426000, x426001, x426002, x426003, x426004 => if x50 = true then ((laws_skPart.f k x413000 x413001 x413002 x413003 x413004 x426000 x426001 x426002 x426003 x426004).bind fun t430 => (if t430 = true then (some (x6 == x8)) else (some false))) else (if x6 = true then (if (x413004.length : Int) = (wrap64 ((x400004.length : Int) + 1)) then (if 0 ≤ (x400004.length : Int) then (if (x400004.length : Int) < (x413004.length : Int) then (if (rd x413004 (x400004.length : Int)) = x4 then (if (x400004.length : Int) ≤ (x413004.length : Int) then ((laws_skInts.f k (x413004.take ((x400004.length : Int) : Int).toNat) x400004).bind fun t436 => (if t436 = true then ((laws_skInts.f k x413001 x400001).bind fun t437 => (if t437 = true then ((impl_PartOk.f k x413000 x413001 x413002 x413003 x413004).bind fun t438 => (some t438)) else (some false))) else (some false))) else (none)) else (some false)) else (none)) else (none)) else (some false)) else ((laws_skPart.f k x413000 x413001 x413002 x413003 x413004 x400000 x400001 x400002 x400003 x400004).bind fun t439 => (some t439)))
def laws_FnPartSend.f (k : Nat) (l0 : List Int) : Option (Bool) := if (l0.length : Int) > 1048576 then (some true) else ((spec_DrawPartSend.f k l0).bind fun bt387 => ((impl_PartSend.f k bt387.1 bt387.2.1 bt387.2.2.1 bt387.2.2.2.1 bt387.2.2.2.2.1 bt387.2.2.2.2.2).bind fun bt400 => ((spec_PartSend.f k bt387.1 bt387.2.1 bt387.2.2.1 bt387.2.2.2.1 bt387.2.2.2.2.1 bt387.2.2.2.2.2).bind fun bt413 => ((laws_skPart.f k bt400.1 bt400.2.1 bt400.2.2.1 bt400.2.2.2.1 bt400.2.2.2.2.1 bt413.1 bt413.2.1 bt413.2.2.1 bt413.2.2.2.1 bt413.2.2.2.2.1).bind fun t426 => (if t426 = true then (if (bt400.2.2.2.2.2 != bt413.2.2.2.2.2) = true then (laws_FnPartSend.j0 k bt387.2.2.2.2.2 bt400.2.2.2.2.2 bt413.2.2.2.2.2 true bt387.1 bt387.2.1 bt387.2.2.1 bt387.2.2.2.1 bt387.2.2.2.2.1 bt400.1 bt400.2.1 bt400.2.2.1 bt400.2.2.2.1 bt400.2.2.2.2.1 bt413.1 bt413.2.1 bt413.2.2.1 bt413.2.2.2.1 bt413.2.2.2.2.1) else ((impl_PartOk.f k bt387.1 bt387.2.1 bt387.2.2.1 bt387.2.2.2.1 bt387.2.2.2.2.1).bind fun t427 => ((spec_PartOk.f k bt387.1 bt387.2.1 bt387.2.2.1 bt387.2.2.2.1 bt387.2.2.2.2.1).bind fun t428 => (if (t427 != t428) = true then (laws_FnPartSend.j0 k bt387.2.2.2.2.2 bt400.2.2.2.2.2 bt413.2.2.2.2.2 true bt387.1 bt387.2.1 bt387.2.2.1 bt387.2.2.2.1 bt387.2.2.2.2.1 bt400.1 bt400.2.1 bt400.2.2.1 bt400.2.2.2.1 bt400.2.2.2.2.1 bt413.1 bt413.2.1 bt413.2.2.1 bt413.2.2.2.1 bt413.2.2.2.2.1) else ((spec_PartOk.f k bt387.1 bt387.2.1 bt387.2.2.1 bt387.2.2.2.1 bt387.2.2.2.2.1).bind fun t429 => (laws_FnPartSend.j0 k bt387.2.2.2.2.2 bt400.2.2.2.2.2 bt413.2.2.2.2.2 (!t429) bt387.1 bt387.2.1 bt387.2.2.1 bt387.2.2.2.1 bt387.2.2.2.2.1 bt400.1 bt400.2.1 bt400.2.2.1 bt400.2.2.2.1 bt400.2.2.2.2.1 bt413.1 bt413.2.1 bt413.2.2.1 bt413.2.2.2.1 bt413.2.2.2.2.1)))))) else (laws_FnPartSend.j0 k bt387.2.2.2.2.2 bt400.2.2.2.2.2 bt413.2.2.2.2.2 true bt387.1 bt387.2.1 bt387.2.2.1 bt387.2.2.2.1 bt387.2.2.2.2.1 bt400.1 bt400.2.1 bt400.2.2.1 bt400.2.2.2.1 bt400.2.2.2.2.1 bt413.1 bt413.2.1 bt413.2.2.1 bt413.2.2.2.1 bt413.2.2.2.2.1))))))
theorem laws_FnPartSend.mono_l : ∀ k, (∀ y0 y1 y2 y3 y4 y5 y6 y7 y8 y9 y10 y11 y12 y13 y14 y15 y16 y17 y18, LeO (laws_FnPartSend.j0 k y0 y1 y2 y3 y4 y5 y6 y7 y8 y9 y10 y11 y12 y13 y14 y15 y16 y17 y18) (laws_FnPartSend.j0 (k + 1) y0 y1 y2 y3 y4 y5 y6 y7 y8 y9 y10 y11 y12 y13 y14 y15 y16 y17 y18))
 | 0 => fun _ _ _ _ _ _ _ _ _ _ _ _ _ _ _ _ _ _ _ r h => by simp [laws_FnPartSend.j0] at h
 | k + 1 => by
  have ih0 := laws_FnPartSend.mono_l k
  ·intro y0 y1 y2 y3 y4 y5 y6 y7 y8 y9 y10 y11 y12 y13 y14 y15 y16 y17 y18
   unfold laws_FnPartSend.j0
   repeat' first
   | (with_reducible exact ih0 _ _ _ _ _ _ _ _ _ _ _ _ _ _ _ _ _ _ _)
   | (with_reducible exact impl_PartOk.mono _ _ _ _ _ _)
   | (with_reducible exact impl_PartSend.mono _ _ _ _ _ _ _)
   | (with_reducible exact laws_skInts.mono _ _ _)
   | (with_reducible exact laws_skPart.mono _ _ _ _ _ _ _ _ _ _ _)
   | (with_reducible exact spec_DrawPartSend.mono _ _)
   | (with_reducible exact spec_PartOk.mono _ _ _ _ _ _)
   | (with_reducible exact spec_PartSend.mono _ _ _ _ _ _ _)
   | (with_reducible exact LeO.refl _)
   | (with_reducible exact LeO.none _)
   | (with_reducible refine LeO.ite ?_ ?_)
   | (with_reducible refine LeO.bind ?_ (fun _ => ?_))
   | exact ih0 _ _ _ _ _ _ _ _ _ _ _ _ _ _ _ _ _ _ _
   | exact impl_PartOk.mono _ _ _ _ _ _
   | exact impl_PartSend.mono _ _ _ _ _ _ _
   | exact laws_skInts.mono _ _ _
   | exact laws_skPart.mono _ _ _ _ _ _ _ _ _ _ _
   | exact spec_DrawPartSend.mono _ _
   | exact spec_PartOk.mono _ _ _ _ _ _
   | exact spec_PartSend.mono _ _ _ _ _ _ _
   | exact LeO.none _
   | refine LeO.ite ?_ ?_
   | refine LeO.bind ?_ (fun _ => ?_)
theorem laws_FnPartSend.mono : ∀ a0 k, LeO (laws_FnPartSend.f k a0) (laws_FnPartSend.f (k + 1) a0) := by
 intro a0 k
 have ih0 := laws_FnPartSend.mono_l k
 unfold laws_FnPartSend.f
 repeat' first
   | (with_reducible exact ih0 _ _ _ _ _ _ _ _ _ _ _ _ _ _ _ _ _ _ _)
   | (with_reducible exact impl_PartOk.mono _ _ _ _ _ _)
   | (with_reducible exact impl_PartSend.mono _ _ _ _ _ _ _)
   | (with_reducible exact laws_skInts.mono _ _ _)
   | (with_reducible exact laws_skPart.mono _ _ _ _ _ _ _ _ _ _ _)
   | (with_reducible exact spec_DrawPartSend.mono _ _)
   | (with_reducible exact spec_PartOk.mono _ _ _ _ _ _)
   | (with_reducible exact spec_PartSend.mono _ _ _ _ _ _ _)
   | (with_reducible exact LeO.refl _)
   | (with_reducible exact LeO.none _)
   | (with_reducible refine LeO.ite ?_ ?_)
   | (with_reducible refine LeO.bind ?_ (fun _ => ?_))
   | exact ih0 _ _ _ _ _ _ _ _ _ _ _ _ _ _ _ _ _ _ _
   | exact impl_PartOk.mono _ _ _ _ _ _
   | exact impl_PartSend.mono _ _ _ _ _ _ _
   | exact laws_skInts.mono _ _ _
   | exact laws_skPart.mono _ _ _ _ _ _ _ _ _ _ _
   | exact spec_DrawPartSend.mono _ _
   | exact spec_PartOk.mono _ _ _ _ _ _
   | exact spec_PartSend.mono _ _ _ _ _ _ _
   | exact LeO.none _
   | refine LeO.ite ?_ ?_
   | refine LeO.bind ?_ (fun _ => ?_)
def laws_FnPartSend.T6 : Bool × List (List Nat × List Nat) := (true, [([], []), ([], []), ([0, 1], [0, 1]), ([2], [2]), ([3, 2], [3]), ([4], [4]), ([4], [4]), ([5, 6, 4], [4, 5, 6]), ([4, 7], [4, 7]), ([8, 4], [8]), ([9], [9]), ([10, 9, 9], [9, 10]), ([9], [9]), ([12, 11, 9], [9, 12]), ([11, 13, 9], [9, 11, 13]), ([9, 14], [9, 14]), ([15, 13], [15]), ([16], [16]), ([17, 16, 16], [16, 17]), ([18, 16], [16, 18]), ([16, 19], [16, 19])])
def laws_FnPartSend.B6 : List Nat := [0, 0, 3, 7, 15, 31, 31, 127, 255, 511, 1023, 2047, 1023, 8191, 16383, 32767, 65535, 131071, 262143, 524287, 1048575]
theorem laws_FnPartSend.tab6 : rtab .any (opsOf Try.f7 6) = laws_FnPartSend.T6 := by kernel_rfl
theorem laws_FnPartSend.bits6 : waitsOk laws_FnPartSend.T6.2 laws_FnPartSend.B6 = true := by kernel_rfl
def laws_FnPartSend.T11 : Bool × List (List Nat × List Nat) := (true, [([], []), ([0], [0]), ([1], [1]), ([], []), ([3], [3]), ([2, 4], [2, 4]), ([5], [5]), ([6], [6]), ([7, 6], [6, 7]), ([6], [6]), ([8, 9, 6], [6, 8, 9]), ([10, 6], [6, 10]), ([6], [6]), ([11, 12, 6], [6, 11, 12]), ([6, 13], [6, 13]), ([14, 6], [14]), ([15], [15]), ([16, 15], [15, 16]), ([15], [15]), ([17, 18, 15], [15, 17, 18]), ([15], [15]), ([20, 15], [15, 20]), ([19, 21, 15, 15], [15, 19, 21]), ([15, 22], [15, 22]), ([23, 22], [23]), ([24], [24]), ([25, 24], [24, 25]), ([24], [24]), ([27, 24], [24, 27]), ([26, 28, 24, 24], [24, 26, 28]), ([24, 29], [24, 29]), ([30, 29], [30]), ([31], [31]), ([32, 31, 31], [31, 32]), ([31, 33], [31, 33]), ([34, 33, 0, 1, 2, 3, 4, 5, 6, 7, 8, 9, 10, 11, 12, 13, 14, 15, 16, 17, 18, 19, 20, 21, 22, 23, 24, 25, 26, 27, 28, 29, 30, 31, 32, 33, 34], [34])])
def laws_FnPartSend.B11 : List Nat := [0, 1, 3, 0, 8, 31, 63, 127, 255, 127, 1023, 2047, 127, 8191, 16383, 32767, 65535, 131071, 65535, 524287, 65535, 1114111, 4194303, 8388607, 16777215, 33554431, 67108863, 33554431, 167772159, 536870911, 1073741823, 2147483647, 4294967295, 8589934591, 17179869183, 34359738367]
theorem laws_FnPartSend.tab11 : rtab .any (opsOf Try.f7 11) = laws_FnPartSend.T11 := by kernel_rfl
theorem laws_FnPartSend.bits11 : waitsOk laws_FnPartSend.T11.2 laws_FnPartSend.B11 = true := by kernel_rfl
set_option maxHeartbeats 8000000 in
set_option maxRecDepth 100000 in
theorem laws_FnPartSend.calls (k : Nat) (A0 : Option Addr) (c0 : Nat) (l0 : List Int) (r : Bool) (w : World) (hr0 : Kd.C (Kd.int .u8) w A0 l0.length l0) (hc0 : l0.length ≤ c0) (h : laws_FnPartSend.f k l0 = some r) :
  Calls Try.prog 7 #[.slice A0 l0.length c0] w fun e w' => e = .returned (.bool r) ∧ Below w.heap.size w w' := by
 have hu33 := Try.underlying33
 have HR0 := Aside0.mk hr0
 have HC0 := Aside0.mk hc0
 clear hr0 hc0
 have HB := m_ (Below.refl w.heap.size w)
 have H : (if (l0.length : Int) > 1048576 then (some true) else ((spec_DrawPartSend.f k l0).bind fun bt387 => ((impl_PartSend.f k bt387.1 bt387.2.1 bt387.2.2.1 bt387.2.2.2.1 bt387.2.2.2.2.1 bt387.2.2.2.2.2).bind fun bt400 => ((spec_PartSend.f k bt387.1 bt387.2.1 bt387.2.2.1 bt387.2.2.2.1 bt387.2.2.2.2.1 bt387.2.2.2.2.2).bind fun bt413 => ((laws_skPart.f k bt400.1 bt400.2.1 bt400.2.2.1 bt400.2.2.2.1 bt400.2.2.2.2.1 bt413.1 bt413.2.1 bt413.2.2.1 bt413.2.2.2.1 bt413.2.2.2.2.1).bind fun t426 => (if t426 = true then (if (bt400.2.2.2.2.2 != bt413.2.2.2.2.2) = true then (laws_FnPartSend.j0 k bt387.2.2.2.2.2 bt400.2.2.2.2.2 bt413.2.2.2.2.2 true bt387.1 bt387.2.1 bt387.2.2.1 bt387.2.2.2.1 bt387.2.2.2.2.1 bt400.1 bt400.2.1 bt400.2.2.1 bt400.2.2.2.1 bt400.2.2.2.2.1 bt413.1 bt413.2.1 bt413.2.2.1 bt413.2.2.2.1 bt413.2.2.2.2.1) else ((impl_PartOk.f k bt387.1 bt387.2.1 bt387.2.2.1 bt387.2.2.2.1 bt387.2.2.2.2.1).bind fun t427 => ((spec_PartOk.f k bt387.1 bt387.2.1 bt387.2.2.1 bt387.2.2.2.1 bt387.2.2.2.2.1).bind fun t428 => (if (t427 != t428) = true then (laws_FnPartSend.j0 k bt387.2.2.2.2.2 bt400.2.2.2.2.2 bt413.2.2.2.2.2 true bt387.1 bt387.2.1 bt387.2.2.1 bt387.2.2.2.1 bt387.2.2.2.2.1 bt400.1 bt400.2.1 bt400.2.2.1 bt400.2.2.2.1 bt400.2.2.2.2.1 bt413.1 bt413.2.1 bt413.2.2.1 bt413.2.2.2.1 bt413.2.2.2.2.1) else ((spec_PartOk.f k bt387.1 bt387.2.1 bt387.2.2.1 bt387.2.2.2.1 bt387.2.2.2.2.1).bind fun t429 => (laws_FnPartSend.j0 k bt387.2.2.2.2.2 bt400.2.2.2.2.2 bt413.2.2.2.2.2 (!t429) bt387.1 bt387.2.1 bt387.2.2.1 bt387.2.2.2.1 bt387.2.2.2.2.1 bt400.1 bt400.2.1 bt400.2.2.1 bt400.2.2.2.1 bt400.2.2.2.2.1 bt413.1 bt413.2.1 bt413.2.2.1 bt413.2.2.2.1 bt413.2.2.2.2.1)))))) else (laws_FnPartSend.j0 k bt387.2.2.2.2.2 bt400.2.2.2.2.2 bt413.2.2.2.2.2 true bt387.1 bt387.2.1 bt387.2.2.1 bt387.2.2.2.1 bt387.2.2.2.2.1 bt400.1 bt400.2.1 bt400.2.2.1 bt400.2.2.2.1 bt400.2.2.2.2.1 bt413.1 bt413.2.1 bt413.2.2.1 bt413.2.2.2.1 bt413.2.2.2.2.1))))))) = some r := h
 clear h
 by_cases c2 : (l0.length : Int) > 1048576
 ·rw [if_pos c2] at H
  have c2b0 : decide (1048576 < (l0.length : Int)) = true := decide_eq_true c2
  have c2b1 : decide (1048576 < l0.length) = true := decide_eq_true (by omega)
  clear c2
  obtain rfl := Option.some.inj H
  go_enter Try.func7, Try.ntmps7
  go_wp2
  go_ret
  exact ⟨by first | rfl | (simp [errW_none, errW_some] <;> rfl) | (simp [*, errW_none, errW_some] <;> rfl), by repeat (first | (with_reducible first | exact HB.out | apply below_alloc | apply pw_below_drewN | apply below_drew1) | exact HB.out)⟩
 ·rw [if_neg c2] at H
  have c2b0 : decide (1048576 < (l0.length : Int)) = false := decide_eq_false c2
  have c2b1 : decide (1048576 < l0.length) = false := decide_eq_false (by omega)
  clear c2
  replace H := Option.bind_eq_some_iff.mp H
  obtain ⟨⟨t387, t390, t393, t394, t395, t398⟩, A30, H⟩ := H
  replace H : ((impl_PartSend.f k t387 t390 t393 t394 t395 t398).bind fun bt400 => ((spec_PartSend.f k t387 t390 t393 t394 t395 t398).bind fun bt413 => ((laws_skPart.f k bt400.1 bt400.2.1 bt400.2.2.1 bt400.2.2.2.1 bt400.2.2.2.2.1 bt413.1 bt413.2.1 bt413.2.2.1 bt413.2.2.2.1 bt413.2.2.2.2.1).bind fun t426 => (if t426 = true then (if (bt400.2.2.2.2.2 != bt413.2.2.2.2.2) = true then (laws_FnPartSend.j0 k t398 bt400.2.2.2.2.2 bt413.2.2.2.2.2 true t387 t390 t393 t394 t395 bt400.1 bt400.2.1 bt400.2.2.1 bt400.2.2.2.1 bt400.2.2.2.2.1 bt413.1 bt413.2.1 bt413.2.2.1 bt413.2.2.2.1 bt413.2.2.2.2.1) else ((impl_PartOk.f k t387 t390 t393 t394 t395).bind fun t427 => ((spec_PartOk.f k t387 t390 t393 t394 t395).bind fun t428 => (if (t427 != t428) = true then (laws_FnPartSend.j0 k t398 bt400.2.2.2.2.2 bt413.2.2.2.2.2 true t387 t390 t393 t394 t395 bt400.1 bt400.2.1 bt400.2.2.1 bt400.2.2.2.1 bt400.2.2.2.2.1 bt413.1 bt413.2.1 bt413.2.2.1 bt413.2.2.2.1 bt413.2.2.2.2.1) else ((spec_PartOk.f k t387 t390 t393 t394 t395).bind fun t429 => (laws_FnPartSend.j0 k t398 bt400.2.2.2.2.2 bt413.2.2.2.2.2 (!t429) t387 t390 t393 t394 t395 bt400.1 bt400.2.1 bt400.2.2.1 bt400.2.2.2.1 bt400.2.2.2.2.1 bt413.1 bt413.2.1 bt413.2.2.1 bt413.2.2.2.1 bt413.2.2.2.2.1)))))) else (laws_FnPartSend.j0 k t398 bt400.2.2.2.2.2 bt413.2.2.2.2.2 true t387 t390 t393 t394 t395 bt400.1 bt400.2.1 bt400.2.2.1 bt400.2.2.2.1 bt400.2.2.2.2.1 bt413.1 bt413.2.1 bt413.2.2.1 bt413.2.2.2.1 bt413.2.2.2.2.1))))) = some r := H
  have A3 := Aside0.mk A30
  clear A30
  replace H := Option.bind_eq_some_iff.mp H
  obtain ⟨⟨t400, t403, t406, t407, t408, t411⟩, A40, H⟩ := H
  replace H : ((spec_PartSend.f k t387 t390 t393 t394 t395 t398).bind fun bt413 => ((laws_skPart.f k t400 t403 t406 t407 t408 bt413.1 bt413.2.1 bt413.2.2.1 bt413.2.2.2.1 bt413.2.2.2.2.1).bind fun t426 => (if t426 = true then (if (t411 != bt413.2.2.2.2.2) = true then (laws_FnPartSend.j0 k t398 t411 bt413.2.2.2.2.2 true t387 t390 t393 t394 t395 t400 t403 t406 t407 t408 bt413.1 bt413.2.1 bt413.2.2.1 bt413.2.2.2.1 bt413.2.2.2.2.1) else ((impl_PartOk.f k t387 t390 t393 t394 t395).bind fun t427 => ((spec_PartOk.f k t387 t390 t393 t394 t395).bind fun t428 => (if (t427 != t428) = true then (laws_FnPartSend.j0 k t398 t411 bt413.2.2.2.2.2 true t387 t390 t393 t394 t395 t400 t403 t406 t407 t408 bt413.1 bt413.2.1 bt413.2.2.1 bt413.2.2.2.1 bt413.2.2.2.2.1) else ((spec_PartOk.f k t387 t390 t393 t394 t395).bind fun t429 => (laws_FnPartSend.j0 k t398 t411 bt413.2.2.2.2.2 (!t429) t387 t390 t393 t394 t395 t400 t403 t406 t407 t408 bt413.1 bt413.2.1 bt413.2.2.1 bt413.2.2.2.1 bt413.2.2.2.2.1)))))) else (laws_FnPartSend.j0 k t398 t411 bt413.2.2.2.2.2 true t387 t390 t393 t394 t395 t400 t403 t406 t407 t408 bt413.1 bt413.2.1 bt413.2.2.1 bt413.2.2.2.1 bt413.2.2.2.2.1)))) = some r := H
  have A4 := Aside0.mk A40
  clear A40
  replace H := Option.bind_eq_some_iff.mp H
  obtain ⟨⟨t413, t416, t419, t420, t421, t424⟩, A50, H⟩ := H
  replace H : ((laws_skPart.f k t400 t403 t406 t407 t408 t413 t416 t419 t420 t421).bind fun t426 => (if t426 = true then (if (t411 != t424) = true then (laws_FnPartSend.j0 k t398 t411 t424 true t387 t390 t393 t394 t395 t400 t403 t406 t407 t408 t413 t416 t419 t420 t421) else ((impl_PartOk.f k t387 t390 t393 t394 t395).bind fun t427 => ((spec_PartOk.f k t387 t390 t393 t394 t395).bind fun t428 => (if (t427 != t428) = true then (laws_FnPartSend.j0 k t398 t411 t424 true t387 t390 t393 t394 t395 t400 t403 t406 t407 t408 t413 t416 t419 t420 t421) else ((spec_PartOk.f k t387 t390 t393 t394 t395).bind fun t429 => (laws_FnPartSend.j0 k t398 t411 t424 (!t429) t387 t390 t393 t394 t395 t400 t403 t406 t407 t408 t413 t416 t419 t420 t421)))))) else (laws_FnPartSend.j0 k t398 t411 t424 true t387 t390 t393 t394 t395 t400 t403 t406 t407 t408 t413 t416 t419 t420 t421))) = some r := H
  have A5 := Aside0.mk A50
  clear A50
  have HC6 := Aside0.mk H
  clear H
  go_enter Try.func7, Try.ntmps7
  go_upto_region 6 with (first | ((with_reducible refine gate_callee (f := 26) rfl ?_); refine goesL_ (some 15) rfl rfl Try.func26 (by kernel_rfl) rfl #[.slice A0 l0.length c0] rfl gl_ ?_; (with_reducible refine (spec_DrawPartSend.calls k _ _ l0 t387 t390 t393 t394 t395 t398 _ ?side1 ?side2 A3.out).mono ?_); (case side1 => exact cN HR0.out); (case side2 => exact HC0.out); rintro e w7 ⟨v388, v391, v396, rfl, ho0, ho1, ho2, hb⟩; refine ⟨_, rfl, ?_⟩; have n0_ := m_ (Kd.R_lower ho0 (below_size (bN HB.out))); have n1_ := m_ (Kd.Q_lower ho1 (below_size (bN HB.out))); have n2_ := m_ (Kd.R_lower ho2 (below_size (bN HB.out))); have n3_ := m_ (below_step (bN HB.out) hb); clear HB; have HO389 := n0_; have HO392 := n1_; have HO397 := n2_; have HB := n3_; clear n0_ n1_ n2_ n3_; (try clear hb); (try clear hb2); (try clear hk); (try clear hi); (try clear ho0); (try clear ho1); (try clear ho2)) | ((with_reducible refine gate_dst (N := 3) rfl ?_); refine box_event ?hg (N := 3) ?hd (cs := #[.slice none 0 0, .slice none 0 0, .int .i64 0, .bool false, .slice none 0 0]) (t := 33) ?hr ?_; (case hd => rfl); (case hg => rfl); (case hr => first | (go_simp; done) | (go_simp; rfl)); intro gb399 hg w8 hbox hb; have n0_ := m_ (Kd.R_below (rN HO389.out) hb); have n1_ := m_ (Kd.Q_below (by (with_reducible repeat (first | apply Kd.Q_alloc | apply Kd.Q_drewN | apply Kd.Q_drew)); exact HO392.out) hb); have n2_ := m_ (Kd.R_below (rN HO397.out) hb); have n3_ := m_ (below_step (bN HB.out) hb); have n4_ := m_ (hbox); have n5_ := m_ ((by rw [hg]; exact (below_size (bN HB.out)) : w.heap.size ≤ gb399)); have n6_ := m_ ((by rw [hg]; exact (below_size (bN HB.out)) : w.heap.size ≤ gb399)); clear HO389; clear HO392; clear HO397; clear HB; have HO389 := n0_; have HO392 := n1_; have HO397 := n2_; have HB := n3_; have BK399 := n4_; have GW399 := n5_; have GE399 := n6_; clear n0_ n1_ n2_ n3_ n4_ n5_ n6_; clear hb hbox hg; obtain ⟨Ao9, co9, eo9⟩ := Kd.R_slice HO389.out; subst eo9; have hcz10_0 : w8.cell? ⟨gb399, 0, none⟩ = some (.slice none 0 0) := (blk_cell BK399.out 0).trans rfl; have hcz10_1 : w8.cell? ⟨gb399, 1, none⟩ = some (.slice none 0 0) := (blk_cell BK399.out 1).trans rfl; have hcz10_2 : w8.cell? ⟨gb399, 2, none⟩ = some (.int .i64 0) := (blk_cell BK399.out 2).trans rfl; have hcz10_3 : w8.cell? ⟨gb399, 3, none⟩ = some (.bool false) := (blk_cell BK399.out 3).trans rfl; have hcz10_4 : w8.cell? ⟨gb399, 4, none⟩ = some (.slice none 0 0) := (blk_cell BK399.out 4).trans rfl; have hfz10_0 := blk_frozen BK399.out 0; have hfz10_1 := blk_frozen BK399.out 1; have hfz10_2 := blk_frozen BK399.out 2; have hfz10_3 := blk_frozen BK399.out 3; have hfz10_4 := blk_frozen BK399.out 4; obtain ⟨Ao11, co11, eo11, _⟩ := Kd.Q_slice HO392.out; subst eo11; obtain ⟨Ao12, co12, eo12⟩ := Kd.R_slice HO397.out; subst eo12) | ((with_reducible refine gate_callee (f := 27) rfl ?_); refine goesL_ (some 21) rfl rfl Try.func27 (by kernel_rfl) rfl #[.agg #[.slice Ao9 t387.length co9, .slice Ao11 t390.length co11, .int .i64 t393, .bool t394, .slice Ao12 t395.length co12], .int .i64 t398] rfl gl_ ?_; (with_reducible refine (impl_PartSend.calls k _ _ t387 _ _ t390 t393 t394 _ _ t395 t398 t400 t403 t406 t407 t408 t411 _ ?side1 ?side2 ?side3 ?side4 ?side5 ?side6 A4.out).mono ?_); (case side1 => refine (Kd.R_reads' (e := 53) (base := w.heap.size) (ok := fun k_ => True) (n := t387.length) (c := co9) ?_).2.2; exact (frN (Kd.R_types HO389.out BK399.out (by decide)))); (case side2 => exact (Kd.R_reads' HO389.out).2.1); (case side3 => refine (Kd.Q_reads' (e := 3) (base := w.heap.size) (ok := fun k_ => nb Ao12 t395.length co12 k_) (n := t390.length) (c := co11) ?_).2.2; exact (by (with_reducible repeat (first | apply Kd.Q_alloc | apply Kd.Q_drewN | apply Kd.Q_drew)); exact (Kd.Q_mono (Kd.Q_far (p := ⟨gb399, 4, none⟩) (Kd.Q_far (p := ⟨gb399, 3, none⟩) (Kd.Q_far (p := ⟨gb399, 2, none⟩) (Kd.Q_far (p := ⟨gb399, 1, none⟩) (Kd.Q_far (p := ⟨gb399, 0, none⟩) (Kd.Q_types HO392.out BK399.out (by decide)) (fun _ hk => hk.2) (.slice Ao9 t387.length co9)) (fun _ hk => hk.2) (.slice Ao11 t390.length co11)) (fun _ hk => hk.2) (.int .i64 t393)) (fun _ hk => hk.2) (.bool t394)) (fun _ hk => hk.2) (.slice Ao12 t395.length co12)) (fun _ h_ => h_.1)))); (case side4 => exact (Kd.Q_reads' HO392.out).2.1); (case side5 => refine (Kd.R_reads' (e := 3) (base := w.heap.size) (ok := fun k_ => nb Ao11 t390.length co11 k_) (n := t395.length) (c := co12) ?_).2.2; exact (frN (Kd.R_types HO397.out BK399.out (by decide)))); (case side6 => exact (Kd.R_reads' HO397.out).2.1); rintro e w13 ⟨v401, v404, v409, rfl, ho0, ho1, ho2, hb⟩; refine ⟨_, rfl, ?_⟩; have n0_ := m_ (Kd.R_elder' (frN (Kd.R_types HO389.out BK399.out (by decide))) (Kd.R_base ho0) hb); have n1_ := m_ (Kd.Q_mono (Kd.Q_told (Kd.Q_told (Kd.Q_old (by (with_reducible repeat (first | apply Kd.Q_alloc | apply Kd.Q_drewN | apply Kd.Q_drew)); exact (Kd.Q_mono (Kd.Q_far (p := ⟨gb399, 4, none⟩) (Kd.Q_far (p := ⟨gb399, 3, none⟩) (Kd.Q_far (p := ⟨gb399, 2, none⟩) (Kd.Q_far (p := ⟨gb399, 1, none⟩) (Kd.Q_far (p := ⟨gb399, 0, none⟩) (Kd.Q_types HO392.out BK399.out (by decide)) (fun _ hk => hk.2) (.slice Ao9 t387.length co9)) (fun _ hk => hk.2) (.slice Ao11 t390.length co11)) (fun _ hk => hk.2) (.int .i64 t393)) (fun _ hk => hk.2) (.bool t394)) (fun _ hk => hk.2) (.slice Ao12 t395.length co12)) (fun _ h_ => h_.1))) hb) (Kd.R_base ho1)) (Kd.R_base ho2)) (fun _ h_ => h_.1)); have n2_ := m_ (Kd.R_mono (Kd.R_told (Kd.R_told (Kd.R_old (frN (Kd.R_types HO397.out BK399.out (by decide))) hb) (Kd.R_base ho1)) (Kd.R_base ho2)) (fun _ h_ => h_.1)); have n3_ := m_ (Kd.R_lower (Kd.R_new' ho0 (Kd.R_lt (frN (Kd.R_types HO389.out BK399.out (by decide))))) (below_size (bN HB.out))); have n4_ := m_ (Kd.R_lower (Kd.R_new' (Kd.R_new' ho1 (Kd.Q_lt (by (with_reducible repeat (first | apply Kd.Q_alloc | apply Kd.Q_drewN | apply Kd.Q_drew)); exact (Kd.Q_mono (Kd.Q_far (p := ⟨gb399, 4, none⟩) (Kd.Q_far (p := ⟨gb399, 3, none⟩) (Kd.Q_far (p := ⟨gb399, 2, none⟩) (Kd.Q_far (p := ⟨gb399, 1, none⟩) (Kd.Q_far (p := ⟨gb399, 0, none⟩) (Kd.Q_types HO392.out BK399.out (by decide)) (fun _ hk => hk.2) (.slice Ao9 t387.length co9)) (fun _ hk => hk.2) (.slice Ao11 t390.length co11)) (fun _ hk => hk.2) (.int .i64 t393)) (fun _ hk => hk.2) (.bool t394)) (fun _ hk => hk.2) (.slice Ao12 t395.length co12)) (fun _ h_ => h_.1))))) (Kd.R_lt (frN (Kd.R_types HO397.out BK399.out (by decide))))) (below_size (bN HB.out))); have n5_ := m_ (Kd.R_lower (Kd.R_new' (Kd.R_new' ho2 (Kd.Q_lt (by (with_reducible repeat (first | apply Kd.Q_alloc | apply Kd.Q_drewN | apply Kd.Q_drew)); exact (Kd.Q_mono (Kd.Q_far (p := ⟨gb399, 4, none⟩) (Kd.Q_far (p := ⟨gb399, 3, none⟩) (Kd.Q_far (p := ⟨gb399, 2, none⟩) (Kd.Q_far (p := ⟨gb399, 1, none⟩) (Kd.Q_far (p := ⟨gb399, 0, none⟩) (Kd.Q_types HO392.out BK399.out (by decide)) (fun _ hk => hk.2) (.slice Ao9 t387.length co9)) (fun _ hk => hk.2) (.slice Ao11 t390.length co11)) (fun _ hk => hk.2) (.int .i64 t393)) (fun _ hk => hk.2) (.bool t394)) (fun _ hk => hk.2) (.slice Ao12 t395.length co12)) (fun _ h_ => h_.1))))) (Kd.R_lt (frN (Kd.R_types HO397.out BK399.out (by decide))))) (below_size (bN HB.out))); have n6_ := m_ (blk_below (g := gb399) (o := .cells #[.slice Ao9 t387.length co9, .slice Ao11 t390.length co11, .int .i64 t393, .bool t394, .slice Ao12 t395.length co12] 33 (0, 0)) (by (with_reducible repeat (first | refine blk_drewN ?_ _ | refine blk_drew ?_ | refine blk_alloc ?_ _)); refine blk_put (cs := #[.slice Ao9 t387.length co9, .slice Ao11 t390.length co11, .int .i64 t393, .bool t394, .slice none 0 0]) ?_ 4 _ rfl; (with_reducible repeat (first | refine blk_drewN ?_ _ | refine blk_drew ?_ | refine blk_alloc ?_ _)); refine blk_put (cs := #[.slice Ao9 t387.length co9, .slice Ao11 t390.length co11, .int .i64 t393, .bool false, .slice none 0 0]) ?_ 3 _ rfl; (with_reducible repeat (first | refine blk_drewN ?_ _ | refine blk_drew ?_ | refine blk_alloc ?_ _)); refine blk_put (cs := #[.slice Ao9 t387.length co9, .slice Ao11 t390.length co11, .int .i64 0, .bool false, .slice none 0 0]) ?_ 2 _ rfl; (with_reducible repeat (first | refine blk_drewN ?_ _ | refine blk_drew ?_ | refine blk_alloc ?_ _)); refine blk_put (cs := #[.slice Ao9 t387.length co9, .slice none 0 0, .int .i64 0, .bool false, .slice none 0 0]) ?_ 1 _ rfl; (with_reducible repeat (first | refine blk_drewN ?_ _ | refine blk_drew ?_ | refine blk_alloc ?_ _)); refine blk_put (cs := #[.slice none 0 0, .slice none 0 0, .int .i64 0, .bool false, .slice none 0 0]) ?_ 0 _ rfl; (with_reducible repeat (first | refine blk_drewN ?_ _ | refine blk_drew ?_ | refine blk_alloc ?_ _)); exact BK399.out) hb); have n7_ := m_ (below_step (bN HB.out) hb); clear HO389; clear HO392; clear HO397; clear BK399; clear HB; have HO389 := n0_; have HO392 := n1_; have HO397 := n2_; have HO402 := n3_; have HO405 := n4_; have HO410 := n5_; have BK399 := n6_; have HB := n7_; clear n0_ n1_ n2_ n3_ n4_ n5_ n6_ n7_; (try clear hb); (try clear hb2); (try clear hk); (try clear hi); (try clear ho0); (try clear ho1); (try clear ho2)) | ((with_reducible refine gate_dst (N := 5) rfl ?_); refine box_event ?hg (N := 5) ?hd (cs := #[.slice none 0 0, .slice none 0 0, .int .i64 0, .bool false, .slice none 0 0]) (t := 33) ?hr ?_; (case hd => rfl); (case hg => rfl); (case hr => first | (go_simp; done) | (go_simp; rfl)); intro gb412 hg w14 hbox hb; have n0_ := m_ (Kd.R_below (rN HO389.out) hb); have n1_ := m_ (Kd.Q_below (by (with_reducible repeat (first | apply Kd.Q_alloc | apply Kd.Q_drewN | apply Kd.Q_drew)); exact HO392.out) hb); have n2_ := m_ (Kd.R_below (rN HO397.out) hb); have n3_ := m_ (Kd.R_below (rN HO402.out) hb); have n4_ := m_ (Kd.R_below (rN HO405.out) hb); have n5_ := m_ (Kd.R_below (rN HO410.out) hb); have n6_ := m_ (blk_below (g := gb399) (o := .cells #[.slice Ao9 t387.length co9, .slice Ao11 t390.length co11, .int .i64 t393, .bool t394, .slice Ao12 t395.length co12] 33 (0, 0)) (by (with_reducible repeat (first | refine blk_drewN ?_ _ | refine blk_drew ?_ | refine blk_alloc ?_ _)); exact BK399.out) hb); have n7_ := m_ (below_step (bN HB.out) hb); have n8_ := m_ (hbox); have n9_ := m_ ((by rw [hg]; exact (below_size (bN HB.out)) : w.heap.size ≤ gb412)); have n10_ := m_ ((by rw [hg]; exact (below_size (bN HB.out)) : w.heap.size ≤ gb412)); have n11_ := m_ ((by rw [hg]; exact Nat.ne_of_lt (blk_lt (g := gb399) (o := .cells #[.slice Ao9 t387.length co9, .slice Ao11 t390.length co11, .int .i64 t393, .bool t394, .slice Ao12 t395.length co12] 33 (0, 0)) (by (with_reducible repeat (first | refine blk_drewN ?_ _ | refine blk_drew ?_ | refine blk_alloc ?_ _)); exact BK399.out)) : gb399 ≠ gb412)); have n12_ := m_ ((by rw [hg]; exact Nat.ne_of_gt (blk_lt (g := gb399) (o := .cells #[.slice Ao9 t387.length co9, .slice Ao11 t390.length co11, .int .i64 t393, .bool t394, .slice Ao12 t395.length co12] 33 (0, 0)) (by (with_reducible repeat (first | refine blk_drewN ?_ _ | refine blk_drew ?_ | refine blk_alloc ?_ _)); exact BK399.out)) : gb412 ≠ gb399)); clear HO389; clear HO392; clear HO397; clear HO402; clear HO405; clear HO410; clear BK399; clear HB; have HO389 := n0_; have HO392 := n1_; have HO397 := n2_; have HO402 := n3_; have HO405 := n4_; have HO410 := n5_; have BK399 := n6_; have HB := n7_; have BK412 := n8_; have GW412 := n9_; have GE412 := n10_; have NB399_412 := n11_; have NB412_399 := n12_; clear n0_ n1_ n2_ n3_ n4_ n5_ n6_ n7_ n8_ n9_ n10_ n11_ n12_; clear hb hbox hg; obtain ⟨Ao15, co15, eo15⟩ := Kd.R_slice HO402.out; subst eo15; have hnb16 := NB412_399.out; have hnc16 := NB399_412.out; have hcz17_0 : w14.cell? ⟨gb412, 0, none⟩ = some (.slice none 0 0) := (blk_cell BK412.out 0).trans rfl; have hcz17_1 : w14.cell? ⟨gb412, 1, none⟩ = some (.slice none 0 0) := (blk_cell BK412.out 1).trans rfl; have hcz17_2 : w14.cell? ⟨gb412, 2, none⟩ = some (.int .i64 0) := (blk_cell BK412.out 2).trans rfl; have hcz17_3 : w14.cell? ⟨gb412, 3, none⟩ = some (.bool false) := (blk_cell BK412.out 3).trans rfl; have hcz17_4 : w14.cell? ⟨gb412, 4, none⟩ = some (.slice none 0 0) := (blk_cell BK412.out 4).trans rfl; have hfz17_0 := blk_frozen BK412.out 0; have hfz17_1 := blk_frozen BK412.out 1; have hfz17_2 := blk_frozen BK412.out 2; have hfz17_3 := blk_frozen BK412.out 3; have hfz17_4 := blk_frozen BK412.out 4; obtain ⟨Ao18, co18, eo18⟩ := Kd.R_slice HO405.out; subst eo18; obtain ⟨Ao19, co19, eo19⟩ := Kd.R_slice HO410.out; subst eo19; have hcz20_0 : w14.cell? ⟨gb399, 0, none⟩ = some (.slice Ao9 t387.length co9) := (blk_cell BK399.out 0).trans rfl; have hcz20_1 : w14.cell? ⟨gb399, 1, none⟩ = some (.slice Ao11 t390.length co11) := (blk_cell BK399.out 1).trans rfl; have hcz20_2 : w14.cell? ⟨gb399, 2, none⟩ = some (.int .i64 t393) := (blk_cell BK399.out 2).trans rfl; have hcz20_3 : w14.cell? ⟨gb399, 3, none⟩ = some (.bool t394) := (blk_cell BK399.out 3).trans rfl; have hcz20_4 : w14.cell? ⟨gb399, 4, none⟩ = some (.slice Ao12 t395.length co12) := (blk_cell BK399.out 4).trans rfl; have hfz20_0 := blk_frozen BK399.out 0; have hfz20_1 := blk_frozen BK399.out 1; have hfz20_2 := blk_frozen BK399.out 2; have hfz20_3 := blk_frozen BK399.out 3; have hfz20_4 := blk_frozen BK399.out 4) | ((with_reducible refine gate_callee (f := 28) rfl ?_); refine goesL_ (some 27) rfl rfl Try.func28 (by kernel_rfl) rfl #[.agg #[.slice Ao9 t387.length co9, .slice Ao11 t390.length co11, .int .i64 t393, .bool t394, .slice Ao12 t395.length co12], .int .i64 t398] rfl gl_ ?_; (with_reducible refine (spec_PartSend.calls k _ _ t387 _ _ t390 t393 t394 _ _ t395 t398 t413 t416 t419 t420 t421 t424 _ ?side1 ?side2 ?side3 ?side4 ?side5 ?side6 A5.out).mono ?_); (case side1 => refine (Kd.R_reads' (e := 53) (base := w.heap.size) (ok := fun k_ => (True ∧ nb Ao15 t400.length co15 k_)) (n := t387.length) (c := co9) ?_).2.2; exact (frN (Kd.R_types HO389.out BK412.out (by decide)))); (case side2 => exact (Kd.R_reads' HO389.out).2.1); (case side3 => refine (Kd.Q_reads' (e := 3) (base := w.heap.size) (ok := fun k_ => ((nb Ao12 t395.length co12 k_ ∧ nb Ao18 t403.length co18 k_) ∧ nb Ao19 t408.length co19 k_)) (n := t390.length) (c := co11) ?_).2.2; exact (by (with_reducible repeat (first | apply Kd.Q_alloc | apply Kd.Q_drewN | apply Kd.Q_drew)); exact (Kd.Q_mono (Kd.Q_far (p := ⟨gb412, 4, none⟩) (Kd.Q_far (p := ⟨gb412, 3, none⟩) (Kd.Q_far (p := ⟨gb412, 2, none⟩) (Kd.Q_far (p := ⟨gb412, 1, none⟩) (Kd.Q_far (p := ⟨gb412, 0, none⟩) (Kd.Q_types HO392.out BK412.out (by decide)) (fun _ hk => hk.2) (.slice Ao15 t400.length co15)) (fun _ hk => hk.2) (.slice Ao18 t403.length co18)) (fun _ hk => hk.2) (.int .i64 t406)) (fun _ hk => hk.2) (.bool t407)) (fun _ hk => hk.2) (.slice Ao19 t408.length co19)) (fun _ h_ => h_.1)))); (case side4 => exact (Kd.Q_reads' HO392.out).2.1); (case side5 => refine (Kd.R_reads' (e := 3) (base := w.heap.size) (ok := fun k_ => ((nb Ao11 t390.length co11 k_ ∧ nb Ao18 t403.length co18 k_) ∧ nb Ao19 t408.length co19 k_)) (n := t395.length) (c := co12) ?_).2.2; exact (frN (Kd.R_types HO397.out BK412.out (by decide)))); (case side6 => exact (Kd.R_reads' HO397.out).2.1); rintro e w21 ⟨v414, v417, v422, rfl, ho0, ho1, ho2, hb⟩; refine ⟨_, rfl, ?_⟩; have n0_ := m_ (Kd.R_elder' (frN (Kd.R_types HO389.out BK412.out (by decide))) (Kd.R_base ho0) hb); have n1_ := m_ (Kd.Q_mono (Kd.Q_told (Kd.Q_told (Kd.Q_old (by (with_reducible repeat (first | apply Kd.Q_alloc | apply Kd.Q_drewN | apply Kd.Q_drew)); exact (Kd.Q_mono (Kd.Q_far (p := ⟨gb412, 4, none⟩) (Kd.Q_far (p := ⟨gb412, 3, none⟩) (Kd.Q_far (p := ⟨gb412, 2, none⟩) (Kd.Q_far (p := ⟨gb412, 1, none⟩) (Kd.Q_far (p := ⟨gb412, 0, none⟩) (Kd.Q_types HO392.out BK412.out (by decide)) (fun _ hk => hk.2) (.slice Ao15 t400.length co15)) (fun _ hk => hk.2) (.slice Ao18 t403.length co18)) (fun _ hk => hk.2) (.int .i64 t406)) (fun _ hk => hk.2) (.bool t407)) (fun _ hk => hk.2) (.slice Ao19 t408.length co19)) (fun _ h_ => h_.1))) hb) (Kd.R_base ho1)) (Kd.R_base ho2)) (fun _ h_ => h_.1)); have n2_ := m_ (Kd.R_mono (Kd.R_told (Kd.R_told (Kd.R_old (frN (Kd.R_types HO397.out BK412.out (by decide))) hb) (Kd.R_base ho1)) (Kd.R_base ho2)) (fun _ h_ => h_.1)); have n3_ := m_ (Kd.R_elder' (frN (Kd.R_types HO402.out BK412.out (by decide))) (Kd.R_base ho0) hb); have n4_ := m_ (Kd.R_mono (Kd.R_told (Kd.R_told (Kd.R_old (frN (Kd.R_types HO405.out BK412.out (by decide))) hb) (Kd.R_base ho1)) (Kd.R_base ho2)) (fun _ h_ => h_.1)); have n5_ := m_ (Kd.R_mono (Kd.R_told (Kd.R_told (Kd.R_old (frN (Kd.R_types HO410.out BK412.out (by decide))) hb) (Kd.R_base ho1)) (Kd.R_base ho2)) (fun _ h_ => h_.1)); have n6_ := m_ (Kd.R_lower (Kd.R_new' (Kd.R_new' ho0 (Kd.R_lt (frN (Kd.R_types HO389.out BK412.out (by decide))))) (Kd.R_lt (frN (Kd.R_types HO402.out BK412.out (by decide))))) (below_size (bN HB.out))); have n7_ := m_ (Kd.R_lower (Kd.R_new' (Kd.R_new' (Kd.R_new' (Kd.R_new' ho1 (Kd.Q_lt (by (with_reducible repeat (first | apply Kd.Q_alloc | apply Kd.Q_drewN | apply Kd.Q_drew)); exact (Kd.Q_mono (Kd.Q_far (p := ⟨gb412, 4, none⟩) (Kd.Q_far (p := ⟨gb412, 3, none⟩) (Kd.Q_far (p := ⟨gb412, 2, none⟩) (Kd.Q_far (p := ⟨gb412, 1, none⟩) (Kd.Q_far (p := ⟨gb412, 0, none⟩) (Kd.Q_types HO392.out BK412.out (by decide)) (fun _ hk => hk.2) (.slice Ao15 t400.length co15)) (fun _ hk => hk.2) (.slice Ao18 t403.length co18)) (fun _ hk => hk.2) (.int .i64 t406)) (fun _ hk => hk.2) (.bool t407)) (fun _ hk => hk.2) (.slice Ao19 t408.length co19)) (fun _ h_ => h_.1))))) (Kd.R_lt (frN (Kd.R_types HO397.out BK412.out (by decide))))) (Kd.R_lt (frN (Kd.R_types HO405.out BK412.out (by decide))))) (Kd.R_lt (frN (Kd.R_types HO410.out BK412.out (by decide))))) (below_size (bN HB.out))); have n8_ := m_ (Kd.R_lower (Kd.R_new' (Kd.R_new' (Kd.R_new' (Kd.R_new' ho2 (Kd.Q_lt (by (with_reducible repeat (first | apply Kd.Q_alloc | apply Kd.Q_drewN | apply Kd.Q_drew)); exact (Kd.Q_mono (Kd.Q_far (p := ⟨gb412, 4, none⟩) (Kd.Q_far (p := ⟨gb412, 3, none⟩) (Kd.Q_far (p := ⟨gb412, 2, none⟩) (Kd.Q_far (p := ⟨gb412, 1, none⟩) (Kd.Q_far (p := ⟨gb412, 0, none⟩) (Kd.Q_types HO392.out BK412.out (by decide)) (fun _ hk => hk.2) (.slice Ao15 t400.length co15)) (fun _ hk => hk.2) (.slice Ao18 t403.length co18)) (fun _ hk => hk.2) (.int .i64 t406)) (fun _ hk => hk.2) (.bool t407)) (fun _ hk => hk.2) (.slice Ao19 t408.length co19)) (fun _ h_ => h_.1))))) (Kd.R_lt (frN (Kd.R_types HO397.out BK412.out (by decide))))) (Kd.R_lt (frN (Kd.R_types HO405.out BK412.out (by decide))))) (Kd.R_lt (frN (Kd.R_types HO410.out BK412.out (by decide))))) (below_size (bN HB.out))); have n9_ := m_ (blk_below (g := gb399) (o := .cells #[.slice Ao9 t387.length co9, .slice Ao11 t390.length co11, .int .i64 t393, .bool t394, .slice Ao12 t395.length co12] 33 (0, 0)) (kF BK399.out NB399_412.out) hb); have n10_ := m_ (blk_below (g := gb412) (o := .cells #[.slice Ao15 t400.length co15, .slice Ao18 t403.length co18, .int .i64 t406, .bool t407, .slice Ao19 t408.length co19] 33 (0, 0)) (by (with_reducible repeat (first | refine blk_drewN ?_ _ | refine blk_drew ?_ | refine blk_alloc ?_ _)); refine blk_put (cs := #[.slice Ao15 t400.length co15, .slice Ao18 t403.length co18, .int .i64 t406, .bool t407, .slice none 0 0]) ?_ 4 _ rfl; (with_reducible repeat (first | refine blk_drewN ?_ _ | refine blk_drew ?_ | refine blk_alloc ?_ _)); refine blk_put (cs := #[.slice Ao15 t400.length co15, .slice Ao18 t403.length co18, .int .i64 t406, .bool false, .slice none 0 0]) ?_ 3 _ rfl; (with_reducible repeat (first | refine blk_drewN ?_ _ | refine blk_drew ?_ | refine blk_alloc ?_ _)); refine blk_put (cs := #[.slice Ao15 t400.length co15, .slice Ao18 t403.length co18, .int .i64 0, .bool false, .slice none 0 0]) ?_ 2 _ rfl; (with_reducible repeat (first | refine blk_drewN ?_ _ | refine blk_drew ?_ | refine blk_alloc ?_ _)); refine blk_put (cs := #[.slice Ao15 t400.length co15, .slice none 0 0, .int .i64 0, .bool false, .slice none 0 0]) ?_ 1 _ rfl; (with_reducible repeat (first | refine blk_drewN ?_ _ | refine blk_drew ?_ | refine blk_alloc ?_ _)); refine blk_put (cs := #[.slice none 0 0, .slice none 0 0, .int .i64 0, .bool false, .slice none 0 0]) ?_ 0 _ rfl; (with_reducible repeat (first | refine blk_drewN ?_ _ | refine blk_drew ?_ | refine blk_alloc ?_ _)); exact BK412.out) hb); have n11_ := m_ (below_step (bN HB.out) hb); clear HO389; clear HO392; clear HO397; clear HO402; clear HO405; clear HO410; clear BK399; clear BK412; clear HB; have HO389 := n0_; have HO392 := n1_; have HO397 := n2_; have HO402 := n3_; have HO405 := n4_; have HO410 := n5_; have HO415 := n6_; have HO418 := n7_; have HO423 := n8_; have BK399 := n9_; have BK412 := n10_; have HB := n11_; clear n0_ n1_ n2_ n3_ n4_ n5_ n6_ n7_ n8_ n9_ n10_ n11_; (try clear hb); (try clear hb2); (try clear hk); (try clear hi); (try clear ho0); (try clear ho1); (try clear ho2)) | ((with_reducible refine gate_dst (N := 7) rfl ?_); refine box_event ?hg (N := 7) ?hd (cs := #[.slice none 0 0, .slice none 0 0, .int .i64 0, .bool false, .slice none 0 0]) (t := 33) ?hr ?_; (case hd => rfl); (case hg => rfl); (case hr => first | (go_simp; done) | (go_simp; rfl)); intro gb425 hg w22 hbox hb; have n0_ := m_ (Kd.R_below (rN HO389.out) hb); have n1_ := m_ (Kd.Q_below (by (with_reducible repeat (first | apply Kd.Q_alloc | apply Kd.Q_drewN | apply Kd.Q_drew)); exact HO392.out) hb); have n2_ := m_ (Kd.R_below (rN HO397.out) hb); have n3_ := m_ (Kd.R_below (rN HO402.out) hb); have n4_ := m_ (Kd.R_below (rN HO405.out) hb); have n5_ := m_ (Kd.R_below (rN HO410.out) hb); have n6_ := m_ (Kd.R_below (rN HO415.out) hb); have n7_ := m_ (Kd.R_below (rN HO418.out) hb); have n8_ := m_ (Kd.R_below (rN HO423.out) hb); have n9_ := m_ (blk_below (g := gb399) (o := .cells #[.slice Ao9 t387.length co9, .slice Ao11 t390.length co11, .int .i64 t393, .bool t394, .slice Ao12 t395.length co12] 33 (0, 0)) (by (with_reducible repeat (first | refine blk_drewN ?_ _ | refine blk_drew ?_ | refine blk_alloc ?_ _)); exact BK399.out) hb); have n10_ := m_ (blk_below (g := gb412) (o := .cells #[.slice Ao15 t400.length co15, .slice Ao18 t403.length co18, .int .i64 t406, .bool t407, .slice Ao19 t408.length co19] 33 (0, 0)) (by (with_reducible repeat (first | refine blk_drewN ?_ _ | refine blk_drew ?_ | refine blk_alloc ?_ _)); exact BK412.out) hb); have n11_ := m_ (below_step (bN HB.out) hb); have n12_ := m_ (hbox); have n13_ := m_ ((by rw [hg]; exact (below_size (bN HB.out)) : w.heap.size ≤ gb425)); have n14_ := m_ ((by rw [hg]; exact (below_size (bN HB.out)) : w.heap.size ≤ gb425)); have n15_ := m_ ((by rw [hg]; exact Nat.ne_of_lt (blk_lt (g := gb399) (o := .cells #[.slice Ao9 t387.length co9, .slice Ao11 t390.length co11, .int .i64 t393, .bool t394, .slice Ao12 t395.length co12] 33 (0, 0)) (by (with_reducible repeat (first | refine blk_drewN ?_ _ | refine blk_drew ?_ | refine blk_alloc ?_ _)); exact BK399.out)) : gb399 ≠ gb425)); have n16_ := m_ ((by rw [hg]; exact Nat.ne_of_gt (blk_lt (g := gb399) (o := .cells #[.slice Ao9 t387.length co9, .slice Ao11 t390.length co11, .int .i64 t393, .bool t394, .slice Ao12 t395.length co12] 33 (0, 0)) (by (with_reducible repeat (first | refine blk_drewN ?_ _ | refine blk_drew ?_ | refine blk_alloc ?_ _)); exact BK399.out)) : gb425 ≠ gb399)); have n17_ := m_ ((by rw [hg]; exact Nat.ne_of_lt (blk_lt (g := gb412) (o := .cells #[.slice Ao15 t400.length co15, .slice Ao18 t403.length co18, .int .i64 t406, .bool t407, .slice Ao19 t408.length co19] 33 (0, 0)) (by (with_reducible repeat (first | refine blk_drewN ?_ _ | refine blk_drew ?_ | refine blk_alloc ?_ _)); exact BK412.out)) : gb412 ≠ gb425)); have n18_ := m_ ((by rw [hg]; exact Nat.ne_of_gt (blk_lt (g := gb412) (o := .cells #[.slice Ao15 t400.length co15, .slice Ao18 t403.length co18, .int .i64 t406, .bool t407, .slice Ao19 t408.length co19] 33 (0, 0)) (by (with_reducible repeat (first | refine blk_drewN ?_ _ | refine blk_drew ?_ | refine blk_alloc ?_ _)); exact BK412.out)) : gb425 ≠ gb412)); clear HO389; clear HO392; clear HO397; clear HO402; clear HO405; clear HO410; clear HO415; clear HO418; clear HO423; clear BK399; clear BK412; clear HB; have HO389 := n0_; have HO392 := n1_; have HO397 := n2_; have HO402 := n3_; have HO405 := n4_; have HO410 := n5_; have HO415 := n6_; have HO418 := n7_; have HO423 := n8_; have BK399 := n9_; have BK412 := n10_; have HB := n11_; have BK425 := n12_; have GW425 := n13_; have GE425 := n14_; have NB399_425 := n15_; have NB425_399 := n16_; have NB412_425 := n17_; have NB425_412 := n18_; clear n0_ n1_ n2_ n3_ n4_ n5_ n6_ n7_ n8_ n9_ n10_ n11_ n12_ n13_ n14_ n15_ n16_ n17_ n18_; clear hb hbox hg; obtain ⟨Ao23, co23, eo23⟩ := Kd.R_slice HO415.out; subst eo23; have hnb24 := NB425_399.out; have hnc24 := NB399_425.out; have hnb25 := NB425_412.out; have hnc25 := NB412_425.out; have hcz26_0 : w22.cell? ⟨gb425, 0, none⟩ = some (.slice none 0 0) := (blk_cell BK425.out 0).trans rfl; have hcz26_1 : w22.cell? ⟨gb425, 1, none⟩ = some (.slice none 0 0) := (blk_cell BK425.out 1).trans rfl; have hcz26_2 : w22.cell? ⟨gb425, 2, none⟩ = some (.int .i64 0) := (blk_cell BK425.out 2).trans rfl; have hcz26_3 : w22.cell? ⟨gb425, 3, none⟩ = some (.bool false) := (blk_cell BK425.out 3).trans rfl; have hcz26_4 : w22.cell? ⟨gb425, 4, none⟩ = some (.slice none 0 0) := (blk_cell BK425.out 4).trans rfl; have hfz26_0 := blk_frozen BK425.out 0; have hfz26_1 := blk_frozen BK425.out 1; have hfz26_2 := blk_frozen BK425.out 2; have hfz26_3 := blk_frozen BK425.out 3; have hfz26_4 := blk_frozen BK425.out 4; obtain ⟨Ao27, co27, eo27⟩ := Kd.R_slice HO418.out; subst eo27; obtain ⟨Ao28, co28, eo28⟩ := Kd.R_slice HO423.out; subst eo28))
  (try simp only [Act.put, List.setIfInBounds_toArray, List.set_cons_zero, List.set_cons_succ])
  go_cut [50] (fun v50 wc => ∃ (kq : Nat) (x50_5 : Bool), v50 = .bool x50_5 ∧ Aside0 (laws_FnPartSend.j0 kq t398 t411 t424 x50_5 t387 t390 t393 t394 t395 t400 t403 t406 t407 t408 t413 t416 t419 t420 t421 = some r) ∧ Aside0 (kq ≤ k) ∧ Aside0 (Kd.R k53 53 wc w.heap.size (fun k_ => some k_ ≠ ((.slice Ao15 t400.length co15) : Value).ownBlock ∧ some k_ ≠ ((.slice Ao23 t413.length co23) : Value).ownBlock) (.slice Ao9 t387.length co9) t387) ∧ Aside0 (Kd.Q (Kd.int .i64) 3 wc w.heap.size (fun k_ => some k_ ≠ ((.slice Ao12 t395.length co12) : Value).ownBlock ∧ some k_ ≠ ((.slice Ao18 t403.length co18) : Value).ownBlock ∧ some k_ ≠ ((.slice Ao19 t408.length co19) : Value).ownBlock ∧ some k_ ≠ ((.slice Ao27 t416.length co27) : Value).ownBlock ∧ some k_ ≠ ((.slice Ao28 t421.length co28) : Value).ownBlock) (.slice Ao11 t390.length co11) t390) ∧ Aside0 (Kd.R (Kd.int .i64) 3 wc w.heap.size (fun k_ => some k_ ≠ ((.slice Ao11 t390.length co11) : Value).ownBlock ∧ some k_ ≠ ((.slice Ao18 t403.length co18) : Value).ownBlock ∧ some k_ ≠ ((.slice Ao19 t408.length co19) : Value).ownBlock ∧ some k_ ≠ ((.slice Ao27 t416.length co27) : Value).ownBlock ∧ some k_ ≠ ((.slice Ao28 t421.length co28) : Value).ownBlock) (.slice Ao12 t395.length co12) t395) ∧ Aside0 (Kd.R k53 53 wc w.heap.size (fun k_ => some k_ ≠ ((.slice Ao9 t387.length co9) : Value).ownBlock ∧ some k_ ≠ ((.slice Ao23 t413.length co23) : Value).ownBlock) (.slice Ao15 t400.length co15) t400) ∧ Aside0 (Kd.Q (Kd.int .i64) 3 wc w.heap.size (fun k_ => some k_ ≠ ((.slice Ao11 t390.length co11) : Value).ownBlock ∧ some k_ ≠ ((.slice Ao12 t395.length co12) : Value).ownBlock ∧ some k_ ≠ ((.slice Ao19 t408.length co19) : Value).ownBlock ∧ some k_ ≠ ((.slice Ao27 t416.length co27) : Value).ownBlock ∧ some k_ ≠ ((.slice Ao28 t421.length co28) : Value).ownBlock) (.slice Ao18 t403.length co18) t403) ∧ Aside0 (Kd.R (Kd.int .i64) 3 wc w.heap.size (fun k_ => some k_ ≠ ((.slice Ao11 t390.length co11) : Value).ownBlock ∧ some k_ ≠ ((.slice Ao12 t395.length co12) : Value).ownBlock ∧ some k_ ≠ ((.slice Ao18 t403.length co18) : Value).ownBlock ∧ some k_ ≠ ((.slice Ao27 t416.length co27) : Value).ownBlock ∧ some k_ ≠ ((.slice Ao28 t421.length co28) : Value).ownBlock) (.slice Ao19 t408.length co19) t408) ∧ Aside0 (Kd.R k53 53 wc w.heap.size (fun k_ => some k_ ≠ ((.slice Ao9 t387.length co9) : Value).ownBlock ∧ some k_ ≠ ((.slice Ao15 t400.length co15) : Value).ownBlock) (.slice Ao23 t413.length co23) t413) ∧ Aside0 (Kd.Q (Kd.int .i64) 3 wc w.heap.size (fun k_ => some k_ ≠ ((.slice Ao11 t390.length co11) : Value).ownBlock ∧ some k_ ≠ ((.slice Ao12 t395.length co12) : Value).ownBlock ∧ some k_ ≠ ((.slice Ao18 t403.length co18) : Value).ownBlock ∧ some k_ ≠ ((.slice Ao19 t408.length co19) : Value).ownBlock ∧ some k_ ≠ ((.slice Ao28 t421.length co28) : Value).ownBlock) (.slice Ao27 t416.length co27) t416) ∧ Aside0 (Kd.R (Kd.int .i64) 3 wc w.heap.size (fun k_ => some k_ ≠ ((.slice Ao11 t390.length co11) : Value).ownBlock ∧ some k_ ≠ ((.slice Ao12 t395.length co12) : Value).ownBlock ∧ some k_ ≠ ((.slice Ao18 t403.length co18) : Value).ownBlock ∧ some k_ ≠ ((.slice Ao19 t408.length co19) : Value).ownBlock ∧ some k_ ≠ ((.slice Ao27 t416.length co27) : Value).ownBlock) (.slice Ao28 t421.length co28) t421) ∧ Aside0 (wc.heap[gb399]? = some (.cells #[(.slice Ao9 t387.length co9), (.slice Ao11 t390.length co11), .int .i64 t393, .bool t394, (.slice Ao12 t395.length co12)] 33 (0, 0))) ∧ Aside0 (wc.heap[gb412]? = some (.cells #[(.slice Ao15 t400.length co15), (.slice Ao18 t403.length co18), .int .i64 t406, .bool t407, (.slice Ao19 t408.length co19)] 33 (0, 0))) ∧ Aside0 (wc.heap[gb425]? = some (.cells #[(.slice Ao23 t413.length co23), (.slice Ao27 t416.length co27), .int .i64 t419, .bool t420, (.slice Ao28 t421.length co28)] 33 (0, 0))) ∧ Aside0 (Below w.heap.size w wc))
  case first =>
   have H := HC6.out
   clear HC6
   replace H := Option.bind_eq_some_iff.mp H
   obtain ⟨t426, A290, H⟩ := H
   replace H : (if t426 = true then (if (t411 != t424) = true then (laws_FnPartSend.j0 k t398 t411 t424 true t387 t390 t393 t394 t395 t400 t403 t406 t407 t408 t413 t416 t419 t420 t421) else ((impl_PartOk.f k t387 t390 t393 t394 t395).bind fun t427 => ((spec_PartOk.f k t387 t390 t393 t394 t395).bind fun t428 => (if (t427 != t428) = true then (laws_FnPartSend.j0 k t398 t411 t424 true t387 t390 t393 t394 t395 t400 t403 t406 t407 t408 t413 t416 t419 t420 t421) else ((spec_PartOk.f k t387 t390 t393 t394 t395).bind fun t429 => (laws_FnPartSend.j0 k t398 t411 t424 (!t429) t387 t390 t393 t394 t395 t400 t403 t406 t407 t408 t413 t416 t419 t420 t421)))))) else (laws_FnPartSend.j0 k t398 t411 t424 true t387 t390 t393 t394 t395 t400 t403 t406 t407 t408 t413 t416 t419 t420 t421)) = some r := H
   have A29 := Aside0.mk A290
   clear A290
   by_cases c30 : t426 = true
   ·subst c30
    have H1 : (if (t411 != t424) = true then (laws_FnPartSend.j0 k t398 t411 t424 true t387 t390 t393 t394 t395 t400 t403 t406 t407 t408 t413 t416 t419 t420 t421) else ((impl_PartOk.f k t387 t390 t393 t394 t395).bind fun t427 => ((spec_PartOk.f k t387 t390 t393 t394 t395).bind fun t428 => (if (t427 != t428) = true then (laws_FnPartSend.j0 k t398 t411 t424 true t387 t390 t393 t394 t395 t400 t403 t406 t407 t408 t413 t416 t419 t420 t421) else ((spec_PartOk.f k t387 t390 t393 t394 t395).bind fun t429 => (laws_FnPartSend.j0 k t398 t411 t424 (!t429) t387 t390 t393 t394 t395 t400 t403 t406 t407 t408 t413 t416 t419 t420 t421)))))) = some r := by rw [if_pos rfl] at H; exact H
    clear H
    have H := H1
    clear H1
    by_cases c31 : (t411 != t424) = true
    ·rw [if_pos c31] at H
     have c31b0 : (t411 != t424) = true := c31
     (try (have c31b1 : decide (t411 = t424) = false := by simpa using c31))
     (try (have c31b2 : (t411 == t424) = false := by simpa using c31))
     (try (have c31b3 : ¬ (t411 = t424) := by simpa using c31))
     clear c31
     (first | rw [c31b0] | (simp only [i64_w, i32_w]; rw [c31b0]) | skip)
     have H' := Aside0.mk H
     clear H
     try go_wp2
     have n0_ : Aside0 (Kd.R k53 53 (((((w22.setCell ⟨gb425, 0, none⟩ (.slice Ao23 t413.length co23)).setCell ⟨gb425, 1, none⟩ (.slice Ao27 t416.length co27)).setCell ⟨gb425, 2, none⟩ (.int .i64 t419)).setCell ⟨gb425, 3, none⟩ (.bool t420)).setCell ⟨gb425, 4, none⟩ (.slice Ao28 t421.length co28)) w.heap.size (fun k_ => nb Ao15 t400.length co15 k_ ∧ nb Ao23 t413.length co23 k_) (.slice Ao9 t387.length co9) t387) := ⟨by (with_reducible repeat (first | apply Kd.R_alloc | apply Kd.R_drewN | apply Kd.R_drew)); exact frM (Kd.R_types HO389.out BK425.out (by decide))⟩
     have n1_ : Aside0 (Kd.Q (Kd.int .i64) 3 (((((w22.setCell ⟨gb425, 0, none⟩ (.slice Ao23 t413.length co23)).setCell ⟨gb425, 1, none⟩ (.slice Ao27 t416.length co27)).setCell ⟨gb425, 2, none⟩ (.int .i64 t419)).setCell ⟨gb425, 3, none⟩ (.bool t420)).setCell ⟨gb425, 4, none⟩ (.slice Ao28 t421.length co28)) w.heap.size (fun k_ => nb Ao12 t395.length co12 k_ ∧ nb Ao18 t403.length co18 k_ ∧ nb Ao19 t408.length co19 k_ ∧ nb Ao27 t416.length co27 k_ ∧ nb Ao28 t421.length co28 k_) (.slice Ao11 t390.length co11) t390) := ⟨by (with_reducible repeat (first | apply Kd.Q_alloc | apply Kd.Q_drewN | apply Kd.Q_drew)); exact frQ (Kd.Q_types HO392.out BK425.out (by decide))⟩
     have n2_ : Aside0 (Kd.R (Kd.int .i64) 3 (((((w22.setCell ⟨gb425, 0, none⟩ (.slice Ao23 t413.length co23)).setCell ⟨gb425, 1, none⟩ (.slice Ao27 t416.length co27)).setCell ⟨gb425, 2, none⟩ (.int .i64 t419)).setCell ⟨gb425, 3, none⟩ (.bool t420)).setCell ⟨gb425, 4, none⟩ (.slice Ao28 t421.length co28)) w.heap.size (fun k_ => nb Ao11 t390.length co11 k_ ∧ nb Ao18 t403.length co18 k_ ∧ nb Ao19 t408.length co19 k_ ∧ nb Ao27 t416.length co27 k_ ∧ nb Ao28 t421.length co28 k_) (.slice Ao12 t395.length co12) t395) := ⟨by (with_reducible repeat (first | apply Kd.R_alloc | apply Kd.R_drewN | apply Kd.R_drew)); exact frM (Kd.R_types HO397.out BK425.out (by decide))⟩
     have n3_ : Aside0 (Kd.R k53 53 (((((w22.setCell ⟨gb425, 0, none⟩ (.slice Ao23 t413.length co23)).setCell ⟨gb425, 1, none⟩ (.slice Ao27 t416.length co27)).setCell ⟨gb425, 2, none⟩ (.int .i64 t419)).setCell ⟨gb425, 3, none⟩ (.bool t420)).setCell ⟨gb425, 4, none⟩ (.slice Ao28 t421.length co28)) w.heap.size (fun k_ => nb Ao9 t387.length co9 k_ ∧ nb Ao23 t413.length co23 k_) (.slice Ao15 t400.length co15) t400) := ⟨by (with_reducible repeat (first | apply Kd.R_alloc | apply Kd.R_drewN | apply Kd.R_drew)); exact frM (Kd.R_types HO402.out BK425.out (by decide))⟩
     have n4_ : Aside0 (Kd.R (Kd.int .i64) 3 (((((w22.setCell ⟨gb425, 0, none⟩ (.slice Ao23 t413.length co23)).setCell ⟨gb425, 1, none⟩ (.slice Ao27 t416.length co27)).setCell ⟨gb425, 2, none⟩ (.int .i64 t419)).setCell ⟨gb425, 3, none⟩ (.bool t420)).setCell ⟨gb425, 4, none⟩ (.slice Ao28 t421.length co28)) w.heap.size (fun k_ => nb Ao11 t390.length co11 k_ ∧ nb Ao12 t395.length co12 k_ ∧ nb Ao19 t408.length co19 k_ ∧ nb Ao27 t416.length co27 k_ ∧ nb Ao28 t421.length co28 k_) (.slice Ao18 t403.length co18) t403) := ⟨by (with_reducible repeat (first | apply Kd.R_alloc | apply Kd.R_drewN | apply Kd.R_drew)); exact frM (Kd.R_types HO405.out BK425.out (by decide))⟩
     have n5_ : Aside0 (Kd.R (Kd.int .i64) 3 (((((w22.setCell ⟨gb425, 0, none⟩ (.slice Ao23 t413.length co23)).setCell ⟨gb425, 1, none⟩ (.slice Ao27 t416.length co27)).setCell ⟨gb425, 2, none⟩ (.int .i64 t419)).setCell ⟨gb425, 3, none⟩ (.bool t420)).setCell ⟨gb425, 4, none⟩ (.slice Ao28 t421.length co28)) w.heap.size (fun k_ => nb Ao11 t390.length co11 k_ ∧ nb Ao12 t395.length co12 k_ ∧ nb Ao18 t403.length co18 k_ ∧ nb Ao27 t416.length co27 k_ ∧ nb Ao28 t421.length co28 k_) (.slice Ao19 t408.length co19) t408) := ⟨by (with_reducible repeat (first | apply Kd.R_alloc | apply Kd.R_drewN | apply Kd.R_drew)); exact frM (Kd.R_types HO410.out BK425.out (by decide))⟩
     have n6_ : Aside0 (Kd.R k53 53 (((((w22.setCell ⟨gb425, 0, none⟩ (.slice Ao23 t413.length co23)).setCell ⟨gb425, 1, none⟩ (.slice Ao27 t416.length co27)).setCell ⟨gb425, 2, none⟩ (.int .i64 t419)).setCell ⟨gb425, 3, none⟩ (.bool t420)).setCell ⟨gb425, 4, none⟩ (.slice Ao28 t421.length co28)) w.heap.size (fun k_ => nb Ao9 t387.length co9 k_ ∧ nb Ao15 t400.length co15 k_) (.slice Ao23 t413.length co23) t413) := ⟨by (with_reducible repeat (first | apply Kd.R_alloc | apply Kd.R_drewN | apply Kd.R_drew)); exact frM (Kd.R_types HO415.out BK425.out (by decide))⟩
     have n7_ : Aside0 (Kd.R (Kd.int .i64) 3 (((((w22.setCell ⟨gb425, 0, none⟩ (.slice Ao23 t413.length co23)).setCell ⟨gb425, 1, none⟩ (.slice Ao27 t416.length co27)).setCell ⟨gb425, 2, none⟩ (.int .i64 t419)).setCell ⟨gb425, 3, none⟩ (.bool t420)).setCell ⟨gb425, 4, none⟩ (.slice Ao28 t421.length co28)) w.heap.size (fun k_ => nb Ao11 t390.length co11 k_ ∧ nb Ao12 t395.length co12 k_ ∧ nb Ao18 t403.length co18 k_ ∧ nb Ao19 t408.length co19 k_ ∧ nb Ao28 t421.length co28 k_) (.slice Ao27 t416.length co27) t416) := ⟨by (with_reducible repeat (first | apply Kd.R_alloc | apply Kd.R_drewN | apply Kd.R_drew)); exact frM (Kd.R_types HO418.out BK425.out (by decide))⟩
     have n8_ : Aside0 (Kd.R (Kd.int .i64) 3 (((((w22.setCell ⟨gb425, 0, none⟩ (.slice Ao23 t413.length co23)).setCell ⟨gb425, 1, none⟩ (.slice Ao27 t416.length co27)).setCell ⟨gb425, 2, none⟩ (.int .i64 t419)).setCell ⟨gb425, 3, none⟩ (.bool t420)).setCell ⟨gb425, 4, none⟩ (.slice Ao28 t421.length co28)) w.heap.size (fun k_ => nb Ao11 t390.length co11 k_ ∧ nb Ao12 t395.length co12 k_ ∧ nb Ao18 t403.length co18 k_ ∧ nb Ao19 t408.length co19 k_ ∧ nb Ao27 t416.length co27 k_) (.slice Ao28 t421.length co28) t421) := ⟨by (with_reducible repeat (first | apply Kd.R_alloc | apply Kd.R_drewN | apply Kd.R_drew)); exact frM (Kd.R_types HO423.out BK425.out (by decide))⟩
     have n9_ : Aside0 ((((((w22.setCell ⟨gb425, 0, none⟩ (.slice Ao23 t413.length co23)).setCell ⟨gb425, 1, none⟩ (.slice Ao27 t416.length co27)).setCell ⟨gb425, 2, none⟩ (.int .i64 t419)).setCell ⟨gb425, 3, none⟩ (.bool t420)).setCell ⟨gb425, 4, none⟩ (.slice Ao28 t421.length co28)).heap[gb399]? = some (.cells #[.slice Ao9 t387.length co9, .slice Ao11 t390.length co11, .int .i64 t393, .bool t394, .slice Ao12 t395.length co12] 33 (0, 0))) := ⟨by (with_reducible repeat (first | refine blk_drewN ?_ _ | refine blk_drew ?_ | refine blk_alloc ?_ _)); refine blk_far ?_ NB399_425.out _; (with_reducible repeat (first | refine blk_drewN ?_ _ | refine blk_drew ?_ | refine blk_alloc ?_ _)); refine blk_far ?_ NB399_425.out _; (with_reducible repeat (first | refine blk_drewN ?_ _ | refine blk_drew ?_ | refine blk_alloc ?_ _)); refine blk_far ?_ NB399_425.out _; (with_reducible repeat (first | refine blk_drewN ?_ _ | refine blk_drew ?_ | refine blk_alloc ?_ _)); refine blk_far ?_ NB399_425.out _; (with_reducible repeat (first | refine blk_drewN ?_ _ | refine blk_drew ?_ | refine blk_alloc ?_ _)); refine blk_far ?_ NB399_425.out _; (with_reducible repeat (first | refine blk_drewN ?_ _ | refine blk_drew ?_ | refine blk_alloc ?_ _)); exact BK399.out⟩
     have n10_ : Aside0 ((((((w22.setCell ⟨gb425, 0, none⟩ (.slice Ao23 t413.length co23)).setCell ⟨gb425, 1, none⟩ (.slice Ao27 t416.length co27)).setCell ⟨gb425, 2, none⟩ (.int .i64 t419)).setCell ⟨gb425, 3, none⟩ (.bool t420)).setCell ⟨gb425, 4, none⟩ (.slice Ao28 t421.length co28)).heap[gb412]? = some (.cells #[.slice Ao15 t400.length co15, .slice Ao18 t403.length co18, .int .i64 t406, .bool t407, .slice Ao19 t408.length co19] 33 (0, 0))) := ⟨by (with_reducible repeat (first | refine blk_drewN ?_ _ | refine blk_drew ?_ | refine blk_alloc ?_ _)); refine blk_far ?_ NB412_425.out _; (with_reducible repeat (first | refine blk_drewN ?_ _ | refine blk_drew ?_ | refine blk_alloc ?_ _)); refine blk_far ?_ NB412_425.out _; (with_reducible repeat (first | refine blk_drewN ?_ _ | refine blk_drew ?_ | refine blk_alloc ?_ _)); refine blk_far ?_ NB412_425.out _; (with_reducible repeat (first | refine blk_drewN ?_ _ | refine blk_drew ?_ | refine blk_alloc ?_ _)); refine blk_far ?_ NB412_425.out _; (with_reducible repeat (first | refine blk_drewN ?_ _ | refine blk_drew ?_ | refine blk_alloc ?_ _)); refine blk_far ?_ NB412_425.out _; (with_reducible repeat (first | refine blk_drewN ?_ _ | refine blk_drew ?_ | refine blk_alloc ?_ _)); exact BK412.out⟩
     have n11_ : Aside0 ((((((w22.setCell ⟨gb425, 0, none⟩ (.slice Ao23 t413.length co23)).setCell ⟨gb425, 1, none⟩ (.slice Ao27 t416.length co27)).setCell ⟨gb425, 2, none⟩ (.int .i64 t419)).setCell ⟨gb425, 3, none⟩ (.bool t420)).setCell ⟨gb425, 4, none⟩ (.slice Ao28 t421.length co28)).heap[gb425]? = some (.cells #[.slice Ao23 t413.length co23, .slice Ao27 t416.length co27, .int .i64 t419, .bool t420, .slice Ao28 t421.length co28] 33 (0, 0))) := ⟨by (with_reducible repeat (first | refine blk_drewN ?_ _ | refine blk_drew ?_ | refine blk_alloc ?_ _)); refine blk_put (cs := #[.slice Ao23 t413.length co23, .slice Ao27 t416.length co27, .int .i64 t419, .bool t420, .slice none 0 0]) ?_ 4 _ rfl; (with_reducible repeat (first | refine blk_drewN ?_ _ | refine blk_drew ?_ | refine blk_alloc ?_ _)); refine blk_put (cs := #[.slice Ao23 t413.length co23, .slice Ao27 t416.length co27, .int .i64 t419, .bool false, .slice none 0 0]) ?_ 3 _ rfl; (with_reducible repeat (first | refine blk_drewN ?_ _ | refine blk_drew ?_ | refine blk_alloc ?_ _)); refine blk_put (cs := #[.slice Ao23 t413.length co23, .slice Ao27 t416.length co27, .int .i64 0, .bool false, .slice none 0 0]) ?_ 2 _ rfl; (with_reducible repeat (first | refine blk_drewN ?_ _ | refine blk_drew ?_ | refine blk_alloc ?_ _)); refine blk_put (cs := #[.slice Ao23 t413.length co23, .slice none 0 0, .int .i64 0, .bool false, .slice none 0 0]) ?_ 1 _ rfl; (with_reducible repeat (first | refine blk_drewN ?_ _ | refine blk_drew ?_ | refine blk_alloc ?_ _)); refine blk_put (cs := #[.slice none 0 0, .slice none 0 0, .int .i64 0, .bool false, .slice none 0 0]) ?_ 0 _ rfl; (with_reducible repeat (first | refine blk_drewN ?_ _ | refine blk_drew ?_ | refine blk_alloc ?_ _)); exact BK425.out⟩
     have n12_ : Aside0 (Below w.heap.size w (((((w22.setCell ⟨gb425, 0, none⟩ (.slice Ao23 t413.length co23)).setCell ⟨gb425, 1, none⟩ (.slice Ao27 t416.length co27)).setCell ⟨gb425, 2, none⟩ (.int .i64 t419)).setCell ⟨gb425, 3, none⟩ (.bool t420)).setCell ⟨gb425, 4, none⟩ (.slice Ao28 t421.length co28))) := ⟨by repeat (first | (with_reducible first | exact HB.out | apply below_alloc | apply pw_below_drewN | apply below_drew1 | refine below_set ?_ GE399.out | refine below_set ?_ GE412.out | refine below_set ?_ GE425.out) | exact HB.out)⟩
     (try clear HO389)
     (try clear HO392)
     (try clear HO397)
     (try clear HO402)
     (try clear HO405)
     (try clear HO410)
     (try clear HO415)
     (try clear HO418)
     (try clear HO423)
     (try clear BK399)
     (try clear BK412)
     (try clear BK425)
     (try clear HB)
     generalize (((((w22.setCell ⟨gb425, 0, none⟩ (.slice Ao23 t413.length co23)).setCell ⟨gb425, 1, none⟩ (.slice Ao27 t416.length co27)).setCell ⟨gb425, 2, none⟩ (.int .i64 t419)).setCell ⟨gb425, 3, none⟩ (.bool t420)).setCell ⟨gb425, 4, none⟩ (.slice Ao28 t421.length co28)) = w32 at n0_ n1_ n2_ n3_ n4_ n5_ n6_ n7_ n8_ n9_ n10_ n11_ n12_ ⊢
     have HO389 := n0_
     have HO392 := n1_
     have HO397 := n2_
     have HO402 := n3_
     have HO405 := n4_
     have HO410 := n5_
     have HO415 := n6_
     have HO418 := n7_
     have HO423 := n8_
     have BK399 := n9_
     have BK412 := n10_
     have BK425 := n11_
     have HB := n12_
     clear n0_ n1_ n2_ n3_ n4_ n5_ n6_ n7_ n8_ n9_ n10_ n11_ n12_
     have n0_ := m_ (Kd.R_drew HO389.out)
     have n1_ := m_ (Kd.Q_drew HO392.out)
     have n2_ := m_ (Kd.R_drew HO397.out)
     have n3_ := m_ (Kd.R_drew HO402.out)
     have n4_ := m_ (Kd.R_drew HO405.out)
     have n5_ := m_ (Kd.R_drew HO410.out)
     have n6_ := m_ (Kd.R_drew HO415.out)
     have n7_ := m_ (Kd.R_drew HO418.out)
     have n8_ := m_ (Kd.R_drew HO423.out)
     have n9_ := m_ (blk_drew BK399.out)
     have n10_ := m_ (blk_drew BK412.out)
     have n11_ := m_ (blk_drew BK425.out)
     have n12_ := m_ (below_drew1 HB.out)
     clear HO389
     clear HO392
     clear HO397
     clear HO402
     clear HO405
     clear HO410
     clear HO415
     clear HO418
     clear HO423
     clear BK399
     clear BK412
     clear BK425
     clear HB
     have HO389 := n0_
     have HO392 := n1_
     have HO397 := n2_
     have HO402 := n3_
     have HO405 := n4_
     have HO410 := n5_
     have HO415 := n6_
     have HO418 := n7_
     have HO423 := n8_
     have BK399 := n9_
     have BK412 := n10_
     have BK425 := n11_
     have HB := n12_
     clear n0_ n1_ n2_ n3_ n4_ n5_ n6_ n7_ n8_ n9_ n10_ n11_ n12_
     refine start_ (n := 21) (S := fun w' => w'.cell? ⟨gb412, 0, none⟩ = some (.slice Ao15 t400.length co15) ∧ w'.cell? ⟨gb412, 1, none⟩ = some (.slice Ao18 t403.length co18) ∧ w'.cell? ⟨gb412, 2, none⟩ = some (.int .i64 t406) ∧ w'.cell? ⟨gb412, 3, none⟩ = some (.bool t407) ∧ w'.cell? ⟨gb412, 4, none⟩ = some (.slice Ao19 t408.length co19) ∧ w'.cell? ⟨gb425, 0, none⟩ = some (.slice Ao23 t413.length co23) ∧ w'.cell? ⟨gb425, 1, none⟩ = some (.slice Ao27 t416.length co27) ∧ w'.cell? ⟨gb425, 2, none⟩ = some (.int .i64 t419) ∧ w'.cell? ⟨gb425, 3, none⟩ = some (.bool t420) ∧ w'.cell? ⟨gb425, 4, none⟩ = some (.slice Ao28 t421.length co28)) (ds := []) #[false, false, false, false, false, false, false, false, false, false, false, false, false, false, false, false, false, false, false, false, false] (by kernel_rfl) rfl rfl ⟨(blk_cell BK412.out 0).trans rfl, (blk_cell BK412.out 1).trans rfl, (blk_cell BK412.out 2).trans rfl, (blk_cell BK412.out 3).trans rfl, (blk_cell BK412.out 4).trans rfl, (blk_cell BK425.out 0).trans rfl, (blk_cell BK425.out 1).trans rfl, (blk_cell BK425.out 2).trans rfl, (blk_cell BK425.out 3).trans rfl, (blk_cell BK425.out 4).trans rfl⟩ (fun hHeld => ?_); refine with_tabW laws_FnPartSend.tab6 laws_FnPartSend.bits6 (fun HT_ HW_ => ?_)
     generalize w32.drew = w33 at HO389 HO392 HO397 HO402 HO405 HO410 HO415 HO418 HO423 BK399 BK412 BK425 HB hHeld ⊢
     refine take_ (i := 0) (N := some 30) (v := ?_) (a' := ?_) #[true, false, false, false, false, false, false, false, false, false, false, false, false, false, false, false, false, false, false, false, false] rfl rfl (take_ofW HT_.out HW_.out (by kernel_rfl)) (fun _ _ _ h => h) (Or.inl ⟨by rfl, ?_⟩) hHeld ?_ ?_
     rotate_left
     ·rintro w' ⟨s0, s1, s2, s3, s4, s5, s6, s7, s8, s9⟩
      go_simp
      with_reducible rfl
     rotate_left
     ·simp only [Act.put, List.setIfInBounds_toArray, List.set_cons_zero, List.set_cons_succ, i64_w, i32_w]
      rfl
     refine take_ (i := 1) (N := some 31) (v := ?_) (a' := ?_) #[true, true, false, false, false, false, false, false, false, false, false, false, false, false, false, false, false, false, false, false, false] rfl rfl (take_ofW HT_.out HW_.out (by kernel_rfl)) (fun _ _ _ h => h) (Or.inl ⟨by rfl, ?_⟩) hHeld ?_ ?_
     rotate_left
     ·rintro w' ⟨s0, s1, s2, s3, s4, s5, s6, s7, s8, s9⟩
      go_simp
      with_reducible rfl
     rotate_left
     ·simp only [Act.put, List.setIfInBounds_toArray, List.set_cons_zero, List.set_cons_succ, i64_w, i32_w]
      rfl
     refine one_ (i := 2) (N := some 32) #[true, true, true, false, false, false, false, false, false, false, false, false, false, false, false, false, false, false, false, false, false] rfl rfl (one_of HT_.out (by kernel_rfl)) (by decide) (fun K hK => ?_)
     refine goes_ Try.func16 (by kernel_rfl) rfl #[.agg #[.slice Ao15 t400.length co15, .slice Ao18 t403.length co18, .int .i64 t406, .bool t407, .slice Ao19 t408.length co19], .agg #[.slice Ao23 t413.length co23, .slice Ao27 t416.length co27, .int .i64 t419, .bool t420, .slice Ao28 t421.length co28]] (by rfl) rfl rfl gl_ ?_
     with_reducible refine (laws_skPart.calls k _ _ t400 _ _ t403 t406 t407 _ _ t408 _ _ t413 _ _ t416 t419 t420 _ _ t421 true _ ?side1 ?side2 ?side3 ?side4 ?side5 ?side6 ?side7 ?side8 ?side9 ?side10 ?side11 ?side12 A29.out).mono ?_
     (case side1 => exact cN (Kd.R_reads' HO402.out).2.2)
     (case side2 => exact (Kd.R_reads' HO402.out).2.1)
     (case side3 => exact cN (Kd.R_reads' HO405.out).2.2)
     (case side4 => exact (Kd.R_reads' HO405.out).2.1)
     (case side5 => exact cN (Kd.R_reads' HO410.out).2.2)
     (case side6 => exact (Kd.R_reads' HO410.out).2.1)
     (case side7 => exact cN (Kd.R_reads' HO415.out).2.2)
     (case side8 => exact (Kd.R_reads' HO415.out).2.1)
     (case side9 => exact cN (Kd.R_reads' HO418.out).2.2)
     (case side10 => exact (Kd.R_reads' HO418.out).2.1)
     (case side11 => exact cN (Kd.R_reads' HO423.out).2.2)
     (case side12 => exact (Kd.R_reads' HO423.out).2.1)
     rintro e w34 ⟨rfl, hb⟩
     refine ⟨_, rfl, ?_⟩
     have n0_ := m_ (Kd.R_below (rN HO389.out) hb)
     have n1_ := m_ (Kd.Q_below (by (with_reducible repeat (first | apply Kd.Q_alloc | apply Kd.Q_drewN | apply Kd.Q_drew)); exact HO392.out) hb)
     have n2_ := m_ (Kd.R_below (rN HO397.out) hb)
     have n3_ := m_ (Kd.R_below (rN HO402.out) hb)
     have n4_ := m_ (Kd.R_below (rN HO405.out) hb)
     have n5_ := m_ (Kd.R_below (rN HO410.out) hb)
     have n6_ := m_ (Kd.R_below (rN HO415.out) hb)
     have n7_ := m_ (Kd.R_below (rN HO418.out) hb)
     have n8_ := m_ (Kd.R_below (rN HO423.out) hb)
     have n9_ := m_ (blk_below (g := gb399) (o := .cells #[.slice Ao9 t387.length co9, .slice Ao11 t390.length co11, .int .i64 t393, .bool t394, .slice Ao12 t395.length co12] 33 (0, 0)) (by (with_reducible repeat (first | refine blk_drewN ?_ _ | refine blk_drew ?_ | refine blk_alloc ?_ _)); exact BK399.out) hb)
     have n10_ := m_ (blk_below (g := gb412) (o := .cells #[.slice Ao15 t400.length co15, .slice Ao18 t403.length co18, .int .i64 t406, .bool t407, .slice Ao19 t408.length co19] 33 (0, 0)) (by (with_reducible repeat (first | refine blk_drewN ?_ _ | refine blk_drew ?_ | refine blk_alloc ?_ _)); exact BK412.out) hb)
     have n11_ := m_ (blk_below (g := gb425) (o := .cells #[.slice Ao23 t413.length co23, .slice Ao27 t416.length co27, .int .i64 t419, .bool t420, .slice Ao28 t421.length co28] 33 (0, 0)) (by (with_reducible repeat (first | refine blk_drewN ?_ _ | refine blk_drew ?_ | refine blk_alloc ?_ _)); exact BK425.out) hb)
     have n12_ := m_ (below_step (bN HB.out) hb)
     clear HO389
     clear HO392
     clear HO397
     clear HO402
     clear HO405
     clear HO410
     clear HO415
     clear HO418
     clear HO423
     clear BK399
     clear BK412
     clear BK425
     clear HB
     have HO389 := n0_
     have HO392 := n1_
     have HO397 := n2_
     have HO402 := n3_
     have HO405 := n4_
     have HO410 := n5_
     have HO415 := n6_
     have HO418 := n7_
     have HO423 := n8_
     have BK399 := n9_
     have BK412 := n10_
     have BK425 := n11_
     have HB := n12_
     clear n0_ n1_ n2_ n3_ n4_ n5_ n6_ n7_ n8_ n9_ n10_ n11_ n12_
     (try clear hb)
     (try clear hb2)
     (try clear hk)
     (try clear hi)
     refine hK.out _ _ ⟨(blk_cell BK412.out 0).trans rfl, (blk_cell BK412.out 1).trans rfl, (blk_cell BK412.out 2).trans rfl, (blk_cell BK412.out 3).trans rfl, (blk_cell BK412.out 4).trans rfl, (blk_cell BK425.out 0).trans rfl, (blk_cell BK425.out 1).trans rfl, (blk_cell BK425.out 2).trans rfl, (blk_cell BK425.out 3).trans rfl, (blk_cell BK425.out 4).trans rfl⟩ (fun hHeld => ?_)
     clear hK K
     refine norm_ (a' := ?_) ?_ ?_
     rotate_left
     ·show Act.put _ (some 32) _ = _
      simp only [Act.put, List.setIfInBounds_toArray, List.set_cons_zero, List.set_cons_succ, i64_w, i32_w]
      rfl
     refine pu 3 33 HT_ (h := ?_)
     refine pu 4 34 HT_ (h := ?_)
     refine pu 5 35 HT_ (h := ?_)
     refine pu 6 36 HT_ (h := ?_)
     refine pu 7 37 HT_ (h := ?_)
     refine pu 8 38 HT_ (h := ?_)
     refine pu 9 39 HT_ (h := ?_)
     refine pv 10 40 HT_ (h := ?_)
     refine pv 11 41 HT_ (h := ?_)
     refine pv 12 42 HT_ (h := ?_)
     refine pv 13 43 HT_ (h := ?_)
     refine pv 14 44 HT_ (h := ?_)
     refine pu 15 45 HT_ (h := ?_)
     refine pu 16 46 HT_ (h := ?_)
     refine pv 17 47 HT_ (h := ?_)
     refine pv 18 48 HT_ (h := ?_)
     refine pv 19 49 HT_ (h := ?_)
     refine pu 20 50 HT_ (h := ?_)
     refine done_ (done_of HT_.out (by kernel_rfl)) ?_
     try go_wp2
     go_meet
     case rel => exact ⟨_, (true), (by first | rfl | (simp; done) | (simp [*]; done)), H', ⟨by first | omega | exact Nat.le_refl _⟩, ⟨by (with_reducible repeat (first | apply Kd.R_alloc | apply Kd.R_drewN | apply Kd.R_drew)); exact HO389.out⟩, ⟨by (with_reducible repeat (first | apply Kd.Q_alloc | apply Kd.Q_drewN | apply Kd.Q_drew)); exact HO392.out⟩, ⟨by (with_reducible repeat (first | apply Kd.R_alloc | apply Kd.R_drewN | apply Kd.R_drew)); exact HO397.out⟩, ⟨by (with_reducible repeat (first | apply Kd.R_alloc | apply Kd.R_drewN | apply Kd.R_drew)); exact HO402.out⟩, ⟨Kd.Q_of_R (rN HO405.out)⟩, ⟨by (with_reducible repeat (first | apply Kd.R_alloc | apply Kd.R_drewN | apply Kd.R_drew)); exact HO410.out⟩, ⟨by (with_reducible repeat (first | apply Kd.R_alloc | apply Kd.R_drewN | apply Kd.R_drew)); exact HO415.out⟩, ⟨Kd.Q_of_R (rN HO418.out)⟩, ⟨by (with_reducible repeat (first | apply Kd.R_alloc | apply Kd.R_drewN | apply Kd.R_drew)); exact HO423.out⟩, ⟨by (with_reducible repeat (first | refine blk_drewN ?_ _ | refine blk_drew ?_ | refine blk_alloc ?_ _)); exact BK399.out⟩, ⟨by (with_reducible repeat (first | refine blk_drewN ?_ _ | refine blk_drew ?_ | refine blk_alloc ?_ _)); exact BK412.out⟩, ⟨by (with_reducible repeat (first | refine blk_drewN ?_ _ | refine blk_drew ?_ | refine blk_alloc ?_ _)); exact BK425.out⟩, ⟨by repeat (first | (with_reducible first | exact HB.out | apply below_alloc | apply pw_below_drewN | apply below_drew1 | refine below_set ?_ GE399.out | refine below_set ?_ GE412.out | refine below_set ?_ GE425.out) | exact HB.out)⟩⟩
    ·rw [if_neg c31] at H
     have c31b0 : (t411 != t424) = false := by simpa using c31
     (try (have c31b1 : decide (t411 = t424) = true := by simpa using c31))
     (try (have c31b2 : (t411 == t424) = true := by simpa using c31))
     clear c31
     (first | rw [c31b0] | (simp only [i64_w, i32_w]; rw [c31b0]) | skip)
     replace H := Option.bind_eq_some_iff.mp H
     obtain ⟨t427, A350, H⟩ := H
     replace H : ((spec_PartOk.f k t387 t390 t393 t394 t395).bind fun t428 => (if (t427 != t428) = true then (laws_FnPartSend.j0 k t398 t411 t424 true t387 t390 t393 t394 t395 t400 t403 t406 t407 t408 t413 t416 t419 t420 t421) else ((spec_PartOk.f k t387 t390 t393 t394 t395).bind fun t429 => (laws_FnPartSend.j0 k t398 t411 t424 (!t429) t387 t390 t393 t394 t395 t400 t403 t406 t407 t408 t413 t416 t419 t420 t421)))) = some r := H
     have A35 := Aside0.mk A350
     clear A350
     replace H := Option.bind_eq_some_iff.mp H
     obtain ⟨t428, A360, H⟩ := H
     replace H : (if (t427 != t428) = true then (laws_FnPartSend.j0 k t398 t411 t424 true t387 t390 t393 t394 t395 t400 t403 t406 t407 t408 t413 t416 t419 t420 t421) else ((spec_PartOk.f k t387 t390 t393 t394 t395).bind fun t429 => (laws_FnPartSend.j0 k t398 t411 t424 (!t429) t387 t390 t393 t394 t395 t400 t403 t406 t407 t408 t413 t416 t419 t420 t421))) = some r := H
     have A36 := Aside0.mk A360
     clear A360
     by_cases c37 : (t427 != t428) = true
     ·rw [if_pos c37] at H
      have c37b0 : (t427 != t428) = true := c37
      (try (have c37b1 : decide (t427 = t428) = false := by simpa using c37))
      (try (have c37b2 : (t427 == t428) = false := by simpa using c37))
      (try (have c37b3 : ¬ (t427 = t428) := by simpa using c37))
      clear c37
      have H' := Aside0.mk H
      clear H
      try go_wp2
      have n0_ : Aside0 (Kd.R k53 53 (((((w22.setCell ⟨gb425, 0, none⟩ (.slice Ao23 t413.length co23)).setCell ⟨gb425, 1, none⟩ (.slice Ao27 t416.length co27)).setCell ⟨gb425, 2, none⟩ (.int .i64 t419)).setCell ⟨gb425, 3, none⟩ (.bool t420)).setCell ⟨gb425, 4, none⟩ (.slice Ao28 t421.length co28)) w.heap.size (fun k_ => nb Ao15 t400.length co15 k_ ∧ nb Ao23 t413.length co23 k_) (.slice Ao9 t387.length co9) t387) := ⟨by (with_reducible repeat (first | apply Kd.R_alloc | apply Kd.R_drewN | apply Kd.R_drew)); exact frM (Kd.R_types HO389.out BK425.out (by decide))⟩
      have n1_ : Aside0 (Kd.Q (Kd.int .i64) 3 (((((w22.setCell ⟨gb425, 0, none⟩ (.slice Ao23 t413.length co23)).setCell ⟨gb425, 1, none⟩ (.slice Ao27 t416.length co27)).setCell ⟨gb425, 2, none⟩ (.int .i64 t419)).setCell ⟨gb425, 3, none⟩ (.bool t420)).setCell ⟨gb425, 4, none⟩ (.slice Ao28 t421.length co28)) w.heap.size (fun k_ => nb Ao12 t395.length co12 k_ ∧ nb Ao18 t403.length co18 k_ ∧ nb Ao19 t408.length co19 k_ ∧ nb Ao27 t416.length co27 k_ ∧ nb Ao28 t421.length co28 k_) (.slice Ao11 t390.length co11) t390) := ⟨by (with_reducible repeat (first | apply Kd.Q_alloc | apply Kd.Q_drewN | apply Kd.Q_drew)); exact frQ (Kd.Q_types HO392.out BK425.out (by decide))⟩
      have n2_ : Aside0 (Kd.R (Kd.int .i64) 3 (((((w22.setCell ⟨gb425, 0, none⟩ (.slice Ao23 t413.length co23)).setCell ⟨gb425, 1, none⟩ (.slice Ao27 t416.length co27)).setCell ⟨gb425, 2, none⟩ (.int .i64 t419)).setCell ⟨gb425, 3, none⟩ (.bool t420)).setCell ⟨gb425, 4, none⟩ (.slice Ao28 t421.length co28)) w.heap.size (fun k_ => nb Ao11 t390.length co11 k_ ∧ nb Ao18 t403.length co18 k_ ∧ nb Ao19 t408.length co19 k_ ∧ nb Ao27 t416.length co27 k_ ∧ nb Ao28 t421.length co28 k_) (.slice Ao12 t395.length co12) t395) := ⟨by (with_reducible repeat (first | apply Kd.R_alloc | apply Kd.R_drewN | apply Kd.R_drew)); exact frM (Kd.R_types HO397.out BK425.out (by decide))⟩
      have n3_ : Aside0 (Kd.R k53 53 (((((w22.setCell ⟨gb425, 0, none⟩ (.slice Ao23 t413.length co23)).setCell ⟨gb425, 1, none⟩ (.slice Ao27 t416.length co27)).setCell ⟨gb425, 2, none⟩ (.int .i64 t419)).setCell ⟨gb425, 3, none⟩ (.bool t420)).setCell ⟨gb425, 4, none⟩ (.slice Ao28 t421.length co28)) w.heap.size (fun k_ => nb Ao9 t387.length co9 k_ ∧ nb Ao23 t413.length co23 k_) (.slice Ao15 t400.length co15) t400) := ⟨by (with_reducible repeat (first | apply Kd.R_alloc | apply Kd.R_drewN | apply Kd.R_drew)); exact frM (Kd.R_types HO402.out BK425.out (by decide))⟩
      have n4_ : Aside0 (Kd.R (Kd.int .i64) 3 (((((w22.setCell ⟨gb425, 0, none⟩ (.slice Ao23 t413.length co23)).setCell ⟨gb425, 1, none⟩ (.slice Ao27 t416.length co27)).setCell ⟨gb425, 2, none⟩ (.int .i64 t419)).setCell ⟨gb425, 3, none⟩ (.bool t420)).setCell ⟨gb425, 4, none⟩ (.slice Ao28 t421.length co28)) w.heap.size (fun k_ => nb Ao11 t390.length co11 k_ ∧ nb Ao12 t395.length co12 k_ ∧ nb Ao19 t408.length co19 k_ ∧ nb Ao27 t416.length co27 k_ ∧ nb Ao28 t421.length co28 k_) (.slice Ao18 t403.length co18) t403) := ⟨by (with_reducible repeat (first | apply Kd.R_alloc | apply Kd.R_drewN | apply Kd.R_drew)); exact frM (Kd.R_types HO405.out BK425.out (by decide))⟩
      have n5_ : Aside0 (Kd.R (Kd.int .i64) 3 (((((w22.setCell ⟨gb425, 0, none⟩ (.slice Ao23 t413.length co23)).setCell ⟨gb425, 1, none⟩ (.slice Ao27 t416.length co27)).setCell ⟨gb425, 2, none⟩ (.int .i64 t419)).setCell ⟨gb425, 3, none⟩ (.bool t420)).setCell ⟨gb425, 4, none⟩ (.slice Ao28 t421.length co28)) w.heap.size (fun k_ => nb Ao11 t390.length co11 k_ ∧ nb Ao12 t395.length co12 k_ ∧ nb Ao18 t403.length co18 k_ ∧ nb Ao27 t416.length co27 k_ ∧ nb Ao28 t421.length co28 k_) (.slice Ao19 t408.length co19) t408) := ⟨by (with_reducible repeat (first | apply Kd.R_alloc | apply Kd.R_drewN | apply Kd.R_drew)); exact frM (Kd.R_types HO410.out BK425.out (by decide))⟩
      have n6_ : Aside0 (Kd.R k53 53 (((((w22.setCell ⟨gb425, 0, none⟩ (.slice Ao23 t413.length co23)).setCell ⟨gb425, 1, none⟩ (.slice Ao27 t416.length co27)).setCell ⟨gb425, 2, none⟩ (.int .i64 t419)).setCell ⟨gb425, 3, none⟩ (.bool t420)).setCell ⟨gb425, 4, none⟩ (.slice Ao28 t421.length co28)) w.heap.size (fun k_ => nb Ao9 t387.length co9 k_ ∧ nb Ao15 t400.length co15 k_) (.slice Ao23 t413.length co23) t413) := ⟨by (with_reducible repeat (first | apply Kd.R_alloc | apply Kd.R_drewN | apply Kd.R_drew)); exact frM (Kd.R_types HO415.out BK425.out (by decide))⟩
      have n7_ : Aside0 (Kd.R (Kd.int .i64) 3 (((((w22.setCell ⟨gb425, 0, none⟩ (.slice Ao23 t413.length co23)).setCell ⟨gb425, 1, none⟩ (.slice Ao27 t416.length co27)).setCell ⟨gb425, 2, none⟩ (.int .i64 t419)).setCell ⟨gb425, 3, none⟩ (.bool t420)).setCell ⟨gb425, 4, none⟩ (.slice Ao28 t421.length co28)) w.heap.size (fun k_ => nb Ao11 t390.length co11 k_ ∧ nb Ao12 t395.length co12 k_ ∧ nb Ao18 t403.length co18 k_ ∧ nb Ao19 t408.length co19 k_ ∧ nb Ao28 t421.length co28 k_) (.slice Ao27 t416.length co27) t416) := ⟨by (with_reducible repeat (first | apply Kd.R_alloc | apply Kd.R_drewN | apply Kd.R_drew)); exact frM (Kd.R_types HO418.out BK425.out (by decide))⟩
      have n8_ : Aside0 (Kd.R (Kd.int .i64) 3 (((((w22.setCell ⟨gb425, 0, none⟩ (.slice Ao23 t413.length co23)).setCell ⟨gb425, 1, none⟩ (.slice Ao27 t416.length co27)).setCell ⟨gb425, 2, none⟩ (.int .i64 t419)).setCell ⟨gb425, 3, none⟩ (.bool t420)).setCell ⟨gb425, 4, none⟩ (.slice Ao28 t421.length co28)) w.heap.size (fun k_ => nb Ao11 t390.length co11 k_ ∧ nb Ao12 t395.length co12 k_ ∧ nb Ao18 t403.length co18 k_ ∧ nb Ao19 t408.length co19 k_ ∧ nb Ao27 t416.length co27 k_) (.slice Ao28 t421.length co28) t421) := ⟨by (with_reducible repeat (first | apply Kd.R_alloc | apply Kd.R_drewN | apply Kd.R_drew)); exact frM (Kd.R_types HO423.out BK425.out (by decide))⟩
      have n9_ : Aside0 ((((((w22.setCell ⟨gb425, 0, none⟩ (.slice Ao23 t413.length co23)).setCell ⟨gb425, 1, none⟩ (.slice Ao27 t416.length co27)).setCell ⟨gb425, 2, none⟩ (.int .i64 t419)).setCell ⟨gb425, 3, none⟩ (.bool t420)).setCell ⟨gb425, 4, none⟩ (.slice Ao28 t421.length co28)).heap[gb399]? = some (.cells #[.slice Ao9 t387.length co9, .slice Ao11 t390.length co11, .int .i64 t393, .bool t394, .slice Ao12 t395.length co12] 33 (0, 0))) := ⟨by (with_reducible repeat (first | refine blk_drewN ?_ _ | refine blk_drew ?_ | refine blk_alloc ?_ _)); refine blk_far ?_ NB399_425.out _; (with_reducible repeat (first | refine blk_drewN ?_ _ | refine blk_drew ?_ | refine blk_alloc ?_ _)); refine blk_far ?_ NB399_425.out _; (with_reducible repeat (first | refine blk_drewN ?_ _ | refine blk_drew ?_ | refine blk_alloc ?_ _)); refine blk_far ?_ NB399_425.out _; (with_reducible repeat (first | refine blk_drewN ?_ _ | refine blk_drew ?_ | refine blk_alloc ?_ _)); refine blk_far ?_ NB399_425.out _; (with_reducible repeat (first | refine blk_drewN ?_ _ | refine blk_drew ?_ | refine blk_alloc ?_ _)); refine blk_far ?_ NB399_425.out _; (with_reducible repeat (first | refine blk_drewN ?_ _ | refine blk_drew ?_ | refine blk_alloc ?_ _)); exact BK399.out⟩
      have n10_ : Aside0 ((((((w22.setCell ⟨gb425, 0, none⟩ (.slice Ao23 t413.length co23)).setCell ⟨gb425, 1, none⟩ (.slice Ao27 t416.length co27)).setCell ⟨gb425, 2, none⟩ (.int .i64 t419)).setCell ⟨gb425, 3, none⟩ (.bool t420)).setCell ⟨gb425, 4, none⟩ (.slice Ao28 t421.length co28)).heap[gb412]? = some (.cells #[.slice Ao15 t400.length co15, .slice Ao18 t403.length co18, .int .i64 t406, .bool t407, .slice Ao19 t408.length co19] 33 (0, 0))) := ⟨by (with_reducible repeat (first | refine blk_drewN ?_ _ | refine blk_drew ?_ | refine blk_alloc ?_ _)); refine blk_far ?_ NB412_425.out _; (with_reducible repeat (first | refine blk_drewN ?_ _ | refine blk_drew ?_ | refine blk_alloc ?_ _)); refine blk_far ?_ NB412_425.out _; (with_reducible repeat (first | refine blk_drewN ?_ _ | refine blk_drew ?_ | refine blk_alloc ?_ _)); refine blk_far ?_ NB412_425.out _; (with_reducible repeat (first | refine blk_drewN ?_ _ | refine blk_drew ?_ | refine blk_alloc ?_ _)); refine blk_far ?_ NB412_425.out _; (with_reducible repeat (first | refine blk_drewN ?_ _ | refine blk_drew ?_ | refine blk_alloc ?_ _)); refine blk_far ?_ NB412_425.out _; (with_reducible repeat (first | refine blk_drewN ?_ _ | refine blk_drew ?_ | refine blk_alloc ?_ _)); exact BK412.out⟩
      have n11_ : Aside0 ((((((w22.setCell ⟨gb425, 0, none⟩ (.slice Ao23 t413.length co23)).setCell ⟨gb425, 1, none⟩ (.slice Ao27 t416.length co27)).setCell ⟨gb425, 2, none⟩ (.int .i64 t419)).setCell ⟨gb425, 3, none⟩ (.bool t420)).setCell ⟨gb425, 4, none⟩ (.slice Ao28 t421.length co28)).heap[gb425]? = some (.cells #[.slice Ao23 t413.length co23, .slice Ao27 t416.length co27, .int .i64 t419, .bool t420, .slice Ao28 t421.length co28] 33 (0, 0))) := ⟨by (with_reducible repeat (first | refine blk_drewN ?_ _ | refine blk_drew ?_ | refine blk_alloc ?_ _)); refine blk_put (cs := #[.slice Ao23 t413.length co23, .slice Ao27 t416.length co27, .int .i64 t419, .bool t420, .slice none 0 0]) ?_ 4 _ rfl; (with_reducible repeat (first | refine blk_drewN ?_ _ | refine blk_drew ?_ | refine blk_alloc ?_ _)); refine blk_put (cs := #[.slice Ao23 t413.length co23, .slice Ao27 t416.length co27, .int .i64 t419, .bool false, .slice none 0 0]) ?_ 3 _ rfl; (with_reducible repeat (first | refine blk_drewN ?_ _ | refine blk_drew ?_ | refine blk_alloc ?_ _)); refine blk_put (cs := #[.slice Ao23 t413.length co23, .slice Ao27 t416.length co27, .int .i64 0, .bool false, .slice none 0 0]) ?_ 2 _ rfl; (with_reducible repeat (first | refine blk_drewN ?_ _ | refine blk_drew ?_ | refine blk_alloc ?_ _)); refine blk_put (cs := #[.slice Ao23 t413.length co23, .slice none 0 0, .int .i64 0, .bool false, .slice none 0 0]) ?_ 1 _ rfl; (with_reducible repeat (first | refine blk_drewN ?_ _ | refine blk_drew ?_ | refine blk_alloc ?_ _)); refine blk_put (cs := #[.slice none 0 0, .slice none 0 0, .int .i64 0, .bool false, .slice none 0 0]) ?_ 0 _ rfl; (with_reducible repeat (first | refine blk_drewN ?_ _ | refine blk_drew ?_ | refine blk_alloc ?_ _)); exact BK425.out⟩
      have n12_ : Aside0 (Below w.heap.size w (((((w22.setCell ⟨gb425, 0, none⟩ (.slice Ao23 t413.length co23)).setCell ⟨gb425, 1, none⟩ (.slice Ao27 t416.length co27)).setCell ⟨gb425, 2, none⟩ (.int .i64 t419)).setCell ⟨gb425, 3, none⟩ (.bool t420)).setCell ⟨gb425, 4, none⟩ (.slice Ao28 t421.length co28))) := ⟨by repeat (first | (with_reducible first | exact HB.out | apply below_alloc | apply pw_below_drewN | apply below_drew1 | refine below_set ?_ GE399.out | refine below_set ?_ GE412.out | refine below_set ?_ GE425.out) | exact HB.out)⟩
      (try clear HO389)
      (try clear HO392)
      (try clear HO397)
      (try clear HO402)
      (try clear HO405)
      (try clear HO410)
      (try clear HO415)
      (try clear HO418)
      (try clear HO423)
      (try clear BK399)
      (try clear BK412)
      (try clear BK425)
      (try clear HB)
      generalize (((((w22.setCell ⟨gb425, 0, none⟩ (.slice Ao23 t413.length co23)).setCell ⟨gb425, 1, none⟩ (.slice Ao27 t416.length co27)).setCell ⟨gb425, 2, none⟩ (.int .i64 t419)).setCell ⟨gb425, 3, none⟩ (.bool t420)).setCell ⟨gb425, 4, none⟩ (.slice Ao28 t421.length co28)) = w38 at n0_ n1_ n2_ n3_ n4_ n5_ n6_ n7_ n8_ n9_ n10_ n11_ n12_ ⊢
      have HO389 := n0_
      have HO392 := n1_
      have HO397 := n2_
      have HO402 := n3_
      have HO405 := n4_
      have HO410 := n5_
      have HO415 := n6_
      have HO418 := n7_
      have HO423 := n8_
      have BK399 := n9_
      have BK412 := n10_
      have BK425 := n11_
      have HB := n12_
      clear n0_ n1_ n2_ n3_ n4_ n5_ n6_ n7_ n8_ n9_ n10_ n11_ n12_
      have n0_ := m_ (Kd.R_drew HO389.out)
      have n1_ := m_ (Kd.Q_drew HO392.out)
      have n2_ := m_ (Kd.R_drew HO397.out)
      have n3_ := m_ (Kd.R_drew HO402.out)
      have n4_ := m_ (Kd.R_drew HO405.out)
      have n5_ := m_ (Kd.R_drew HO410.out)
      have n6_ := m_ (Kd.R_drew HO415.out)
      have n7_ := m_ (Kd.R_drew HO418.out)
      have n8_ := m_ (Kd.R_drew HO423.out)
      have n9_ := m_ (blk_drew BK399.out)
      have n10_ := m_ (blk_drew BK412.out)
      have n11_ := m_ (blk_drew BK425.out)
      have n12_ := m_ (below_drew1 HB.out)
      clear HO389
      clear HO392
      clear HO397
      clear HO402
      clear HO405
      clear HO410
      clear HO415
      clear HO418
      clear HO423
      clear BK399
      clear BK412
      clear BK425
      clear HB
      have HO389 := n0_
      have HO392 := n1_
      have HO397 := n2_
      have HO402 := n3_
      have HO405 := n4_
      have HO410 := n5_
      have HO415 := n6_
      have HO418 := n7_
      have HO423 := n8_
      have BK399 := n9_
      have BK412 := n10_
      have BK425 := n11_
      have HB := n12_
      clear n0_ n1_ n2_ n3_ n4_ n5_ n6_ n7_ n8_ n9_ n10_ n11_ n12_
      refine start_ (n := 21) (S := fun w' => w'.cell? ⟨gb412, 0, none⟩ = some (.slice Ao15 t400.length co15) ∧ w'.cell? ⟨gb412, 1, none⟩ = some (.slice Ao18 t403.length co18) ∧ w'.cell? ⟨gb412, 2, none⟩ = some (.int .i64 t406) ∧ w'.cell? ⟨gb412, 3, none⟩ = some (.bool t407) ∧ w'.cell? ⟨gb412, 4, none⟩ = some (.slice Ao19 t408.length co19) ∧ w'.cell? ⟨gb425, 0, none⟩ = some (.slice Ao23 t413.length co23) ∧ w'.cell? ⟨gb425, 1, none⟩ = some (.slice Ao27 t416.length co27) ∧ w'.cell? ⟨gb425, 2, none⟩ = some (.int .i64 t419) ∧ w'.cell? ⟨gb425, 3, none⟩ = some (.bool t420) ∧ w'.cell? ⟨gb425, 4, none⟩ = some (.slice Ao28 t421.length co28) ∧ w'.cell? ⟨gb399, 0, none⟩ = some (.slice Ao9 t387.length co9) ∧ w'.cell? ⟨gb399, 1, none⟩ = some (.slice Ao11 t390.length co11) ∧ w'.cell? ⟨gb399, 2, none⟩ = some (.int .i64 t393) ∧ w'.cell? ⟨gb399, 3, none⟩ = some (.bool t394) ∧ w'.cell? ⟨gb399, 4, none⟩ = some (.slice Ao12 t395.length co12)) (ds := []) #[false, false, false, false, false, false, false, false, false, false, false, false, false, false, false, false, false, false, false, false, false] (by kernel_rfl) rfl rfl ⟨(blk_cell BK412.out 0).trans rfl, (blk_cell BK412.out 1).trans rfl, (blk_cell BK412.out 2).trans rfl, (blk_cell BK412.out 3).trans rfl, (blk_cell BK412.out 4).trans rfl, (blk_cell BK425.out 0).trans rfl, (blk_cell BK425.out 1).trans rfl, (blk_cell BK425.out 2).trans rfl, (blk_cell BK425.out 3).trans rfl, (blk_cell BK425.out 4).trans rfl, (blk_cell BK399.out 0).trans rfl, (blk_cell BK399.out 1).trans rfl, (blk_cell BK399.out 2).trans rfl, (blk_cell BK399.out 3).trans rfl, (blk_cell BK399.out 4).trans rfl⟩ (fun hHeld => ?_); refine with_tabW laws_FnPartSend.tab6 laws_FnPartSend.bits6 (fun HT_ HW_ => ?_)
      generalize w38.drew = w39 at HO389 HO392 HO397 HO402 HO405 HO410 HO415 HO418 HO423 BK399 BK412 BK425 HB hHeld ⊢
      refine take_ (i := 0) (N := some 30) (v := ?_) (a' := ?_) #[true, false, false, false, false, false, false, false, false, false, false, false, false, false, false, false, false, false, false, false, false] rfl rfl (take_ofW HT_.out HW_.out (by kernel_rfl)) (fun _ _ _ h => h) (Or.inl ⟨by rfl, ?_⟩) hHeld ?_ ?_
      rotate_left
      ·rintro w' ⟨s0, s1, s2, s3, s4, s5, s6, s7, s8, s9, s10, s11, s12, s13, s14⟩
       go_simp
       with_reducible rfl
      rotate_left
      ·simp only [Act.put, List.setIfInBounds_toArray, List.set_cons_zero, List.set_cons_succ, i64_w, i32_w]
       rfl
      refine take_ (i := 1) (N := some 31) (v := ?_) (a' := ?_) #[true, true, false, false, false, false, false, false, false, false, false, false, false, false, false, false, false, false, false, false, false] rfl rfl (take_ofW HT_.out HW_.out (by kernel_rfl)) (fun _ _ _ h => h) (Or.inl ⟨by rfl, ?_⟩) hHeld ?_ ?_
      rotate_left
      ·rintro w' ⟨s0, s1, s2, s3, s4, s5, s6, s7, s8, s9, s10, s11, s12, s13, s14⟩
       go_simp
       with_reducible rfl
      rotate_left
      ·simp only [Act.put, List.setIfInBounds_toArray, List.set_cons_zero, List.set_cons_succ, i64_w, i32_w]
       rfl
      refine one_ (i := 2) (N := some 32) #[true, true, true, false, false, false, false, false, false, false, false, false, false, false, false, false, false, false, false, false, false] rfl rfl (one_of HT_.out (by kernel_rfl)) (by decide) (fun K hK => ?_)
      refine goes_ Try.func16 (by kernel_rfl) rfl #[.agg #[.slice Ao15 t400.length co15, .slice Ao18 t403.length co18, .int .i64 t406, .bool t407, .slice Ao19 t408.length co19], .agg #[.slice Ao23 t413.length co23, .slice Ao27 t416.length co27, .int .i64 t419, .bool t420, .slice Ao28 t421.length co28]] (by rfl) rfl rfl gl_ ?_
      with_reducible refine (laws_skPart.calls k _ _ t400 _ _ t403 t406 t407 _ _ t408 _ _ t413 _ _ t416 t419 t420 _ _ t421 true _ ?side1 ?side2 ?side3 ?side4 ?side5 ?side6 ?side7 ?side8 ?side9 ?side10 ?side11 ?side12 A29.out).mono ?_
      (case side1 => exact cN (Kd.R_reads' HO402.out).2.2)
      (case side2 => exact (Kd.R_reads' HO402.out).2.1)
      (case side3 => exact cN (Kd.R_reads' HO405.out).2.2)
      (case side4 => exact (Kd.R_reads' HO405.out).2.1)
      (case side5 => exact cN (Kd.R_reads' HO410.out).2.2)
      (case side6 => exact (Kd.R_reads' HO410.out).2.1)
      (case side7 => exact cN (Kd.R_reads' HO415.out).2.2)
      (case side8 => exact (Kd.R_reads' HO415.out).2.1)
      (case side9 => exact cN (Kd.R_reads' HO418.out).2.2)
      (case side10 => exact (Kd.R_reads' HO418.out).2.1)
      (case side11 => exact cN (Kd.R_reads' HO423.out).2.2)
      (case side12 => exact (Kd.R_reads' HO423.out).2.1)
      rintro e w40 ⟨rfl, hb⟩
      refine ⟨_, rfl, ?_⟩
      have n0_ := m_ (Kd.R_below (rN HO389.out) hb)
      have n1_ := m_ (Kd.Q_below (by (with_reducible repeat (first | apply Kd.Q_alloc | apply Kd.Q_drewN | apply Kd.Q_drew)); exact HO392.out) hb)
      have n2_ := m_ (Kd.R_below (rN HO397.out) hb)
      have n3_ := m_ (Kd.R_below (rN HO402.out) hb)
      have n4_ := m_ (Kd.R_below (rN HO405.out) hb)
      have n5_ := m_ (Kd.R_below (rN HO410.out) hb)
      have n6_ := m_ (Kd.R_below (rN HO415.out) hb)
      have n7_ := m_ (Kd.R_below (rN HO418.out) hb)
      have n8_ := m_ (Kd.R_below (rN HO423.out) hb)
      have n9_ := m_ (blk_below (g := gb399) (o := .cells #[.slice Ao9 t387.length co9, .slice Ao11 t390.length co11, .int .i64 t393, .bool t394, .slice Ao12 t395.length co12] 33 (0, 0)) (by (with_reducible repeat (first | refine blk_drewN ?_ _ | refine blk_drew ?_ | refine blk_alloc ?_ _)); exact BK399.out) hb)
      have n10_ := m_ (blk_below (g := gb412) (o := .cells #[.slice Ao15 t400.length co15, .slice Ao18 t403.length co18, .int .i64 t406, .bool t407, .slice Ao19 t408.length co19] 33 (0, 0)) (by (with_reducible repeat (first | refine blk_drewN ?_ _ | refine blk_drew ?_ | refine blk_alloc ?_ _)); exact BK412.out) hb)
      have n11_ := m_ (blk_below (g := gb425) (o := .cells #[.slice Ao23 t413.length co23, .slice Ao27 t416.length co27, .int .i64 t419, .bool t420, .slice Ao28 t421.length co28] 33 (0, 0)) (by (with_reducible repeat (first | refine blk_drewN ?_ _ | refine blk_drew ?_ | refine blk_alloc ?_ _)); exact BK425.out) hb)
      have n12_ := m_ (below_step (bN HB.out) hb)
      clear HO389
      clear HO392
      clear HO397
      clear HO402
      clear HO405
      clear HO410
      clear HO415
      clear HO418
      clear HO423
      clear BK399
      clear BK412
      clear BK425
      clear HB
      have HO389 := n0_
      have HO392 := n1_
      have HO397 := n2_
      have HO402 := n3_
      have HO405 := n4_
      have HO410 := n5_
      have HO415 := n6_
      have HO418 := n7_
      have HO423 := n8_
      have BK399 := n9_
      have BK412 := n10_
      have BK425 := n11_
      have HB := n12_
      clear n0_ n1_ n2_ n3_ n4_ n5_ n6_ n7_ n8_ n9_ n10_ n11_ n12_
      (try clear hb)
      (try clear hb2)
      (try clear hk)
      (try clear hi)
      refine hK.out _ _ ⟨(blk_cell BK412.out 0).trans rfl, (blk_cell BK412.out 1).trans rfl, (blk_cell BK412.out 2).trans rfl, (blk_cell BK412.out 3).trans rfl, (blk_cell BK412.out 4).trans rfl, (blk_cell BK425.out 0).trans rfl, (blk_cell BK425.out 1).trans rfl, (blk_cell BK425.out 2).trans rfl, (blk_cell BK425.out 3).trans rfl, (blk_cell BK425.out 4).trans rfl, (blk_cell BK399.out 0).trans rfl, (blk_cell BK399.out 1).trans rfl, (blk_cell BK399.out 2).trans rfl, (blk_cell BK399.out 3).trans rfl, (blk_cell BK399.out 4).trans rfl⟩ (fun hHeld => ?_)
      clear hK K
      refine norm_ (a' := ?_) ?_ ?_
      rotate_left
      ·show Act.put _ (some 32) _ = _
       simp only [Act.put, List.setIfInBounds_toArray, List.set_cons_zero, List.set_cons_succ, i64_w, i32_w]
       rfl
      refine pu 3 33 HT_ (h := ?_)
      refine pu 4 34 HT_ (h := ?_)
      refine pu 5 35 HT_ (h := ?_)
      refine pu 6 36 HT_ (h := ?_)
      refine pu 7 37 HT_ (h := ?_)
      refine pu 8 38 HT_ (h := ?_)
      refine pu 9 39 HT_ (h := ?_)
      refine take_ (i := 10) (N := some 40) (v := ?_) (a' := ?_) #[true, true, true, true, true, true, true, true, true, true, true, false, false, false, false, false, false, false, false, false, false] rfl rfl (take_ofW HT_.out HW_.out (by kernel_rfl)) (fun _ _ _ h => h) (Or.inl ⟨by rfl, ?_⟩) hHeld ?_ ?_
      rotate_left
      ·rintro w' ⟨s0, s1, s2, s3, s4, s5, s6, s7, s8, s9, s10, s11, s12, s13, s14⟩
       go_simp
       with_reducible rfl
      rotate_left
      ·simp only [Act.put, List.setIfInBounds_toArray, List.set_cons_zero, List.set_cons_succ, i64_w, i32_w]
       rfl
      refine take_ (i := 12) (N := some 42) (v := ?_) (a' := ?_) #[true, true, true, true, true, true, true, true, true, true, true, false, true, false, false, false, false, false, false, false, false] rfl rfl (take_ofW HT_.out HW_.out (by kernel_rfl)) (fun _ _ _ h => h) (Or.inl ⟨by rfl, ?_⟩) hHeld ?_ ?_
      rotate_left
      ·rintro w' ⟨s0, s1, s2, s3, s4, s5, s6, s7, s8, s9, s10, s11, s12, s13, s14⟩
       go_simp
       with_reducible rfl
      rotate_left
      ·simp only [Act.put, List.setIfInBounds_toArray, List.set_cons_zero, List.set_cons_succ, i64_w, i32_w]
       rfl
      refine one_ (i := 11) (N := some 41) #[true, true, true, true, true, true, true, true, true, true, true, true, true, false, false, false, false, false, false, false, false] rfl rfl (one_of HT_.out (by kernel_rfl)) (by decide) (fun K hK => ?_)
      refine goes_ Try.func18 (by kernel_rfl) rfl #[.agg #[.slice Ao9 t387.length co9, .slice Ao11 t390.length co11, .int .i64 t393, .bool t394, .slice Ao12 t395.length co12]] (by rfl) rfl rfl gl_ ?_
      with_reducible refine (impl_PartOk.calls k _ _ t387 _ _ t390 t393 t394 _ _ t395 t427 _ ?side1 ?side2 ?side3 ?side4 ?side5 ?side6 A35.out).mono ?_
      (case side1 => exact cN (Kd.R_reads' HO389.out).2.2)
      (case side2 => exact (Kd.R_reads' HO389.out).2.1)
      (case side3 => exact cN (Kd.Q_reads' HO392.out).2.2)
      (case side4 => exact (Kd.Q_reads' HO392.out).2.1)
      (case side5 => exact cN (Kd.R_reads' HO397.out).2.2)
      (case side6 => exact (Kd.R_reads' HO397.out).2.1)
      rintro e w41 ⟨rfl, hb⟩
      refine ⟨_, rfl, ?_⟩
      have n0_ := m_ (Kd.R_below (rN HO389.out) hb)
      have n1_ := m_ (Kd.Q_below (by (with_reducible repeat (first | apply Kd.Q_alloc | apply Kd.Q_drewN | apply Kd.Q_drew)); exact HO392.out) hb)
      have n2_ := m_ (Kd.R_below (rN HO397.out) hb)
      have n3_ := m_ (Kd.R_below (rN HO402.out) hb)
      have n4_ := m_ (Kd.R_below (rN HO405.out) hb)
      have n5_ := m_ (Kd.R_below (rN HO410.out) hb)
      have n6_ := m_ (Kd.R_below (rN HO415.out) hb)
      have n7_ := m_ (Kd.R_below (rN HO418.out) hb)
      have n8_ := m_ (Kd.R_below (rN HO423.out) hb)
      have n9_ := m_ (blk_below (g := gb399) (o := .cells #[.slice Ao9 t387.length co9, .slice Ao11 t390.length co11, .int .i64 t393, .bool t394, .slice Ao12 t395.length co12] 33 (0, 0)) (by (with_reducible repeat (first | refine blk_drewN ?_ _ | refine blk_drew ?_ | refine blk_alloc ?_ _)); exact BK399.out) hb)
      have n10_ := m_ (blk_below (g := gb412) (o := .cells #[.slice Ao15 t400.length co15, .slice Ao18 t403.length co18, .int .i64 t406, .bool t407, .slice Ao19 t408.length co19] 33 (0, 0)) (by (with_reducible repeat (first | refine blk_drewN ?_ _ | refine blk_drew ?_ | refine blk_alloc ?_ _)); exact BK412.out) hb)
      have n11_ := m_ (blk_below (g := gb425) (o := .cells #[.slice Ao23 t413.length co23, .slice Ao27 t416.length co27, .int .i64 t419, .bool t420, .slice Ao28 t421.length co28] 33 (0, 0)) (by (with_reducible repeat (first | refine blk_drewN ?_ _ | refine blk_drew ?_ | refine blk_alloc ?_ _)); exact BK425.out) hb)
      have n12_ := m_ (below_step (bN HB.out) hb)
      clear HO389
      clear HO392
      clear HO397
      clear HO402
      clear HO405
      clear HO410
      clear HO415
      clear HO418
      clear HO423
      clear BK399
      clear BK412
      clear BK425
      clear HB
      have HO389 := n0_
      have HO392 := n1_
      have HO397 := n2_
      have HO402 := n3_
      have HO405 := n4_
      have HO410 := n5_
      have HO415 := n6_
      have HO418 := n7_
      have HO423 := n8_
      have BK399 := n9_
      have BK412 := n10_
      have BK425 := n11_
      have HB := n12_
      clear n0_ n1_ n2_ n3_ n4_ n5_ n6_ n7_ n8_ n9_ n10_ n11_ n12_
      (try clear hb)
      (try clear hb2)
      (try clear hk)
      (try clear hi)
      refine hK.out _ _ ⟨(blk_cell BK412.out 0).trans rfl, (blk_cell BK412.out 1).trans rfl, (blk_cell BK412.out 2).trans rfl, (blk_cell BK412.out 3).trans rfl, (blk_cell BK412.out 4).trans rfl, (blk_cell BK425.out 0).trans rfl, (blk_cell BK425.out 1).trans rfl, (blk_cell BK425.out 2).trans rfl, (blk_cell BK425.out 3).trans rfl, (blk_cell BK425.out 4).trans rfl, (blk_cell BK399.out 0).trans rfl, (blk_cell BK399.out 1).trans rfl, (blk_cell BK399.out 2).trans rfl, (blk_cell BK399.out 3).trans rfl, (blk_cell BK399.out 4).trans rfl⟩ (fun hHeld => ?_)
      clear hK K
      refine norm_ (a' := ?_) ?_ ?_
      rotate_left
      ·show Act.put _ (some 41) _ = _
       simp only [Act.put, List.setIfInBounds_toArray, List.set_cons_zero, List.set_cons_succ, i64_w, i32_w]
       rfl
      refine one_ (i := 13) (N := some 43) #[true, true, true, true, true, true, true, true, true, true, true, true, true, true, false, false, false, false, false, false, false] rfl rfl (one_of HT_.out (by kernel_rfl)) (by decide) (fun K hK => ?_)
      refine goes_ Try.func20 (by kernel_rfl) rfl #[.agg #[.slice Ao9 t387.length co9, .slice Ao11 t390.length co11, .int .i64 t393, .bool t394, .slice Ao12 t395.length co12]] (by rfl) rfl rfl gl_ ?_
      with_reducible refine (spec_PartOk.calls k _ _ t387 _ _ t390 t393 t394 _ _ t395 t428 _ ?side1 ?side2 ?side3 ?side4 ?side5 ?side6 A36.out).mono ?_
      (case side1 => exact cN (Kd.R_reads' HO389.out).2.2)
      (case side2 => exact (Kd.R_reads' HO389.out).2.1)
      (case side3 => exact cN (Kd.Q_reads' HO392.out).2.2)
      (case side4 => exact (Kd.Q_reads' HO392.out).2.1)
      (case side5 => exact cN (Kd.R_reads' HO397.out).2.2)
      (case side6 => exact (Kd.R_reads' HO397.out).2.1)
      rintro e w42 ⟨rfl, hb⟩
      refine ⟨_, rfl, ?_⟩
      have n0_ := m_ (Kd.R_below (rN HO389.out) hb)
      have n1_ := m_ (Kd.Q_below (by (with_reducible repeat (first | apply Kd.Q_alloc | apply Kd.Q_drewN | apply Kd.Q_drew)); exact HO392.out) hb)
      have n2_ := m_ (Kd.R_below (rN HO397.out) hb)
      have n3_ := m_ (Kd.R_below (rN HO402.out) hb)
      have n4_ := m_ (Kd.R_below (rN HO405.out) hb)
      have n5_ := m_ (Kd.R_below (rN HO410.out) hb)
      have n6_ := m_ (Kd.R_below (rN HO415.out) hb)
      have n7_ := m_ (Kd.R_below (rN HO418.out) hb)
      have n8_ := m_ (Kd.R_below (rN HO423.out) hb)
      have n9_ := m_ (blk_below (g := gb399) (o := .cells #[.slice Ao9 t387.length co9, .slice Ao11 t390.length co11, .int .i64 t393, .bool t394, .slice Ao12 t395.length co12] 33 (0, 0)) (by (with_reducible repeat (first | refine blk_drewN ?_ _ | refine blk_drew ?_ | refine blk_alloc ?_ _)); exact BK399.out) hb)
      have n10_ := m_ (blk_below (g := gb412) (o := .cells #[.slice Ao15 t400.length co15, .slice Ao18 t403.length co18, .int .i64 t406, .bool t407, .slice Ao19 t408.length co19] 33 (0, 0)) (by (with_reducible repeat (first | refine blk_drewN ?_ _ | refine blk_drew ?_ | refine blk_alloc ?_ _)); exact BK412.out) hb)
      have n11_ := m_ (blk_below (g := gb425) (o := .cells #[.slice Ao23 t413.length co23, .slice Ao27 t416.length co27, .int .i64 t419, .bool t420, .slice Ao28 t421.length co28] 33 (0, 0)) (by (with_reducible repeat (first | refine blk_drewN ?_ _ | refine blk_drew ?_ | refine blk_alloc ?_ _)); exact BK425.out) hb)
      have n12_ := m_ (below_step (bN HB.out) hb)
      clear HO389
      clear HO392
      clear HO397
      clear HO402
      clear HO405
      clear HO410
      clear HO415
      clear HO418
      clear HO423
      clear BK399
      clear BK412
      clear BK425
      clear HB
      have HO389 := n0_
      have HO392 := n1_
      have HO397 := n2_
      have HO402 := n3_
      have HO405 := n4_
      have HO410 := n5_
      have HO415 := n6_
      have HO418 := n7_
      have HO423 := n8_
      have BK399 := n9_
      have BK412 := n10_
      have BK425 := n11_
      have HB := n12_
      clear n0_ n1_ n2_ n3_ n4_ n5_ n6_ n7_ n8_ n9_ n10_ n11_ n12_
      (try clear hb)
      (try clear hb2)
      (try clear hk)
      (try clear hi)
      refine hK.out _ _ ⟨(blk_cell BK412.out 0).trans rfl, (blk_cell BK412.out 1).trans rfl, (blk_cell BK412.out 2).trans rfl, (blk_cell BK412.out 3).trans rfl, (blk_cell BK412.out 4).trans rfl, (blk_cell BK425.out 0).trans rfl, (blk_cell BK425.out 1).trans rfl, (blk_cell BK425.out 2).trans rfl, (blk_cell BK425.out 3).trans rfl, (blk_cell BK425.out 4).trans rfl, (blk_cell BK399.out 0).trans rfl, (blk_cell BK399.out 1).trans rfl, (blk_cell BK399.out 2).trans rfl, (blk_cell BK399.out 3).trans rfl, (blk_cell BK399.out 4).trans rfl⟩ (fun hHeld => ?_)
      clear hK K
      refine norm_ (a' := ?_) ?_ ?_
      rotate_left
      ·show Act.put _ (some 43) _ = _
       simp only [Act.put, List.setIfInBounds_toArray, List.set_cons_zero, List.set_cons_succ, i64_w, i32_w]
       rfl
      refine pu 14 44 HT_ (h := ?_)
      refine pu 15 45 HT_ (h := ?_)
      refine pu 16 46 HT_ (h := ?_)
      refine pv 17 47 HT_ (h := ?_)
      refine pv 18 48 HT_ (h := ?_)
      refine pv 19 49 HT_ (h := ?_)
      refine pu 20 50 HT_ (h := ?_)
      refine done_ (done_of HT_.out (by kernel_rfl)) ?_
      try go_wp2
      go_meet
      case rel => exact ⟨_, (true), (by first | rfl | (simp; done) | (simp [*]; done)), H', ⟨by first | omega | exact Nat.le_refl _⟩, ⟨by (with_reducible repeat (first | apply Kd.R_alloc | apply Kd.R_drewN | apply Kd.R_drew)); exact HO389.out⟩, ⟨by (with_reducible repeat (first | apply Kd.Q_alloc | apply Kd.Q_drewN | apply Kd.Q_drew)); exact HO392.out⟩, ⟨by (with_reducible repeat (first | apply Kd.R_alloc | apply Kd.R_drewN | apply Kd.R_drew)); exact HO397.out⟩, ⟨by (with_reducible repeat (first | apply Kd.R_alloc | apply Kd.R_drewN | apply Kd.R_drew)); exact HO402.out⟩, ⟨Kd.Q_of_R (rN HO405.out)⟩, ⟨by (with_reducible repeat (first | apply Kd.R_alloc | apply Kd.R_drewN | apply Kd.R_drew)); exact HO410.out⟩, ⟨by (with_reducible repeat (first | apply Kd.R_alloc | apply Kd.R_drewN | apply Kd.R_drew)); exact HO415.out⟩, ⟨Kd.Q_of_R (rN HO418.out)⟩, ⟨by (with_reducible repeat (first | apply Kd.R_alloc | apply Kd.R_drewN | apply Kd.R_drew)); exact HO423.out⟩, ⟨by (with_reducible repeat (first | refine blk_drewN ?_ _ | refine blk_drew ?_ | refine blk_alloc ?_ _)); exact BK399.out⟩, ⟨by (with_reducible repeat (first | refine blk_drewN ?_ _ | refine blk_drew ?_ | refine blk_alloc ?_ _)); exact BK412.out⟩, ⟨by (with_reducible repeat (first | refine blk_drewN ?_ _ | refine blk_drew ?_ | refine blk_alloc ?_ _)); exact BK425.out⟩, ⟨by repeat (first | (with_reducible first | exact HB.out | apply below_alloc | apply pw_below_drewN | apply below_drew1 | refine below_set ?_ GE399.out | refine below_set ?_ GE412.out | refine below_set ?_ GE425.out) | exact HB.out)⟩⟩
     ·rw [if_neg c37] at H
      have c37b0 : (t427 != t428) = false := by simpa using c37
      (try (have c37b1 : decide (t427 = t428) = true := by simpa using c37))
      (try (have c37b2 : (t427 == t428) = true := by simpa using c37))
      clear c37
      replace H := Option.bind_eq_some_iff.mp H
      obtain ⟨t429, A430, H⟩ := H
      replace H : (laws_FnPartSend.j0 k t398 t411 t424 (!t429) t387 t390 t393 t394 t395 t400 t403 t406 t407 t408 t413 t416 t419 t420 t421) = some r := H
      have A43 := Aside0.mk A430
      clear A430
      have H' := Aside0.mk H
      clear H
      try go_wp2
      have n0_ : Aside0 (Kd.R k53 53 (((((w22.setCell ⟨gb425, 0, none⟩ (.slice Ao23 t413.length co23)).setCell ⟨gb425, 1, none⟩ (.slice Ao27 t416.length co27)).setCell ⟨gb425, 2, none⟩ (.int .i64 t419)).setCell ⟨gb425, 3, none⟩ (.bool t420)).setCell ⟨gb425, 4, none⟩ (.slice Ao28 t421.length co28)) w.heap.size (fun k_ => nb Ao15 t400.length co15 k_ ∧ nb Ao23 t413.length co23 k_) (.slice Ao9 t387.length co9) t387) := ⟨by (with_reducible repeat (first | apply Kd.R_alloc | apply Kd.R_drewN | apply Kd.R_drew)); exact frM (Kd.R_types HO389.out BK425.out (by decide))⟩
      have n1_ : Aside0 (Kd.Q (Kd.int .i64) 3 (((((w22.setCell ⟨gb425, 0, none⟩ (.slice Ao23 t413.length co23)).setCell ⟨gb425, 1, none⟩ (.slice Ao27 t416.length co27)).setCell ⟨gb425, 2, none⟩ (.int .i64 t419)).setCell ⟨gb425, 3, none⟩ (.bool t420)).setCell ⟨gb425, 4, none⟩ (.slice Ao28 t421.length co28)) w.heap.size (fun k_ => nb Ao12 t395.length co12 k_ ∧ nb Ao18 t403.length co18 k_ ∧ nb Ao19 t408.length co19 k_ ∧ nb Ao27 t416.length co27 k_ ∧ nb Ao28 t421.length co28 k_) (.slice Ao11 t390.length co11) t390) := ⟨by (with_reducible repeat (first | apply Kd.Q_alloc | apply Kd.Q_drewN | apply Kd.Q_drew)); exact frQ (Kd.Q_types HO392.out BK425.out (by decide))⟩
      have n2_ : Aside0 (Kd.R (Kd.int .i64) 3 (((((w22.setCell ⟨gb425, 0, none⟩ (.slice Ao23 t413.length co23)).setCell ⟨gb425, 1, none⟩ (.slice Ao27 t416.length co27)).setCell ⟨gb425, 2, none⟩ (.int .i64 t419)).setCell ⟨gb425, 3, none⟩ (.bool t420)).setCell ⟨gb425, 4, none⟩ (.slice Ao28 t421.length co28)) w.heap.size (fun k_ => nb Ao11 t390.length co11 k_ ∧ nb Ao18 t403.length co18 k_ ∧ nb Ao19 t408.length co19 k_ ∧ nb Ao27 t416.length co27 k_ ∧ nb Ao28 t421.length co28 k_) (.slice Ao12 t395.length co12) t395) := ⟨by (with_reducible repeat (first | apply Kd.R_alloc | apply Kd.R_drewN | apply Kd.R_drew)); exact frM (Kd.R_types HO397.out BK425.out (by decide))⟩
      have n3_ : Aside0 (Kd.R k53 53 (((((w22.setCell ⟨gb425, 0, none⟩ (.slice Ao23 t413.length co23)).setCell ⟨gb425, 1, none⟩ (.slice Ao27 t416.length co27)).setCell ⟨gb425, 2, none⟩ (.int .i64 t419)).setCell ⟨gb425, 3, none⟩ (.bool t420)).setCell ⟨gb425, 4, none⟩ (.slice Ao28 t421.length co28)) w.heap.size (fun k_ => nb Ao9 t387.length co9 k_ ∧ nb Ao23 t413.length co23 k_) (.slice Ao15 t400.length co15) t400) := ⟨by (with_reducible repeat (first | apply Kd.R_alloc | apply Kd.R_drewN | apply Kd.R_drew)); exact frM (Kd.R_types HO402.out BK425.out (by decide))⟩
      have n4_ : Aside0 (Kd.R (Kd.int .i64) 3 (((((w22.setCell ⟨gb425, 0, none⟩ (.slice Ao23 t413.length co23)).setCell ⟨gb425, 1, none⟩ (.slice Ao27 t416.length co27)).setCell ⟨gb425, 2, none⟩ (.int .i64 t419)).setCell ⟨gb425, 3, none⟩ (.bool t420)).setCell ⟨gb425, 4, none⟩ (.slice Ao28 t421.length co28)) w.heap.size (fun k_ => nb Ao11 t390.length co11 k_ ∧ nb Ao12 t395.length co12 k_ ∧ nb Ao19 t408.length co19 k_ ∧ nb Ao27 t416.length co27 k_ ∧ nb Ao28 t421.length co28 k_) (.slice Ao18 t403.length co18) t403) := ⟨by (with_reducible repeat (first | apply Kd.R_alloc | apply Kd.R_drewN | apply Kd.R_drew)); exact frM (Kd.R_types HO405.out BK425.out (by decide))⟩
      have n5_ : Aside0 (Kd.R (Kd.int .i64) 3 (((((w22.setCell ⟨gb425, 0, none⟩ (.slice Ao23 t413.length co23)).setCell ⟨gb425, 1, none⟩ (.slice Ao27 t416.length co27)).setCell ⟨gb425, 2, none⟩ (.int .i64 t419)).setCell ⟨gb425, 3, none⟩ (.bool t420)).setCell ⟨gb425, 4, none⟩ (.slice Ao28 t421.length co28)) w.heap.size (fun k_ => nb Ao11 t390.length co11 k_ ∧ nb Ao12 t395.length co12 k_ ∧ nb Ao18 t403.length co18 k_ ∧ nb Ao27 t416.length co27 k_ ∧ nb Ao28 t421.length co28 k_) (.slice Ao19 t408.length co19) t408) := ⟨by (with_reducible repeat (first | apply Kd.R_alloc | apply Kd.R_drewN | apply Kd.R_drew)); exact frM (Kd.R_types HO410.out BK425.out (by decide))⟩
      have n6_ : Aside0 (Kd.R k53 53 (((((w22.setCell ⟨gb425, 0, none⟩ (.slice Ao23 t413.length co23)).setCell ⟨gb425, 1, none⟩ (.slice Ao27 t416.length co27)).setCell ⟨gb425, 2, none⟩ (.int .i64 t419)).setCell ⟨gb425, 3, none⟩ (.bool t420)).setCell ⟨gb425, 4, none⟩ (.slice Ao28 t421.length co28)) w.heap.size (fun k_ => nb Ao9 t387.length co9 k_ ∧ nb Ao15 t400.length co15 k_) (.slice Ao23 t413.length co23) t413) := ⟨by (with_reducible repeat (first | apply Kd.R_alloc | apply Kd.R_drewN | apply Kd.R_drew)); exact frM (Kd.R_types HO415.out BK425.out (by decide))⟩
      have n7_ : Aside0 (Kd.R (Kd.int .i64) 3 (((((w22.setCell ⟨gb425, 0, none⟩ (.slice Ao23 t413.length co23)).setCell ⟨gb425, 1, none⟩ (.slice Ao27 t416.length co27)).setCell ⟨gb425, 2, none⟩ (.int .i64 t419)).setCell ⟨gb425, 3, none⟩ (.bool t420)).setCell ⟨gb425, 4, none⟩ (.slice Ao28 t421.length co28)) w.heap.size (fun k_ => nb Ao11 t390.length co11 k_ ∧ nb Ao12 t395.length co12 k_ ∧ nb Ao18 t403.length co18 k_ ∧ nb Ao19 t408.length co19 k_ ∧ nb Ao28 t421.length co28 k_) (.slice Ao27 t416.length co27) t416) := ⟨by (with_reducible repeat (first | apply Kd.R_alloc | apply Kd.R_drewN | apply Kd.R_drew)); exact frM (Kd.R_types HO418.out BK425.out (by decide))⟩
      have n8_ : Aside0 (Kd.R (Kd.int .i64) 3 (((((w22.setCell ⟨gb425, 0, none⟩ (.slice Ao23 t413.length co23)).setCell ⟨gb425, 1, none⟩ (.slice Ao27 t416.length co27)).setCell ⟨gb425, 2, none⟩ (.int .i64 t419)).setCell ⟨gb425, 3, none⟩ (.bool t420)).setCell ⟨gb425, 4, none⟩ (.slice Ao28 t421.length co28)) w.heap.size (fun k_ => nb Ao11 t390.length co11 k_ ∧ nb Ao12 t395.length co12 k_ ∧ nb Ao18 t403.length co18 k_ ∧ nb Ao19 t408.length co19 k_ ∧ nb Ao27 t416.length co27 k_) (.slice Ao28 t421.length co28) t421) := ⟨by (with_reducible repeat (first | apply Kd.R_alloc | apply Kd.R_drewN | apply Kd.R_drew)); exact frM (Kd.R_types HO423.out BK425.out (by decide))⟩
      have n9_ : Aside0 ((((((w22.setCell ⟨gb425, 0, none⟩ (.slice Ao23 t413.length co23)).setCell ⟨gb425, 1, none⟩ (.slice Ao27 t416.length co27)).setCell ⟨gb425, 2, none⟩ (.int .i64 t419)).setCell ⟨gb425, 3, none⟩ (.bool t420)).setCell ⟨gb425, 4, none⟩ (.slice Ao28 t421.length co28)).heap[gb399]? = some (.cells #[.slice Ao9 t387.length co9, .slice Ao11 t390.length co11, .int .i64 t393, .bool t394, .slice Ao12 t395.length co12] 33 (0, 0))) := ⟨by (with_reducible repeat (first | refine blk_drewN ?_ _ | refine blk_drew ?_ | refine blk_alloc ?_ _)); refine blk_far ?_ NB399_425.out _; (with_reducible repeat (first | refine blk_drewN ?_ _ | refine blk_drew ?_ | refine blk_alloc ?_ _)); refine blk_far ?_ NB399_425.out _; (with_reducible repeat (first | refine blk_drewN ?_ _ | refine blk_drew ?_ | refine blk_alloc ?_ _)); refine blk_far ?_ NB399_425.out _; (with_reducible repeat (first | refine blk_drewN ?_ _ | refine blk_drew ?_ | refine blk_alloc ?_ _)); refine blk_far ?_ NB399_425.out _; (with_reducible repeat (first | refine blk_drewN ?_ _ | refine blk_drew ?_ | refine blk_alloc ?_ _)); refine blk_far ?_ NB399_425.out _; (with_reducible repeat (first | refine blk_drewN ?_ _ | refine blk_drew ?_ | refine blk_alloc ?_ _)); exact BK399.out⟩
      have n10_ : Aside0 ((((((w22.setCell ⟨gb425, 0, none⟩ (.slice Ao23 t413.length co23)).setCell ⟨gb425, 1, none⟩ (.slice Ao27 t416.length co27)).setCell ⟨gb425, 2, none⟩ (.int .i64 t419)).setCell ⟨gb425, 3, none⟩ (.bool t420)).setCell ⟨gb425, 4, none⟩ (.slice Ao28 t421.length co28)).heap[gb412]? = some (.cells #[.slice Ao15 t400.length co15, .slice Ao18 t403.length co18, .int .i64 t406, .bool t407, .slice Ao19 t408.length co19] 33 (0, 0))) := ⟨by (with_reducible repeat (first | refine blk_drewN ?_ _ | refine blk_drew ?_ | refine blk_alloc ?_ _)); refine blk_far ?_ NB412_425.out _; (with_reducible repeat (first | refine blk_drewN ?_ _ | refine blk_drew ?_ | refine blk_alloc ?_ _)); refine blk_far ?_ NB412_425.out _; (with_reducible repeat (first | refine blk_drewN ?_ _ | refine blk_drew ?_ | refine blk_alloc ?_ _)); refine blk_far ?_ NB412_425.out _; (with_reducible repeat (first | refine blk_drewN ?_ _ | refine blk_drew ?_ | refine blk_alloc ?_ _)); refine blk_far ?_ NB412_425.out _; (with_reducible repeat (first | refine blk_drewN ?_ _ | refine blk_drew ?_ | refine blk_alloc ?_ _)); refine blk_far ?_ NB412_425.out _; (with_reducible repeat (first | refine blk_drewN ?_ _ | refine blk_drew ?_ | refine blk_alloc ?_ _)); exact BK412.out⟩
      have n11_ : Aside0 ((((((w22.setCell ⟨gb425, 0, none⟩ (.slice Ao23 t413.length co23)).setCell ⟨gb425, 1, none⟩ (.slice Ao27 t416.length co27)).setCell ⟨gb425, 2, none⟩ (.int .i64 t419)).setCell ⟨gb425, 3, none⟩ (.bool t420)).setCell ⟨gb425, 4, none⟩ (.slice Ao28 t421.length co28)).heap[gb425]? = some (.cells #[.slice Ao23 t413.length co23, .slice Ao27 t416.length co27, .int .i64 t419, .bool t420, .slice Ao28 t421.length co28] 33 (0, 0))) := ⟨by (with_reducible repeat (first | refine blk_drewN ?_ _ | refine blk_drew ?_ | refine blk_alloc ?_ _)); refine blk_put (cs := #[.slice Ao23 t413.length co23, .slice Ao27 t416.length co27, .int .i64 t419, .bool t420, .slice none 0 0]) ?_ 4 _ rfl; (with_reducible repeat (first | refine blk_drewN ?_ _ | refine blk_drew ?_ | refine blk_alloc ?_ _)); refine blk_put (cs := #[.slice Ao23 t413.length co23, .slice Ao27 t416.length co27, .int .i64 t419, .bool false, .slice none 0 0]) ?_ 3 _ rfl; (with_reducible repeat (first | refine blk_drewN ?_ _ | refine blk_drew ?_ | refine blk_alloc ?_ _)); refine blk_put (cs := #[.slice Ao23 t413.length co23, .slice Ao27 t416.length co27, .int .i64 0, .bool false, .slice none 0 0]) ?_ 2 _ rfl; (with_reducible repeat (first | refine blk_drewN ?_ _ | refine blk_drew ?_ | refine blk_alloc ?_ _)); refine blk_put (cs := #[.slice Ao23 t413.length co23, .slice none 0 0, .int .i64 0, .bool false, .slice none 0 0]) ?_ 1 _ rfl; (with_reducible repeat (first | refine blk_drewN ?_ _ | refine blk_drew ?_ | refine blk_alloc ?_ _)); refine blk_put (cs := #[.slice none 0 0, .slice none 0 0, .int .i64 0, .bool false, .slice none 0 0]) ?_ 0 _ rfl; (with_reducible repeat (first | refine blk_drewN ?_ _ | refine blk_drew ?_ | refine blk_alloc ?_ _)); exact BK425.out⟩
      have n12_ : Aside0 (Below w.heap.size w (((((w22.setCell ⟨gb425, 0, none⟩ (.slice Ao23 t413.length co23)).setCell ⟨gb425, 1, none⟩ (.slice Ao27 t416.length co27)).setCell ⟨gb425, 2, none⟩ (.int .i64 t419)).setCell ⟨gb425, 3, none⟩ (.bool t420)).setCell ⟨gb425, 4, none⟩ (.slice Ao28 t421.length co28))) := ⟨by repeat (first | (with_reducible first | exact HB.out | apply below_alloc | apply pw_below_drewN | apply below_drew1 | refine below_set ?_ GE399.out | refine below_set ?_ GE412.out | refine below_set ?_ GE425.out) | exact HB.out)⟩
      (try clear HO389)
      (try clear HO392)
      (try clear HO397)
      (try clear HO402)
      (try clear HO405)
      (try clear HO410)
      (try clear HO415)
      (try clear HO418)
      (try clear HO423)
      (try clear BK399)
      (try clear BK412)
      (try clear BK425)
      (try clear HB)
      generalize (((((w22.setCell ⟨gb425, 0, none⟩ (.slice Ao23 t413.length co23)).setCell ⟨gb425, 1, none⟩ (.slice Ao27 t416.length co27)).setCell ⟨gb425, 2, none⟩ (.int .i64 t419)).setCell ⟨gb425, 3, none⟩ (.bool t420)).setCell ⟨gb425, 4, none⟩ (.slice Ao28 t421.length co28)) = w44 at n0_ n1_ n2_ n3_ n4_ n5_ n6_ n7_ n8_ n9_ n10_ n11_ n12_ ⊢
      have HO389 := n0_
      have HO392 := n1_
      have HO397 := n2_
      have HO402 := n3_
      have HO405 := n4_
      have HO410 := n5_
      have HO415 := n6_
      have HO418 := n7_
      have HO423 := n8_
      have BK399 := n9_
      have BK412 := n10_
      have BK425 := n11_
      have HB := n12_
      clear n0_ n1_ n2_ n3_ n4_ n5_ n6_ n7_ n8_ n9_ n10_ n11_ n12_
      have n0_ := m_ (Kd.R_drew HO389.out)
      have n1_ := m_ (Kd.Q_drew HO392.out)
      have n2_ := m_ (Kd.R_drew HO397.out)
      have n3_ := m_ (Kd.R_drew HO402.out)
      have n4_ := m_ (Kd.R_drew HO405.out)
      have n5_ := m_ (Kd.R_drew HO410.out)
      have n6_ := m_ (Kd.R_drew HO415.out)
      have n7_ := m_ (Kd.R_drew HO418.out)
      have n8_ := m_ (Kd.R_drew HO423.out)
      have n9_ := m_ (blk_drew BK399.out)
      have n10_ := m_ (blk_drew BK412.out)
      have n11_ := m_ (blk_drew BK425.out)
      have n12_ := m_ (below_drew1 HB.out)
      clear HO389
      clear HO392
      clear HO397
      clear HO402
      clear HO405
      clear HO410
      clear HO415
      clear HO418
      clear HO423
      clear BK399
      clear BK412
      clear BK425
      clear HB
      have HO389 := n0_
      have HO392 := n1_
      have HO397 := n2_
      have HO402 := n3_
      have HO405 := n4_
      have HO410 := n5_
      have HO415 := n6_
      have HO418 := n7_
      have HO423 := n8_
      have BK399 := n9_
      have BK412 := n10_
      have BK425 := n11_
      have HB := n12_
      clear n0_ n1_ n2_ n3_ n4_ n5_ n6_ n7_ n8_ n9_ n10_ n11_ n12_
      refine start_ (n := 21) (S := fun w' => w'.cell? ⟨gb412, 0, none⟩ = some (.slice Ao15 t400.length co15) ∧ w'.cell? ⟨gb412, 1, none⟩ = some (.slice Ao18 t403.length co18) ∧ w'.cell? ⟨gb412, 2, none⟩ = some (.int .i64 t406) ∧ w'.cell? ⟨gb412, 3, none⟩ = some (.bool t407) ∧ w'.cell? ⟨gb412, 4, none⟩ = some (.slice Ao19 t408.length co19) ∧ w'.cell? ⟨gb425, 0, none⟩ = some (.slice Ao23 t413.length co23) ∧ w'.cell? ⟨gb425, 1, none⟩ = some (.slice Ao27 t416.length co27) ∧ w'.cell? ⟨gb425, 2, none⟩ = some (.int .i64 t419) ∧ w'.cell? ⟨gb425, 3, none⟩ = some (.bool t420) ∧ w'.cell? ⟨gb425, 4, none⟩ = some (.slice Ao28 t421.length co28) ∧ w'.cell? ⟨gb399, 0, none⟩ = some (.slice Ao9 t387.length co9) ∧ w'.cell? ⟨gb399, 1, none⟩ = some (.slice Ao11 t390.length co11) ∧ w'.cell? ⟨gb399, 2, none⟩ = some (.int .i64 t393) ∧ w'.cell? ⟨gb399, 3, none⟩ = some (.bool t394) ∧ w'.cell? ⟨gb399, 4, none⟩ = some (.slice Ao12 t395.length co12)) (ds := []) #[false, false, false, false, false, false, false, false, false, false, false, false, false, false, false, false, false, false, false, false, false] (by kernel_rfl) rfl rfl ⟨(blk_cell BK412.out 0).trans rfl, (blk_cell BK412.out 1).trans rfl, (blk_cell BK412.out 2).trans rfl, (blk_cell BK412.out 3).trans rfl, (blk_cell BK412.out 4).trans rfl, (blk_cell BK425.out 0).trans rfl, (blk_cell BK425.out 1).trans rfl, (blk_cell BK425.out 2).trans rfl, (blk_cell BK425.out 3).trans rfl, (blk_cell BK425.out 4).trans rfl, (blk_cell BK399.out 0).trans rfl, (blk_cell BK399.out 1).trans rfl, (blk_cell BK399.out 2).trans rfl, (blk_cell BK399.out 3).trans rfl, (blk_cell BK399.out 4).trans rfl⟩ (fun hHeld => ?_); refine with_tabW laws_FnPartSend.tab6 laws_FnPartSend.bits6 (fun HT_ HW_ => ?_)
      generalize w44.drew = w45 at HO389 HO392 HO397 HO402 HO405 HO410 HO415 HO418 HO423 BK399 BK412 BK425 HB hHeld ⊢
      refine take_ (i := 0) (N := some 30) (v := ?_) (a' := ?_) #[true, false, false, false, false, false, false, false, false, false, false, false, false, false, false, false, false, false, false, false, false] rfl rfl (take_ofW HT_.out HW_.out (by kernel_rfl)) (fun _ _ _ h => h) (Or.inl ⟨by rfl, ?_⟩) hHeld ?_ ?_
      rotate_left
      ·rintro w' ⟨s0, s1, s2, s3, s4, s5, s6, s7, s8, s9, s10, s11, s12, s13, s14⟩
       go_simp
       with_reducible rfl
      rotate_left
      ·simp only [Act.put, List.setIfInBounds_toArray, List.set_cons_zero, List.set_cons_succ, i64_w, i32_w]
       rfl
      refine take_ (i := 1) (N := some 31) (v := ?_) (a' := ?_) #[true, true, false, false, false, false, false, false, false, false, false, false, false, false, false, false, false, false, false, false, false] rfl rfl (take_ofW HT_.out HW_.out (by kernel_rfl)) (fun _ _ _ h => h) (Or.inl ⟨by rfl, ?_⟩) hHeld ?_ ?_
      rotate_left
      ·rintro w' ⟨s0, s1, s2, s3, s4, s5, s6, s7, s8, s9, s10, s11, s12, s13, s14⟩
       go_simp
       with_reducible rfl
      rotate_left
      ·simp only [Act.put, List.setIfInBounds_toArray, List.set_cons_zero, List.set_cons_succ, i64_w, i32_w]
       rfl
      refine one_ (i := 2) (N := some 32) #[true, true, true, false, false, false, false, false, false, false, false, false, false, false, false, false, false, false, false, false, false] rfl rfl (one_of HT_.out (by kernel_rfl)) (by decide) (fun K hK => ?_)
      refine goes_ Try.func16 (by kernel_rfl) rfl #[.agg #[.slice Ao15 t400.length co15, .slice Ao18 t403.length co18, .int .i64 t406, .bool t407, .slice Ao19 t408.length co19], .agg #[.slice Ao23 t413.length co23, .slice Ao27 t416.length co27, .int .i64 t419, .bool t420, .slice Ao28 t421.length co28]] (by rfl) rfl rfl gl_ ?_
      with_reducible refine (laws_skPart.calls k _ _ t400 _ _ t403 t406 t407 _ _ t408 _ _ t413 _ _ t416 t419 t420 _ _ t421 true _ ?side1 ?side2 ?side3 ?side4 ?side5 ?side6 ?side7 ?side8 ?side9 ?side10 ?side11 ?side12 A29.out).mono ?_
      (case side1 => exact cN (Kd.R_reads' HO402.out).2.2)
      (case side2 => exact (Kd.R_reads' HO402.out).2.1)
      (case side3 => exact cN (Kd.R_reads' HO405.out).2.2)
      (case side4 => exact (Kd.R_reads' HO405.out).2.1)
      (case side5 => exact cN (Kd.R_reads' HO410.out).2.2)
      (case side6 => exact (Kd.R_reads' HO410.out).2.1)
      (case side7 => exact cN (Kd.R_reads' HO415.out).2.2)
      (case side8 => exact (Kd.R_reads' HO415.out).2.1)
      (case side9 => exact cN (Kd.R_reads' HO418.out).2.2)
      (case side10 => exact (Kd.R_reads' HO418.out).2.1)
      (case side11 => exact cN (Kd.R_reads' HO423.out).2.2)
      (case side12 => exact (Kd.R_reads' HO423.out).2.1)
      rintro e w46 ⟨rfl, hb⟩
      refine ⟨_, rfl, ?_⟩
      have n0_ := m_ (Kd.R_below (rN HO389.out) hb)
      have n1_ := m_ (Kd.Q_below (by (with_reducible repeat (first | apply Kd.Q_alloc | apply Kd.Q_drewN | apply Kd.Q_drew)); exact HO392.out) hb)
      have n2_ := m_ (Kd.R_below (rN HO397.out) hb)
      have n3_ := m_ (Kd.R_below (rN HO402.out) hb)
      have n4_ := m_ (Kd.R_below (rN HO405.out) hb)
      have n5_ := m_ (Kd.R_below (rN HO410.out) hb)
      have n6_ := m_ (Kd.R_below (rN HO415.out) hb)
      have n7_ := m_ (Kd.R_below (rN HO418.out) hb)
      have n8_ := m_ (Kd.R_below (rN HO423.out) hb)
      have n9_ := m_ (blk_below (g := gb399) (o := .cells #[.slice Ao9 t387.length co9, .slice Ao11 t390.length co11, .int .i64 t393, .bool t394, .slice Ao12 t395.length co12] 33 (0, 0)) (by (with_reducible repeat (first | refine blk_drewN ?_ _ | refine blk_drew ?_ | refine blk_alloc ?_ _)); exact BK399.out) hb)
      have n10_ := m_ (blk_below (g := gb412) (o := .cells #[.slice Ao15 t400.length co15, .slice Ao18 t403.length co18, .int .i64 t406, .bool t407, .slice Ao19 t408.length co19] 33 (0, 0)) (by (with_reducible repeat (first | refine blk_drewN ?_ _ | refine blk_drew ?_ | refine blk_alloc ?_ _)); exact BK412.out) hb)
      have n11_ := m_ (blk_below (g := gb425) (o := .cells #[.slice Ao23 t413.length co23, .slice Ao27 t416.length co27, .int .i64 t419, .bool t420, .slice Ao28 t421.length co28] 33 (0, 0)) (by (with_reducible repeat (first | refine blk_drewN ?_ _ | refine blk_drew ?_ | refine blk_alloc ?_ _)); exact BK425.out) hb)
      have n12_ := m_ (below_step (bN HB.out) hb)
      clear HO389
      clear HO392
      clear HO397
      clear HO402
      clear HO405
      clear HO410
      clear HO415
      clear HO418
      clear HO423
      clear BK399
      clear BK412
      clear BK425
      clear HB
      have HO389 := n0_
      have HO392 := n1_
      have HO397 := n2_
      have HO402 := n3_
      have HO405 := n4_
      have HO410 := n5_
      have HO415 := n6_
      have HO418 := n7_
      have HO423 := n8_
      have BK399 := n9_
      have BK412 := n10_
      have BK425 := n11_
      have HB := n12_
      clear n0_ n1_ n2_ n3_ n4_ n5_ n6_ n7_ n8_ n9_ n10_ n11_ n12_
      (try clear hb)
      (try clear hb2)
      (try clear hk)
      (try clear hi)
      refine hK.out _ _ ⟨(blk_cell BK412.out 0).trans rfl, (blk_cell BK412.out 1).trans rfl, (blk_cell BK412.out 2).trans rfl, (blk_cell BK412.out 3).trans rfl, (blk_cell BK412.out 4).trans rfl, (blk_cell BK425.out 0).trans rfl, (blk_cell BK425.out 1).trans rfl, (blk_cell BK425.out 2).trans rfl, (blk_cell BK425.out 3).trans rfl, (blk_cell BK425.out 4).trans rfl, (blk_cell BK399.out 0).trans rfl, (blk_cell BK399.out 1).trans rfl, (blk_cell BK399.out 2).trans rfl, (blk_cell BK399.out 3).trans rfl, (blk_cell BK399.out 4).trans rfl⟩ (fun hHeld => ?_)
      clear hK K
      refine norm_ (a' := ?_) ?_ ?_
      rotate_left
      ·show Act.put _ (some 32) _ = _
       simp only [Act.put, List.setIfInBounds_toArray, List.set_cons_zero, List.set_cons_succ, i64_w, i32_w]
       rfl
      refine pu 3 33 HT_ (h := ?_)
      refine pu 4 34 HT_ (h := ?_)
      refine pu 5 35 HT_ (h := ?_)
      refine pu 6 36 HT_ (h := ?_)
      refine pu 7 37 HT_ (h := ?_)
      refine pu 8 38 HT_ (h := ?_)
      refine pu 9 39 HT_ (h := ?_)
      refine take_ (i := 10) (N := some 40) (v := ?_) (a' := ?_) #[true, true, true, true, true, true, true, true, true, true, true, false, false, false, false, false, false, false, false, false, false] rfl rfl (take_ofW HT_.out HW_.out (by kernel_rfl)) (fun _ _ _ h => h) (Or.inl ⟨by rfl, ?_⟩) hHeld ?_ ?_
      rotate_left
      ·rintro w' ⟨s0, s1, s2, s3, s4, s5, s6, s7, s8, s9, s10, s11, s12, s13, s14⟩
       go_simp
       with_reducible rfl
      rotate_left
      ·simp only [Act.put, List.setIfInBounds_toArray, List.set_cons_zero, List.set_cons_succ, i64_w, i32_w]
       rfl
      refine take_ (i := 12) (N := some 42) (v := ?_) (a' := ?_) #[true, true, true, true, true, true, true, true, true, true, true, false, true, false, false, false, false, false, false, false, false] rfl rfl (take_ofW HT_.out HW_.out (by kernel_rfl)) (fun _ _ _ h => h) (Or.inl ⟨by rfl, ?_⟩) hHeld ?_ ?_
      rotate_left
      ·rintro w' ⟨s0, s1, s2, s3, s4, s5, s6, s7, s8, s9, s10, s11, s12, s13, s14⟩
       go_simp
       with_reducible rfl
      rotate_left
      ·simp only [Act.put, List.setIfInBounds_toArray, List.set_cons_zero, List.set_cons_succ, i64_w, i32_w]
       rfl
      refine one_ (i := 11) (N := some 41) #[true, true, true, true, true, true, true, true, true, true, true, true, true, false, false, false, false, false, false, false, false] rfl rfl (one_of HT_.out (by kernel_rfl)) (by decide) (fun K hK => ?_)
      refine goes_ Try.func18 (by kernel_rfl) rfl #[.agg #[.slice Ao9 t387.length co9, .slice Ao11 t390.length co11, .int .i64 t393, .bool t394, .slice Ao12 t395.length co12]] (by rfl) rfl rfl gl_ ?_
      with_reducible refine (impl_PartOk.calls k _ _ t387 _ _ t390 t393 t394 _ _ t395 t427 _ ?side1 ?side2 ?side3 ?side4 ?side5 ?side6 A35.out).mono ?_
      (case side1 => exact cN (Kd.R_reads' HO389.out).2.2)
      (case side2 => exact (Kd.R_reads' HO389.out).2.1)
      (case side3 => exact cN (Kd.Q_reads' HO392.out).2.2)
      (case side4 => exact (Kd.Q_reads' HO392.out).2.1)
      (case side5 => exact cN (Kd.R_reads' HO397.out).2.2)
      (case side6 => exact (Kd.R_reads' HO397.out).2.1)
      rintro e w47 ⟨rfl, hb⟩
      refine ⟨_, rfl, ?_⟩
      have n0_ := m_ (Kd.R_below (rN HO389.out) hb)
      have n1_ := m_ (Kd.Q_below (by (with_reducible repeat (first | apply Kd.Q_alloc | apply Kd.Q_drewN | apply Kd.Q_drew)); exact HO392.out) hb)
      have n2_ := m_ (Kd.R_below (rN HO397.out) hb)
      have n3_ := m_ (Kd.R_below (rN HO402.out) hb)
      have n4_ := m_ (Kd.R_below (rN HO405.out) hb)
      have n5_ := m_ (Kd.R_below (rN HO410.out) hb)
      have n6_ := m_ (Kd.R_below (rN HO415.out) hb)
      have n7_ := m_ (Kd.R_below (rN HO418.out) hb)
      have n8_ := m_ (Kd.R_below (rN HO423.out) hb)
      have n9_ := m_ (blk_below (g := gb399) (o := .cells #[.slice Ao9 t387.length co9, .slice Ao11 t390.length co11, .int .i64 t393, .bool t394, .slice Ao12 t395.length co12] 33 (0, 0)) (by (with_reducible repeat (first | refine blk_drewN ?_ _ | refine blk_drew ?_ | refine blk_alloc ?_ _)); exact BK399.out) hb)
      have n10_ := m_ (blk_below (g := gb412) (o := .cells #[.slice Ao15 t400.length co15, .slice Ao18 t403.length co18, .int .i64 t406, .bool t407, .slice Ao19 t408.length co19] 33 (0, 0)) (by (with_reducible repeat (first | refine blk_drewN ?_ _ | refine blk_drew ?_ | refine blk_alloc ?_ _)); exact BK412.out) hb)
      have n11_ := m_ (blk_below (g := gb425) (o := .cells #[.slice Ao23 t413.length co23, .slice Ao27 t416.length co27, .int .i64 t419, .bool t420, .slice Ao28 t421.length co28] 33 (0, 0)) (by (with_reducible repeat (first | refine blk_drewN ?_ _ | refine blk_drew ?_ | refine blk_alloc ?_ _)); exact BK425.out) hb)
      have n12_ := m_ (below_step (bN HB.out) hb)
      clear HO389
      clear HO392
      clear HO397
      clear HO402
      clear HO405
      clear HO410
      clear HO415
      clear HO418
      clear HO423
      clear BK399
      clear BK412
      clear BK425
      clear HB
      have HO389 := n0_
      have HO392 := n1_
      have HO397 := n2_
      have HO402 := n3_
      have HO405 := n4_
      have HO410 := n5_
      have HO415 := n6_
      have HO418 := n7_
      have HO423 := n8_
      have BK399 := n9_
      have BK412 := n10_
      have BK425 := n11_
      have HB := n12_
      clear n0_ n1_ n2_ n3_ n4_ n5_ n6_ n7_ n8_ n9_ n10_ n11_ n12_
      (try clear hb)
      (try clear hb2)
      (try clear hk)
      (try clear hi)
      refine hK.out _ _ ⟨(blk_cell BK412.out 0).trans rfl, (blk_cell BK412.out 1).trans rfl, (blk_cell BK412.out 2).trans rfl, (blk_cell BK412.out 3).trans rfl, (blk_cell BK412.out 4).trans rfl, (blk_cell BK425.out 0).trans rfl, (blk_cell BK425.out 1).trans rfl, (blk_cell BK425.out 2).trans rfl, (blk_cell BK425.out 3).trans rfl, (blk_cell BK425.out 4).trans rfl, (blk_cell BK399.out 0).trans rfl, (blk_cell BK399.out 1).trans rfl, (blk_cell BK399.out 2).trans rfl, (blk_cell BK399.out 3).trans rfl, (blk_cell BK399.out 4).trans rfl⟩ (fun hHeld => ?_)
      clear hK K
      refine norm_ (a' := ?_) ?_ ?_
      rotate_left
      ·show Act.put _ (some 41) _ = _
       simp only [Act.put, List.setIfInBounds_toArray, List.set_cons_zero, List.set_cons_succ, i64_w, i32_w]
       rfl
      refine one_ (i := 13) (N := some 43) #[true, true, true, true, true, true, true, true, true, true, true, true, true, true, false, false, false, false, false, false, false] rfl rfl (one_of HT_.out (by kernel_rfl)) (by decide) (fun K hK => ?_)
      refine goes_ Try.func20 (by kernel_rfl) rfl #[.agg #[.slice Ao9 t387.length co9, .slice Ao11 t390.length co11, .int .i64 t393, .bool t394, .slice Ao12 t395.length co12]] (by rfl) rfl rfl gl_ ?_
      with_reducible refine (spec_PartOk.calls k _ _ t387 _ _ t390 t393 t394 _ _ t395 t428 _ ?side1 ?side2 ?side3 ?side4 ?side5 ?side6 A36.out).mono ?_
      (case side1 => exact cN (Kd.R_reads' HO389.out).2.2)
      (case side2 => exact (Kd.R_reads' HO389.out).2.1)
      (case side3 => exact cN (Kd.Q_reads' HO392.out).2.2)
      (case side4 => exact (Kd.Q_reads' HO392.out).2.1)
      (case side5 => exact cN (Kd.R_reads' HO397.out).2.2)
      (case side6 => exact (Kd.R_reads' HO397.out).2.1)
      rintro e w48 ⟨rfl, hb⟩
      refine ⟨_, rfl, ?_⟩
      have n0_ := m_ (Kd.R_below (rN HO389.out) hb)
      have n1_ := m_ (Kd.Q_below (by (with_reducible repeat (first | apply Kd.Q_alloc | apply Kd.Q_drewN | apply Kd.Q_drew)); exact HO392.out) hb)
      have n2_ := m_ (Kd.R_below (rN HO397.out) hb)
      have n3_ := m_ (Kd.R_below (rN HO402.out) hb)
      have n4_ := m_ (Kd.R_below (rN HO405.out) hb)
      have n5_ := m_ (Kd.R_below (rN HO410.out) hb)
      have n6_ := m_ (Kd.R_below (rN HO415.out) hb)
      have n7_ := m_ (Kd.R_below (rN HO418.out) hb)
      have n8_ := m_ (Kd.R_below (rN HO423.out) hb)
      have n9_ := m_ (blk_below (g := gb399) (o := .cells #[.slice Ao9 t387.length co9, .slice Ao11 t390.length co11, .int .i64 t393, .bool t394, .slice Ao12 t395.length co12] 33 (0, 0)) (by (with_reducible repeat (first | refine blk_drewN ?_ _ | refine blk_drew ?_ | refine blk_alloc ?_ _)); exact BK399.out) hb)
      have n10_ := m_ (blk_below (g := gb412) (o := .cells #[.slice Ao15 t400.length co15, .slice Ao18 t403.length co18, .int .i64 t406, .bool t407, .slice Ao19 t408.length co19] 33 (0, 0)) (by (with_reducible repeat (first | refine blk_drewN ?_ _ | refine blk_drew ?_ | refine blk_alloc ?_ _)); exact BK412.out) hb)
      have n11_ := m_ (blk_below (g := gb425) (o := .cells #[.slice Ao23 t413.length co23, .slice Ao27 t416.length co27, .int .i64 t419, .bool t420, .slice Ao28 t421.length co28] 33 (0, 0)) (by (with_reducible repeat (first | refine blk_drewN ?_ _ | refine blk_drew ?_ | refine blk_alloc ?_ _)); exact BK425.out) hb)
      have n12_ := m_ (below_step (bN HB.out) hb)
      clear HO389
      clear HO392
      clear HO397
      clear HO402
      clear HO405
      clear HO410
      clear HO415
      clear HO418
      clear HO423
      clear BK399
      clear BK412
      clear BK425
      clear HB
      have HO389 := n0_
      have HO392 := n1_
      have HO397 := n2_
      have HO402 := n3_
      have HO405 := n4_
      have HO410 := n5_
      have HO415 := n6_
      have HO418 := n7_
      have HO423 := n8_
      have BK399 := n9_
      have BK412 := n10_
      have BK425 := n11_
      have HB := n12_
      clear n0_ n1_ n2_ n3_ n4_ n5_ n6_ n7_ n8_ n9_ n10_ n11_ n12_
      (try clear hb)
      (try clear hb2)
      (try clear hk)
      (try clear hi)
      refine hK.out _ _ ⟨(blk_cell BK412.out 0).trans rfl, (blk_cell BK412.out 1).trans rfl, (blk_cell BK412.out 2).trans rfl, (blk_cell BK412.out 3).trans rfl, (blk_cell BK412.out 4).trans rfl, (blk_cell BK425.out 0).trans rfl, (blk_cell BK425.out 1).trans rfl, (blk_cell BK425.out 2).trans rfl, (blk_cell BK425.out 3).trans rfl, (blk_cell BK425.out 4).trans rfl, (blk_cell BK399.out 0).trans rfl, (blk_cell BK399.out 1).trans rfl, (blk_cell BK399.out 2).trans rfl, (blk_cell BK399.out 3).trans rfl, (blk_cell BK399.out 4).trans rfl⟩ (fun hHeld => ?_)
      clear hK K
      refine norm_ (a' := ?_) ?_ ?_
      rotate_left
      ·show Act.put _ (some 43) _ = _
       simp only [Act.put, List.setIfInBounds_toArray, List.set_cons_zero, List.set_cons_succ, i64_w, i32_w]
       rfl
      refine pu 14 44 HT_ (h := ?_)
      refine pu 15 45 HT_ (h := ?_)
      refine pu 16 46 HT_ (h := ?_)
      refine take_ (i := 17) (N := some 47) (v := ?_) (a' := ?_) #[true, true, true, true, true, true, true, true, true, true, true, true, true, true, true, true, true, true, false, false, false] rfl rfl (take_ofW HT_.out HW_.out (by kernel_rfl)) (fun _ _ _ h => h) (Or.inl ⟨by rfl, ?_⟩) hHeld ?_ ?_
      rotate_left
      ·rintro w' ⟨s0, s1, s2, s3, s4, s5, s6, s7, s8, s9, s10, s11, s12, s13, s14⟩
       go_simp
       with_reducible rfl
      rotate_left
      ·simp only [Act.put, List.setIfInBounds_toArray, List.set_cons_zero, List.set_cons_succ, i64_w, i32_w]
       rfl
      refine one_ (i := 18) (N := some 48) #[true, true, true, true, true, true, true, true, true, true, true, true, true, true, true, true, true, true, true, false, false] rfl rfl (one_of HT_.out (by kernel_rfl)) (by decide) (fun K hK => ?_)
      refine goes_ Try.func20 (by kernel_rfl) rfl #[.agg #[.slice Ao9 t387.length co9, .slice Ao11 t390.length co11, .int .i64 t393, .bool t394, .slice Ao12 t395.length co12]] (by rfl) rfl rfl gl_ ?_
      with_reducible refine (spec_PartOk.calls k _ _ t387 _ _ t390 t393 t394 _ _ t395 t429 _ ?side1 ?side2 ?side3 ?side4 ?side5 ?side6 A43.out).mono ?_
      (case side1 => exact cN (Kd.R_reads' HO389.out).2.2)
      (case side2 => exact (Kd.R_reads' HO389.out).2.1)
      (case side3 => exact cN (Kd.Q_reads' HO392.out).2.2)
      (case side4 => exact (Kd.Q_reads' HO392.out).2.1)
      (case side5 => exact cN (Kd.R_reads' HO397.out).2.2)
      (case side6 => exact (Kd.R_reads' HO397.out).2.1)
      rintro e w49 ⟨rfl, hb⟩
      refine ⟨_, rfl, ?_⟩
      have n0_ := m_ (Kd.R_below (rN HO389.out) hb)
      have n1_ := m_ (Kd.Q_below (by (with_reducible repeat (first | apply Kd.Q_alloc | apply Kd.Q_drewN | apply Kd.Q_drew)); exact HO392.out) hb)
      have n2_ := m_ (Kd.R_below (rN HO397.out) hb)
      have n3_ := m_ (Kd.R_below (rN HO402.out) hb)
      have n4_ := m_ (Kd.R_below (rN HO405.out) hb)
      have n5_ := m_ (Kd.R_below (rN HO410.out) hb)
      have n6_ := m_ (Kd.R_below (rN HO415.out) hb)
      have n7_ := m_ (Kd.R_below (rN HO418.out) hb)
      have n8_ := m_ (Kd.R_below (rN HO423.out) hb)
      have n9_ := m_ (blk_below (g := gb399) (o := .cells #[.slice Ao9 t387.length co9, .slice Ao11 t390.length co11, .int .i64 t393, .bool t394, .slice Ao12 t395.length co12] 33 (0, 0)) (by (with_reducible repeat (first | refine blk_drewN ?_ _ | refine blk_drew ?_ | refine blk_alloc ?_ _)); exact BK399.out) hb)
      have n10_ := m_ (blk_below (g := gb412) (o := .cells #[.slice Ao15 t400.length co15, .slice Ao18 t403.length co18, .int .i64 t406, .bool t407, .slice Ao19 t408.length co19] 33 (0, 0)) (by (with_reducible repeat (first | refine blk_drewN ?_ _ | refine blk_drew ?_ | refine blk_alloc ?_ _)); exact BK412.out) hb)
      have n11_ := m_ (blk_below (g := gb425) (o := .cells #[.slice Ao23 t413.length co23, .slice Ao27 t416.length co27, .int .i64 t419, .bool t420, .slice Ao28 t421.length co28] 33 (0, 0)) (by (with_reducible repeat (first | refine blk_drewN ?_ _ | refine blk_drew ?_ | refine blk_alloc ?_ _)); exact BK425.out) hb)
      have n12_ := m_ (below_step (bN HB.out) hb)
      clear HO389
      clear HO392
      clear HO397
      clear HO402
      clear HO405
      clear HO410
      clear HO415
      clear HO418
      clear HO423
      clear BK399
      clear BK412
      clear BK425
      clear HB
      have HO389 := n0_
      have HO392 := n1_
      have HO397 := n2_
      have HO402 := n3_
      have HO405 := n4_
      have HO410 := n5_
      have HO415 := n6_
      have HO418 := n7_
      have HO423 := n8_
      have BK399 := n9_
      have BK412 := n10_
      have BK425 := n11_
      have HB := n12_
      clear n0_ n1_ n2_ n3_ n4_ n5_ n6_ n7_ n8_ n9_ n10_ n11_ n12_
      (try clear hb)
      (try clear hb2)
      (try clear hk)
      (try clear hi)
      refine hK.out _ _ ⟨(blk_cell BK412.out 0).trans rfl, (blk_cell BK412.out 1).trans rfl, (blk_cell BK412.out 2).trans rfl, (blk_cell BK412.out 3).trans rfl, (blk_cell BK412.out 4).trans rfl, (blk_cell BK425.out 0).trans rfl, (blk_cell BK425.out 1).trans rfl, (blk_cell BK425.out 2).trans rfl, (blk_cell BK425.out 3).trans rfl, (blk_cell BK425.out 4).trans rfl, (blk_cell BK399.out 0).trans rfl, (blk_cell BK399.out 1).trans rfl, (blk_cell BK399.out 2).trans rfl, (blk_cell BK399.out 3).trans rfl, (blk_cell BK399.out 4).trans rfl⟩ (fun hHeld => ?_)
      clear hK K
      refine norm_ (a' := ?_) ?_ ?_
      rotate_left
      ·show Act.put _ (some 48) _ = _
       simp only [Act.put, List.setIfInBounds_toArray, List.set_cons_zero, List.set_cons_succ, i64_w, i32_w]
       rfl
      refine pu 19 49 HT_ (h := ?_)
      refine pu 20 50 HT_ (h := ?_)
      refine done_ (done_of HT_.out (by kernel_rfl)) ?_
      try go_wp2
      go_meet
      case rel => exact ⟨_, (!t429), (by first | rfl | (simp; done) | (simp [*]; done)), H', ⟨by first | omega | exact Nat.le_refl _⟩, ⟨by (with_reducible repeat (first | apply Kd.R_alloc | apply Kd.R_drewN | apply Kd.R_drew)); exact HO389.out⟩, ⟨by (with_reducible repeat (first | apply Kd.Q_alloc | apply Kd.Q_drewN | apply Kd.Q_drew)); exact HO392.out⟩, ⟨by (with_reducible repeat (first | apply Kd.R_alloc | apply Kd.R_drewN | apply Kd.R_drew)); exact HO397.out⟩, ⟨by (with_reducible repeat (first | apply Kd.R_alloc | apply Kd.R_drewN | apply Kd.R_drew)); exact HO402.out⟩, ⟨Kd.Q_of_R (rN HO405.out)⟩, ⟨by (with_reducible repeat (first | apply Kd.R_alloc | apply Kd.R_drewN | apply Kd.R_drew)); exact HO410.out⟩, ⟨by (with_reducible repeat (first | apply Kd.R_alloc | apply Kd.R_drewN | apply Kd.R_drew)); exact HO415.out⟩, ⟨Kd.Q_of_R (rN HO418.out)⟩, ⟨by (with_reducible repeat (first | apply Kd.R_alloc | apply Kd.R_drewN | apply Kd.R_drew)); exact HO423.out⟩, ⟨by (with_reducible repeat (first | refine blk_drewN ?_ _ | refine blk_drew ?_ | refine blk_alloc ?_ _)); exact BK399.out⟩, ⟨by (with_reducible repeat (first | refine blk_drewN ?_ _ | refine blk_drew ?_ | refine blk_alloc ?_ _)); exact BK412.out⟩, ⟨by (with_reducible repeat (first | refine blk_drewN ?_ _ | refine blk_drew ?_ | refine blk_alloc ?_ _)); exact BK425.out⟩, ⟨by repeat (first | (with_reducible first | exact HB.out | apply below_alloc | apply pw_below_drewN | apply below_drew1 | refine below_set ?_ GE399.out | refine below_set ?_ GE412.out | refine below_set ?_ GE425.out) | exact HB.out)⟩⟩
   ·replace c30 := Bool.eq_false_iff.mpr c30
    subst c30
    have H1 : (laws_FnPartSend.j0 k t398 t411 t424 true t387 t390 t393 t394 t395 t400 t403 t406 t407 t408 t413 t416 t419 t420 t421) = some r := by rw [if_neg (show ¬ (false = true) by decide)] at H; exact H
    clear H
    have H := H1
    clear H1
    have H' := Aside0.mk H
    clear H
    try go_wp2
    have n0_ : Aside0 (Kd.R k53 53 (((((w22.setCell ⟨gb425, 0, none⟩ (.slice Ao23 t413.length co23)).setCell ⟨gb425, 1, none⟩ (.slice Ao27 t416.length co27)).setCell ⟨gb425, 2, none⟩ (.int .i64 t419)).setCell ⟨gb425, 3, none⟩ (.bool t420)).setCell ⟨gb425, 4, none⟩ (.slice Ao28 t421.length co28)) w.heap.size (fun k_ => nb Ao15 t400.length co15 k_ ∧ nb Ao23 t413.length co23 k_) (.slice Ao9 t387.length co9) t387) := ⟨by (with_reducible repeat (first | apply Kd.R_alloc | apply Kd.R_drewN | apply Kd.R_drew)); exact frM (Kd.R_types HO389.out BK425.out (by decide))⟩
    have n1_ : Aside0 (Kd.Q (Kd.int .i64) 3 (((((w22.setCell ⟨gb425, 0, none⟩ (.slice Ao23 t413.length co23)).setCell ⟨gb425, 1, none⟩ (.slice Ao27 t416.length co27)).setCell ⟨gb425, 2, none⟩ (.int .i64 t419)).setCell ⟨gb425, 3, none⟩ (.bool t420)).setCell ⟨gb425, 4, none⟩ (.slice Ao28 t421.length co28)) w.heap.size (fun k_ => nb Ao12 t395.length co12 k_ ∧ nb Ao18 t403.length co18 k_ ∧ nb Ao19 t408.length co19 k_ ∧ nb Ao27 t416.length co27 k_ ∧ nb Ao28 t421.length co28 k_) (.slice Ao11 t390.length co11) t390) := ⟨by (with_reducible repeat (first | apply Kd.Q_alloc | apply Kd.Q_drewN | apply Kd.Q_drew)); exact frQ (Kd.Q_types HO392.out BK425.out (by decide))⟩
    have n2_ : Aside0 (Kd.R (Kd.int .i64) 3 (((((w22.setCell ⟨gb425, 0, none⟩ (.slice Ao23 t413.length co23)).setCell ⟨gb425, 1, none⟩ (.slice Ao27 t416.length co27)).setCell ⟨gb425, 2, none⟩ (.int .i64 t419)).setCell ⟨gb425, 3, none⟩ (.bool t420)).setCell ⟨gb425, 4, none⟩ (.slice Ao28 t421.length co28)) w.heap.size (fun k_ => nb Ao11 t390.length co11 k_ ∧ nb Ao18 t403.length co18 k_ ∧ nb Ao19 t408.length co19 k_ ∧ nb Ao27 t416.length co27 k_ ∧ nb Ao28 t421.length co28 k_) (.slice Ao12 t395.length co12) t395) := ⟨by (with_reducible repeat (first | apply Kd.R_alloc | apply Kd.R_drewN | apply Kd.R_drew)); exact frM (Kd.R_types HO397.out BK425.out (by decide))⟩
    have n3_ : Aside0 (Kd.R k53 53 (((((w22.setCell ⟨gb425, 0, none⟩ (.slice Ao23 t413.length co23)).setCell ⟨gb425, 1, none⟩ (.slice Ao27 t416.length co27)).setCell ⟨gb425, 2, none⟩ (.int .i64 t419)).setCell ⟨gb425, 3, none⟩ (.bool t420)).setCell ⟨gb425, 4, none⟩ (.slice Ao28 t421.length co28)) w.heap.size (fun k_ => nb Ao9 t387.length co9 k_ ∧ nb Ao23 t413.length co23 k_) (.slice Ao15 t400.length co15) t400) := ⟨by (with_reducible repeat (first | apply Kd.R_alloc | apply Kd.R_drewN | apply Kd.R_drew)); exact frM (Kd.R_types HO402.out BK425.out (by decide))⟩
    have n4_ : Aside0 (Kd.R (Kd.int .i64) 3 (((((w22.setCell ⟨gb425, 0, none⟩ (.slice Ao23 t413.length co23)).setCell ⟨gb425, 1, none⟩ (.slice Ao27 t416.length co27)).setCell ⟨gb425, 2, none⟩ (.int .i64 t419)).setCell ⟨gb425, 3, none⟩ (.bool t420)).setCell ⟨gb425, 4, none⟩ (.slice Ao28 t421.length co28)) w.heap.size (fun k_ => nb Ao11 t390.length co11 k_ ∧ nb Ao12 t395.length co12 k_ ∧ nb Ao19 t408.length co19 k_ ∧ nb Ao27 t416.length co27 k_ ∧ nb Ao28 t421.length co28 k_) (.slice Ao18 t403.length co18) t403) := ⟨by (with_reducible repeat (first | apply Kd.R_alloc | apply Kd.R_drewN | apply Kd.R_drew)); exact frM (Kd.R_types HO405.out BK425.out (by decide))⟩
    have n5_ : Aside0 (Kd.R (Kd.int .i64) 3 (((((w22.setCell ⟨gb425, 0, none⟩ (.slice Ao23 t413.length co23)).setCell ⟨gb425, 1, none⟩ (.slice Ao27 t416.length co27)).setCell ⟨gb425, 2, none⟩ (.int .i64 t419)).setCell ⟨gb425, 3, none⟩ (.bool t420)).setCell ⟨gb425, 4, none⟩ (.slice Ao28 t421.length co28)) w.heap.size (fun k_ => nb Ao11 t390.length co11 k_ ∧ nb Ao12 t395.length co12 k_ ∧ nb Ao18 t403.length co18 k_ ∧ nb Ao27 t416.length co27 k_ ∧ nb Ao28 t421.length co28 k_) (.slice Ao19 t408.length co19) t408) := ⟨by (with_reducible repeat (first | apply Kd.R_alloc | apply Kd.R_drewN | apply Kd.R_drew)); exact frM (Kd.R_types HO410.out BK425.out (by decide))⟩
    have n6_ : Aside0 (Kd.R k53 53 (((((w22.setCell ⟨gb425, 0, none⟩ (.slice Ao23 t413.length co23)).setCell ⟨gb425, 1, none⟩ (.slice Ao27 t416.length co27)).setCell ⟨gb425, 2, none⟩ (.int .i64 t419)).setCell ⟨gb425, 3, none⟩ (.bool t420)).setCell ⟨gb425, 4, none⟩ (.slice Ao28 t421.length co28)) w.heap.size (fun k_ => nb Ao9 t387.length co9 k_ ∧ nb Ao15 t400.length co15 k_) (.slice Ao23 t413.length co23) t413) := ⟨by (with_reducible repeat (first | apply Kd.R_alloc | apply Kd.R_drewN | apply Kd.R_drew)); exact frM (Kd.R_types HO415.out BK425.out (by decide))⟩
    have n7_ : Aside0 (Kd.R (Kd.int .i64) 3 (((((w22.setCell ⟨gb425, 0, none⟩ (.slice Ao23 t413.length co23)).setCell ⟨gb425, 1, none⟩ (.slice Ao27 t416.length co27)).setCell ⟨gb425, 2, none⟩ (.int .i64 t419)).setCell ⟨gb425, 3, none⟩ (.bool t420)).setCell ⟨gb425, 4, none⟩ (.slice Ao28 t421.length co28)) w.heap.size (fun k_ => nb Ao11 t390.length co11 k_ ∧ nb Ao12 t395.length co12 k_ ∧ nb Ao18 t403.length co18 k_ ∧ nb Ao19 t408.length co19 k_ ∧ nb Ao28 t421.length co28 k_) (.slice Ao27 t416.length co27) t416) := ⟨by (with_reducible repeat (first | apply Kd.R_alloc | apply Kd.R_drewN | apply Kd.R_drew)); exact frM (Kd.R_types HO418.out BK425.out (by decide))⟩
    have n8_ : Aside0 (Kd.R (Kd.int .i64) 3 (((((w22.setCell ⟨gb425, 0, none⟩ (.slice Ao23 t413.length co23)).setCell ⟨gb425, 1, none⟩ (.slice Ao27 t416.length co27)).setCell ⟨gb425, 2, none⟩ (.int .i64 t419)).setCell ⟨gb425, 3, none⟩ (.bool t420)).setCell ⟨gb425, 4, none⟩ (.slice Ao28 t421.length co28)) w.heap.size (fun k_ => nb Ao11 t390.length co11 k_ ∧ nb Ao12 t395.length co12 k_ ∧ nb Ao18 t403.length co18 k_ ∧ nb Ao19 t408.length co19 k_ ∧ nb Ao27 t416.length co27 k_) (.slice Ao28 t421.length co28) t421) := ⟨by (with_reducible repeat (first | apply Kd.R_alloc | apply Kd.R_drewN | apply Kd.R_drew)); exact frM (Kd.R_types HO423.out BK425.out (by decide))⟩
    have n9_ : Aside0 ((((((w22.setCell ⟨gb425, 0, none⟩ (.slice Ao23 t413.length co23)).setCell ⟨gb425, 1, none⟩ (.slice Ao27 t416.length co27)).setCell ⟨gb425, 2, none⟩ (.int .i64 t419)).setCell ⟨gb425, 3, none⟩ (.bool t420)).setCell ⟨gb425, 4, none⟩ (.slice Ao28 t421.length co28)).heap[gb399]? = some (.cells #[.slice Ao9 t387.length co9, .slice Ao11 t390.length co11, .int .i64 t393, .bool t394, .slice Ao12 t395.length co12] 33 (0, 0))) := ⟨by (with_reducible repeat (first | refine blk_drewN ?_ _ | refine blk_drew ?_ | refine blk_alloc ?_ _)); refine blk_far ?_ NB399_425.out _; (with_reducible repeat (first | refine blk_drewN ?_ _ | refine blk_drew ?_ | refine blk_alloc ?_ _)); refine blk_far ?_ NB399_425.out _; (with_reducible repeat (first | refine blk_drewN ?_ _ | refine blk_drew ?_ | refine blk_alloc ?_ _)); refine blk_far ?_ NB399_425.out _; (with_reducible repeat (first | refine blk_drewN ?_ _ | refine blk_drew ?_ | refine blk_alloc ?_ _)); refine blk_far ?_ NB399_425.out _; (with_reducible repeat (first | refine blk_drewN ?_ _ | refine blk_drew ?_ | refine blk_alloc ?_ _)); refine blk_far ?_ NB399_425.out _; (with_reducible repeat (first | refine blk_drewN ?_ _ | refine blk_drew ?_ | refine blk_alloc ?_ _)); exact BK399.out⟩
    have n10_ : Aside0 ((((((w22.setCell ⟨gb425, 0, none⟩ (.slice Ao23 t413.length co23)).setCell ⟨gb425, 1, none⟩ (.slice Ao27 t416.length co27)).setCell ⟨gb425, 2, none⟩ (.int .i64 t419)).setCell ⟨gb425, 3, none⟩ (.bool t420)).setCell ⟨gb425, 4, none⟩ (.slice Ao28 t421.length co28)).heap[gb412]? = some (.cells #[.slice Ao15 t400.length co15, .slice Ao18 t403.length co18, .int .i64 t406, .bool t407, .slice Ao19 t408.length co19] 33 (0, 0))) := ⟨by (with_reducible repeat (first | refine blk_drewN ?_ _ | refine blk_drew ?_ | refine blk_alloc ?_ _)); refine blk_far ?_ NB412_425.out _; (with_reducible repeat (first | refine blk_drewN ?_ _ | refine blk_drew ?_ | refine blk_alloc ?_ _)); refine blk_far ?_ NB412_425.out _; (with_reducible repeat (first | refine blk_drewN ?_ _ | refine blk_drew ?_ | refine blk_alloc ?_ _)); refine blk_far ?_ NB412_425.out _; (with_reducible repeat (first | refine blk_drewN ?_ _ | refine blk_drew ?_ | refine blk_alloc ?_ _)); refine blk_far ?_ NB412_425.out _; (with_reducible repeat (first | refine blk_drewN ?_ _ | refine blk_drew ?_ | refine blk_alloc ?_ _)); refine blk_far ?_ NB412_425.out _; (with_reducible repeat (first | refine blk_drewN ?_ _ | refine blk_drew ?_ | refine blk_alloc ?_ _)); exact BK412.out⟩
    have n11_ : Aside0 ((((((w22.setCell ⟨gb425, 0, none⟩ (.slice Ao23 t413.length co23)).setCell ⟨gb425, 1, none⟩ (.slice Ao27 t416.length co27)).setCell ⟨gb425, 2, none⟩ (.int .i64 t419)).setCell ⟨gb425, 3, none⟩ (.bool t420)).setCell ⟨gb425, 4, none⟩ (.slice Ao28 t421.length co28)).heap[gb425]? = some (.cells #[.slice Ao23 t413.length co23, .slice Ao27 t416.length co27, .int .i64 t419, .bool t420, .slice Ao28 t421.length co28] 33 (0, 0))) := ⟨by (with_reducible repeat (first | refine blk_drewN ?_ _ | refine blk_drew ?_ | refine blk_alloc ?_ _)); refine blk_put (cs := #[.slice Ao23 t413.length co23, .slice Ao27 t416.length co27, .int .i64 t419, .bool t420, .slice none 0 0]) ?_ 4 _ rfl; (with_reducible repeat (first | refine blk_drewN ?_ _ | refine blk_drew ?_ | refine blk_alloc ?_ _)); refine blk_put (cs := #[.slice Ao23 t413.length co23, .slice Ao27 t416.length co27, .int .i64 t419, .bool false, .slice none 0 0]) ?_ 3 _ rfl; (with_reducible repeat (first | refine blk_drewN ?_ _ | refine blk_drew ?_ | refine blk_alloc ?_ _)); refine blk_put (cs := #[.slice Ao23 t413.length co23, .slice Ao27 t416.length co27, .int .i64 0, .bool false, .slice none 0 0]) ?_ 2 _ rfl; (with_reducible repeat (first | refine blk_drewN ?_ _ | refine blk_drew ?_ | refine blk_alloc ?_ _)); refine blk_put (cs := #[.slice Ao23 t413.length co23, .slice none 0 0, .int .i64 0, .bool false, .slice none 0 0]) ?_ 1 _ rfl; (with_reducible repeat (first | refine blk_drewN ?_ _ | refine blk_drew ?_ | refine blk_alloc ?_ _)); refine blk_put (cs := #[.slice none 0 0, .slice none 0 0, .int .i64 0, .bool false, .slice none 0 0]) ?_ 0 _ rfl; (with_reducible repeat (first | refine blk_drewN ?_ _ | refine blk_drew ?_ | refine blk_alloc ?_ _)); exact BK425.out⟩
    have n12_ : Aside0 (Below w.heap.size w (((((w22.setCell ⟨gb425, 0, none⟩ (.slice Ao23 t413.length co23)).setCell ⟨gb425, 1, none⟩ (.slice Ao27 t416.length co27)).setCell ⟨gb425, 2, none⟩ (.int .i64 t419)).setCell ⟨gb425, 3, none⟩ (.bool t420)).setCell ⟨gb425, 4, none⟩ (.slice Ao28 t421.length co28))) := ⟨by repeat (first | (with_reducible first | exact HB.out | apply below_alloc | apply pw_below_drewN | apply below_drew1 | refine below_set ?_ GE399.out | refine below_set ?_ GE412.out | refine below_set ?_ GE425.out) | exact HB.out)⟩
    (try clear HO389)
    (try clear HO392)
    (try clear HO397)
    (try clear HO402)
    (try clear HO405)
    (try clear HO410)
    (try clear HO415)
    (try clear HO418)
    (try clear HO423)
    (try clear BK399)
    (try clear BK412)
    (try clear BK425)
    (try clear HB)
    generalize (((((w22.setCell ⟨gb425, 0, none⟩ (.slice Ao23 t413.length co23)).setCell ⟨gb425, 1, none⟩ (.slice Ao27 t416.length co27)).setCell ⟨gb425, 2, none⟩ (.int .i64 t419)).setCell ⟨gb425, 3, none⟩ (.bool t420)).setCell ⟨gb425, 4, none⟩ (.slice Ao28 t421.length co28)) = w50 at n0_ n1_ n2_ n3_ n4_ n5_ n6_ n7_ n8_ n9_ n10_ n11_ n12_ ⊢
    have HO389 := n0_
    have HO392 := n1_
    have HO397 := n2_
    have HO402 := n3_
    have HO405 := n4_
    have HO410 := n5_
    have HO415 := n6_
    have HO418 := n7_
    have HO423 := n8_
    have BK399 := n9_
    have BK412 := n10_
    have BK425 := n11_
    have HB := n12_
    clear n0_ n1_ n2_ n3_ n4_ n5_ n6_ n7_ n8_ n9_ n10_ n11_ n12_
    have n0_ := m_ (Kd.R_drew HO389.out)
    have n1_ := m_ (Kd.Q_drew HO392.out)
    have n2_ := m_ (Kd.R_drew HO397.out)
    have n3_ := m_ (Kd.R_drew HO402.out)
    have n4_ := m_ (Kd.R_drew HO405.out)
    have n5_ := m_ (Kd.R_drew HO410.out)
    have n6_ := m_ (Kd.R_drew HO415.out)
    have n7_ := m_ (Kd.R_drew HO418.out)
    have n8_ := m_ (Kd.R_drew HO423.out)
    have n9_ := m_ (blk_drew BK399.out)
    have n10_ := m_ (blk_drew BK412.out)
    have n11_ := m_ (blk_drew BK425.out)
    have n12_ := m_ (below_drew1 HB.out)
    clear HO389
    clear HO392
    clear HO397
    clear HO402
    clear HO405
    clear HO410
    clear HO415
    clear HO418
    clear HO423
    clear BK399
    clear BK412
    clear BK425
    clear HB
    have HO389 := n0_
    have HO392 := n1_
    have HO397 := n2_
    have HO402 := n3_
    have HO405 := n4_
    have HO410 := n5_
    have HO415 := n6_
    have HO418 := n7_
    have HO423 := n8_
    have BK399 := n9_
    have BK412 := n10_
    have BK425 := n11_
    have HB := n12_
    clear n0_ n1_ n2_ n3_ n4_ n5_ n6_ n7_ n8_ n9_ n10_ n11_ n12_
    refine start_ (n := 21) (S := fun w' => w'.cell? ⟨gb412, 0, none⟩ = some (.slice Ao15 t400.length co15) ∧ w'.cell? ⟨gb412, 1, none⟩ = some (.slice Ao18 t403.length co18) ∧ w'.cell? ⟨gb412, 2, none⟩ = some (.int .i64 t406) ∧ w'.cell? ⟨gb412, 3, none⟩ = some (.bool t407) ∧ w'.cell? ⟨gb412, 4, none⟩ = some (.slice Ao19 t408.length co19) ∧ w'.cell? ⟨gb425, 0, none⟩ = some (.slice Ao23 t413.length co23) ∧ w'.cell? ⟨gb425, 1, none⟩ = some (.slice Ao27 t416.length co27) ∧ w'.cell? ⟨gb425, 2, none⟩ = some (.int .i64 t419) ∧ w'.cell? ⟨gb425, 3, none⟩ = some (.bool t420) ∧ w'.cell? ⟨gb425, 4, none⟩ = some (.slice Ao28 t421.length co28)) (ds := []) #[false, false, false, false, false, false, false, false, false, false, false, false, false, false, false, false, false, false, false, false, false] (by kernel_rfl) rfl rfl ⟨(blk_cell BK412.out 0).trans rfl, (blk_cell BK412.out 1).trans rfl, (blk_cell BK412.out 2).trans rfl, (blk_cell BK412.out 3).trans rfl, (blk_cell BK412.out 4).trans rfl, (blk_cell BK425.out 0).trans rfl, (blk_cell BK425.out 1).trans rfl, (blk_cell BK425.out 2).trans rfl, (blk_cell BK425.out 3).trans rfl, (blk_cell BK425.out 4).trans rfl⟩ (fun hHeld => ?_); refine with_tabW laws_FnPartSend.tab6 laws_FnPartSend.bits6 (fun HT_ HW_ => ?_)
    generalize w50.drew = w51 at HO389 HO392 HO397 HO402 HO405 HO410 HO415 HO418 HO423 BK399 BK412 BK425 HB hHeld ⊢
    refine take_ (i := 0) (N := some 30) (v := ?_) (a' := ?_) #[true, false, false, false, false, false, false, false, false, false, false, false, false, false, false, false, false, false, false, false, false] rfl rfl (take_ofW HT_.out HW_.out (by kernel_rfl)) (fun _ _ _ h => h) (Or.inl ⟨by rfl, ?_⟩) hHeld ?_ ?_
    rotate_left
    ·rintro w' ⟨s0, s1, s2, s3, s4, s5, s6, s7, s8, s9⟩
     go_simp
     with_reducible rfl
    rotate_left
    ·simp only [Act.put, List.setIfInBounds_toArray, List.set_cons_zero, List.set_cons_succ, i64_w, i32_w]
     rfl
    refine take_ (i := 1) (N := some 31) (v := ?_) (a' := ?_) #[true, true, false, false, false, false, false, false, false, false, false, false, false, false, false, false, false, false, false, false, false] rfl rfl (take_ofW HT_.out HW_.out (by kernel_rfl)) (fun _ _ _ h => h) (Or.inl ⟨by rfl, ?_⟩) hHeld ?_ ?_
    rotate_left
    ·rintro w' ⟨s0, s1, s2, s3, s4, s5, s6, s7, s8, s9⟩
     go_simp
     with_reducible rfl
    rotate_left
    ·simp only [Act.put, List.setIfInBounds_toArray, List.set_cons_zero, List.set_cons_succ, i64_w, i32_w]
     rfl
    refine one_ (i := 2) (N := some 32) #[true, true, true, false, false, false, false, false, false, false, false, false, false, false, false, false, false, false, false, false, false] rfl rfl (one_of HT_.out (by kernel_rfl)) (by decide) (fun K hK => ?_)
    refine goes_ Try.func16 (by kernel_rfl) rfl #[.agg #[.slice Ao15 t400.length co15, .slice Ao18 t403.length co18, .int .i64 t406, .bool t407, .slice Ao19 t408.length co19], .agg #[.slice Ao23 t413.length co23, .slice Ao27 t416.length co27, .int .i64 t419, .bool t420, .slice Ao28 t421.length co28]] (by rfl) rfl rfl gl_ ?_
    with_reducible refine (laws_skPart.calls k _ _ t400 _ _ t403 t406 t407 _ _ t408 _ _ t413 _ _ t416 t419 t420 _ _ t421 false _ ?side1 ?side2 ?side3 ?side4 ?side5 ?side6 ?side7 ?side8 ?side9 ?side10 ?side11 ?side12 A29.out).mono ?_
    (case side1 => exact cN (Kd.R_reads' HO402.out).2.2)
    (case side2 => exact (Kd.R_reads' HO402.out).2.1)
    (case side3 => exact cN (Kd.R_reads' HO405.out).2.2)
    (case side4 => exact (Kd.R_reads' HO405.out).2.1)
    (case side5 => exact cN (Kd.R_reads' HO410.out).2.2)
    (case side6 => exact (Kd.R_reads' HO410.out).2.1)
    (case side7 => exact cN (Kd.R_reads' HO415.out).2.2)
    (case side8 => exact (Kd.R_reads' HO415.out).2.1)
    (case side9 => exact cN (Kd.R_reads' HO418.out).2.2)
    (case side10 => exact (Kd.R_reads' HO418.out).2.1)
    (case side11 => exact cN (Kd.R_reads' HO423.out).2.2)
    (case side12 => exact (Kd.R_reads' HO423.out).2.1)
    rintro e w52 ⟨rfl, hb⟩
    refine ⟨_, rfl, ?_⟩
    have n0_ := m_ (Kd.R_below (rN HO389.out) hb)
    have n1_ := m_ (Kd.Q_below (by (with_reducible repeat (first | apply Kd.Q_alloc | apply Kd.Q_drewN | apply Kd.Q_drew)); exact HO392.out) hb)
    have n2_ := m_ (Kd.R_below (rN HO397.out) hb)
    have n3_ := m_ (Kd.R_below (rN HO402.out) hb)
    have n4_ := m_ (Kd.R_below (rN HO405.out) hb)
    have n5_ := m_ (Kd.R_below (rN HO410.out) hb)
    have n6_ := m_ (Kd.R_below (rN HO415.out) hb)
    have n7_ := m_ (Kd.R_below (rN HO418.out) hb)
    have n8_ := m_ (Kd.R_below (rN HO423.out) hb)
    have n9_ := m_ (blk_below (g := gb399) (o := .cells #[.slice Ao9 t387.length co9, .slice Ao11 t390.length co11, .int .i64 t393, .bool t394, .slice Ao12 t395.length co12] 33 (0, 0)) (by (with_reducible repeat (first | refine blk_drewN ?_ _ | refine blk_drew ?_ | refine blk_alloc ?_ _)); exact BK399.out) hb)
    have n10_ := m_ (blk_below (g := gb412) (o := .cells #[.slice Ao15 t400.length co15, .slice Ao18 t403.length co18, .int .i64 t406, .bool t407, .slice Ao19 t408.length co19] 33 (0, 0)) (by (with_reducible repeat (first | refine blk_drewN ?_ _ | refine blk_drew ?_ | refine blk_alloc ?_ _)); exact BK412.out) hb)
    have n11_ := m_ (blk_below (g := gb425) (o := .cells #[.slice Ao23 t413.length co23, .slice Ao27 t416.length co27, .int .i64 t419, .bool t420, .slice Ao28 t421.length co28] 33 (0, 0)) (by (with_reducible repeat (first | refine blk_drewN ?_ _ | refine blk_drew ?_ | refine blk_alloc ?_ _)); exact BK425.out) hb)
    have n12_ := m_ (below_step (bN HB.out) hb)
    clear HO389
    clear HO392
    clear HO397
    clear HO402
    clear HO405
    clear HO410
    clear HO415
    clear HO418
    clear HO423
    clear BK399
    clear BK412
    clear BK425
    clear HB
    have HO389 := n0_
    have HO392 := n1_
    have HO397 := n2_
    have HO402 := n3_
    have HO405 := n4_
    have HO410 := n5_
    have HO415 := n6_
    have HO418 := n7_
    have HO423 := n8_
    have BK399 := n9_
    have BK412 := n10_
    have BK425 := n11_
    have HB := n12_
    clear n0_ n1_ n2_ n3_ n4_ n5_ n6_ n7_ n8_ n9_ n10_ n11_ n12_
    (try clear hb)
    (try clear hb2)
    (try clear hk)
    (try clear hi)
    refine hK.out _ _ ⟨(blk_cell BK412.out 0).trans rfl, (blk_cell BK412.out 1).trans rfl, (blk_cell BK412.out 2).trans rfl, (blk_cell BK412.out 3).trans rfl, (blk_cell BK412.out 4).trans rfl, (blk_cell BK425.out 0).trans rfl, (blk_cell BK425.out 1).trans rfl, (blk_cell BK425.out 2).trans rfl, (blk_cell BK425.out 3).trans rfl, (blk_cell BK425.out 4).trans rfl⟩ (fun hHeld => ?_)
    clear hK K
    refine norm_ (a' := ?_) ?_ ?_
    rotate_left
    ·show Act.put _ (some 32) _ = _
     simp only [Act.put, List.setIfInBounds_toArray, List.set_cons_zero, List.set_cons_succ, i64_w, i32_w]
     rfl
    refine pu 3 33 HT_ (h := ?_)
    refine pu 4 34 HT_ (h := ?_)
    refine pv 5 35 HT_ (h := ?_)
    refine pv 6 36 HT_ (h := ?_)
    refine pv 7 37 HT_ (h := ?_)
    refine pu 8 38 HT_ (h := ?_)
    refine pu 9 39 HT_ (h := ?_)
    refine pv 10 40 HT_ (h := ?_)
    refine pv 11 41 HT_ (h := ?_)
    refine pv 12 42 HT_ (h := ?_)
    refine pv 13 43 HT_ (h := ?_)
    refine pv 14 44 HT_ (h := ?_)
    refine pu 15 45 HT_ (h := ?_)
    refine pu 16 46 HT_ (h := ?_)
    refine pv 17 47 HT_ (h := ?_)
    refine pv 18 48 HT_ (h := ?_)
    refine pv 19 49 HT_ (h := ?_)
    refine pu 20 50 HT_ (h := ?_)
    refine done_ (done_of HT_.out (by kernel_rfl)) ?_
    try go_wp2
    go_meet
    case rel => exact ⟨_, (true), (by first | rfl | (simp; done) | (simp [*]; done)), H', ⟨by first | omega | exact Nat.le_refl _⟩, ⟨by (with_reducible repeat (first | apply Kd.R_alloc | apply Kd.R_drewN | apply Kd.R_drew)); exact HO389.out⟩, ⟨by (with_reducible repeat (first | apply Kd.Q_alloc | apply Kd.Q_drewN | apply Kd.Q_drew)); exact HO392.out⟩, ⟨by (with_reducible repeat (first | apply Kd.R_alloc | apply Kd.R_drewN | apply Kd.R_drew)); exact HO397.out⟩, ⟨by (with_reducible repeat (first | apply Kd.R_alloc | apply Kd.R_drewN | apply Kd.R_drew)); exact HO402.out⟩, ⟨Kd.Q_of_R (rN HO405.out)⟩, ⟨by (with_reducible repeat (first | apply Kd.R_alloc | apply Kd.R_drewN | apply Kd.R_drew)); exact HO410.out⟩, ⟨by (with_reducible repeat (first | apply Kd.R_alloc | apply Kd.R_drewN | apply Kd.R_drew)); exact HO415.out⟩, ⟨Kd.Q_of_R (rN HO418.out)⟩, ⟨by (with_reducible repeat (first | apply Kd.R_alloc | apply Kd.R_drewN | apply Kd.R_drew)); exact HO423.out⟩, ⟨by (with_reducible repeat (first | refine blk_drewN ?_ _ | refine blk_drew ?_ | refine blk_alloc ?_ _)); exact BK399.out⟩, ⟨by (with_reducible repeat (first | refine blk_drewN ?_ _ | refine blk_drew ?_ | refine blk_alloc ?_ _)); exact BK412.out⟩, ⟨by (with_reducible repeat (first | refine blk_drewN ?_ _ | refine blk_drew ?_ | refine blk_alloc ?_ _)); exact BK425.out⟩, ⟨by repeat (first | (with_reducible first | exact HB.out | apply below_alloc | apply pw_below_drewN | apply below_drew1 | refine below_set ?_ GE399.out | refine below_set ?_ GE412.out | refine below_set ?_ GE425.out) | exact HB.out)⟩⟩
  case rest =>
   clear HC6
   try clear c1
   try clear c2
   try clear p2
   try clear c3
   try clear c16
   try clear c18
   try clear c20
   try clear c30
   obtain ⟨kq, x50_5, rfl, HA, HJ5, HO_400000, HO_400001, HO_400004, HO_413000, HO_413001, HO_413004, HO_426000, HO_426001, HO_426004, BK399, BK412, BK425, HB⟩ := hcut
   cases kq with
   | zero => exact absurd HA.out (by simp [laws_FnPartSend.j0])
   | succ kj5 =>
    have H := HA.out
    clear HA
    simp only [laws_FnPartSend.j0] at H
    by_cases c53 : x50_5 = true
    ·subst c53
     have H1 : ((laws_skPart.f kj5 t400 t403 t406 t407 t408 t413 t416 t419 t420 t421).bind fun t430 => (if t430 = true then (some (t411 == t424)) else (some false))) = some r := by rw [if_pos rfl] at H; exact H
     clear H
     have H := H1
     clear H1
     replace H := Option.bind_eq_some_iff.mp H
     obtain ⟨t430, A540, H⟩ := H
     replace H : (if t430 = true then (some (t411 == t424)) else (some false)) = some r := H
     have A54 := Aside0.mk A540
     clear A540
     by_cases c55 : t430 = true
     ·subst c55
      have H1 : (some (t411 == t424)) = some r := by rw [if_pos rfl] at H; exact H
      clear H
      have H := H1
      clear H1
      obtain rfl := Option.some.inj H
      have hnb56 := NB412_399.out
      have hnc56 := NB399_412.out
      have hnb57 := NB412_425.out
      have hnc57 := NB425_412.out
      have hcz58_0 : wc.cell? ⟨gb412, 0, none⟩ = some (.slice Ao15 t400.length co15) := (blk_cell BK412.out 0).trans rfl
      have hcz58_1 : wc.cell? ⟨gb412, 1, none⟩ = some (.slice Ao18 t403.length co18) := (blk_cell BK412.out 1).trans rfl
      have hcz58_2 : wc.cell? ⟨gb412, 2, none⟩ = some (.int .i64 t406) := (blk_cell BK412.out 2).trans rfl
      have hcz58_3 : wc.cell? ⟨gb412, 3, none⟩ = some (.bool t407) := (blk_cell BK412.out 3).trans rfl
      have hcz58_4 : wc.cell? ⟨gb412, 4, none⟩ = some (.slice Ao19 t408.length co19) := (blk_cell BK412.out 4).trans rfl
      have hfz58_0 := blk_frozen BK412.out 0
      have hfz58_1 := blk_frozen BK412.out 1
      have hfz58_2 := blk_frozen BK412.out 2
      have hfz58_3 := blk_frozen BK412.out 3
      have hfz58_4 := blk_frozen BK412.out 4
      have hnb59 := NB425_399.out
      have hnc59 := NB399_425.out
      have hcz60_0 : wc.cell? ⟨gb425, 0, none⟩ = some (.slice Ao23 t413.length co23) := (blk_cell BK425.out 0).trans rfl
      have hcz60_1 : wc.cell? ⟨gb425, 1, none⟩ = some (.slice Ao27 t416.length co27) := (blk_cell BK425.out 1).trans rfl
      have hcz60_2 : wc.cell? ⟨gb425, 2, none⟩ = some (.int .i64 t419) := (blk_cell BK425.out 2).trans rfl
      have hcz60_3 : wc.cell? ⟨gb425, 3, none⟩ = some (.bool t420) := (blk_cell BK425.out 3).trans rfl
      have hcz60_4 : wc.cell? ⟨gb425, 4, none⟩ = some (.slice Ao28 t421.length co28) := (blk_cell BK425.out 4).trans rfl
      have hfz60_0 := blk_frozen BK425.out 0
      have hfz60_1 := blk_frozen BK425.out 1
      have hfz60_2 := blk_frozen BK425.out 2
      have hfz60_3 := blk_frozen BK425.out 3
      have hfz60_4 := blk_frozen BK425.out 4
      go_wp2_with (first | ((with_reducible refine gate_callee (f := 16) rfl ?_); refine goesL_ (some 53) rfl rfl Try.func16 (by kernel_rfl) rfl #[.agg #[.slice Ao15 t400.length co15, .slice Ao18 t403.length co18, .int .i64 t406, .bool t407, .slice Ao19 t408.length co19], .agg #[.slice Ao23 t413.length co23, .slice Ao27 t416.length co27, .int .i64 t419, .bool t420, .slice Ao28 t421.length co28]] rfl gl_ ?_; (with_reducible refine (laws_skPart.calls kj5 _ _ t400 _ _ t403 t406 t407 _ _ t408 _ _ t413 _ _ t416 t419 t420 _ _ t421 true _ ?side1 ?side2 ?side3 ?side4 ?side5 ?side6 ?side7 ?side8 ?side9 ?side10 ?side11 ?side12 A54.out).mono ?_); (case side1 => exact cN (Kd.R_reads' HO_413000.out).2.2); (case side2 => exact (Kd.R_reads' HO_413000.out).2.1); (case side3 => exact cN (Kd.Q_reads' HO_413001.out).2.2); (case side4 => exact (Kd.Q_reads' HO_413001.out).2.1); (case side5 => exact cN (Kd.R_reads' HO_413004.out).2.2); (case side6 => exact (Kd.R_reads' HO_413004.out).2.1); (case side7 => exact cN (Kd.R_reads' HO_426000.out).2.2); (case side8 => exact (Kd.R_reads' HO_426000.out).2.1); (case side9 => exact cN (Kd.Q_reads' HO_426001.out).2.2); (case side10 => exact (Kd.Q_reads' HO_426001.out).2.1); (case side11 => exact cN (Kd.R_reads' HO_426004.out).2.2); (case side12 => exact (Kd.R_reads' HO_426004.out).2.1); rintro e w61 ⟨rfl, hb⟩; refine ⟨_, rfl, ?_⟩; have n0_ := m_ (Kd.R_below (rN HO_400000.out) hb); have n1_ := m_ (Kd.Q_below (by (with_reducible repeat (first | apply Kd.Q_alloc | apply Kd.Q_drewN | apply Kd.Q_drew)); exact HO_400001.out) hb); have n2_ := m_ (Kd.R_below (rN HO_400004.out) hb); have n3_ := m_ (Kd.R_below (rN HO_413000.out) hb); have n4_ := m_ (Kd.Q_below (by (with_reducible repeat (first | apply Kd.Q_alloc | apply Kd.Q_drewN | apply Kd.Q_drew)); exact HO_413001.out) hb); have n5_ := m_ (Kd.R_below (rN HO_413004.out) hb); have n6_ := m_ (Kd.R_below (rN HO_426000.out) hb); have n7_ := m_ (Kd.Q_below (by (with_reducible repeat (first | apply Kd.Q_alloc | apply Kd.Q_drewN | apply Kd.Q_drew)); exact HO_426001.out) hb); have n8_ := m_ (Kd.R_below (rN HO_426004.out) hb); have n9_ := m_ (blk_below (g := gb399) (o := .cells #[.slice Ao9 t387.length co9, .slice Ao11 t390.length co11, .int .i64 t393, .bool t394, .slice Ao12 t395.length co12] 33 (0, 0)) (by (with_reducible repeat (first | refine blk_drewN ?_ _ | refine blk_drew ?_ | refine blk_alloc ?_ _)); exact BK399.out) hb); have n10_ := m_ (blk_below (g := gb412) (o := .cells #[.slice Ao15 t400.length co15, .slice Ao18 t403.length co18, .int .i64 t406, .bool t407, .slice Ao19 t408.length co19] 33 (0, 0)) (by (with_reducible repeat (first | refine blk_drewN ?_ _ | refine blk_drew ?_ | refine blk_alloc ?_ _)); exact BK412.out) hb); have n11_ := m_ (blk_below (g := gb425) (o := .cells #[.slice Ao23 t413.length co23, .slice Ao27 t416.length co27, .int .i64 t419, .bool t420, .slice Ao28 t421.length co28] 33 (0, 0)) (by (with_reducible repeat (first | refine blk_drewN ?_ _ | refine blk_drew ?_ | refine blk_alloc ?_ _)); exact BK425.out) hb); have n12_ := m_ (below_step (bN HB.out) hb); clear HO_400000; clear HO_400001; clear HO_400004; clear HO_413000; clear HO_413001; clear HO_413004; clear HO_426000; clear HO_426001; clear HO_426004; clear BK399; clear BK412; clear BK425; clear HB; have HO_400000 := n0_; have HO_400001 := n1_; have HO_400004 := n2_; have HO_413000 := n3_; have HO_413001 := n4_; have HO_413004 := n5_; have HO_426000 := n6_; have HO_426001 := n7_; have HO_426004 := n8_; have BK399 := n9_; have BK412 := n10_; have BK425 := n11_; have HB := n12_; clear n0_ n1_ n2_ n3_ n4_ n5_ n6_ n7_ n8_ n9_ n10_ n11_ n12_; (try clear hb); (try clear hb2); (try clear hk); (try clear hi)))
      go_ret
      exact ⟨by first | rfl | (simp [errW_none, errW_some] <;> rfl) | (simp [*, errW_none, errW_some] <;> rfl), by repeat (first | (with_reducible first | exact HB.out | apply below_alloc | apply pw_below_drewN | apply below_drew1 | refine below_set ?_ GE399.out | refine below_set ?_ GE412.out | refine below_set ?_ GE425.out) | exact HB.out)⟩
     ·replace c55 := Bool.eq_false_iff.mpr c55
      subst c55
      have H1 : (some false) = some r := by rw [if_neg (show ¬ (false = true) by decide)] at H; exact H
      clear H
      have H := H1
      clear H1
      obtain rfl := Option.some.inj H
      have hnb62 := NB412_399.out
      have hnc62 := NB399_412.out
      have hnb63 := NB412_425.out
      have hnc63 := NB425_412.out
      have hcz64_0 : wc.cell? ⟨gb412, 0, none⟩ = some (.slice Ao15 t400.length co15) := (blk_cell BK412.out 0).trans rfl
      have hcz64_1 : wc.cell? ⟨gb412, 1, none⟩ = some (.slice Ao18 t403.length co18) := (blk_cell BK412.out 1).trans rfl
      have hcz64_2 : wc.cell? ⟨gb412, 2, none⟩ = some (.int .i64 t406) := (blk_cell BK412.out 2).trans rfl
      have hcz64_3 : wc.cell? ⟨gb412, 3, none⟩ = some (.bool t407) := (blk_cell BK412.out 3).trans rfl
      have hcz64_4 : wc.cell? ⟨gb412, 4, none⟩ = some (.slice Ao19 t408.length co19) := (blk_cell BK412.out 4).trans rfl
      have hfz64_0 := blk_frozen BK412.out 0
      have hfz64_1 := blk_frozen BK412.out 1
      have hfz64_2 := blk_frozen BK412.out 2
      have hfz64_3 := blk_frozen BK412.out 3
      have hfz64_4 := blk_frozen BK412.out 4
      have hnb65 := NB425_399.out
      have hnc65 := NB399_425.out
      have hcz66_0 : wc.cell? ⟨gb425, 0, none⟩ = some (.slice Ao23 t413.length co23) := (blk_cell BK425.out 0).trans rfl
      have hcz66_1 : wc.cell? ⟨gb425, 1, none⟩ = some (.slice Ao27 t416.length co27) := (blk_cell BK425.out 1).trans rfl
      have hcz66_2 : wc.cell? ⟨gb425, 2, none⟩ = some (.int .i64 t419) := (blk_cell BK425.out 2).trans rfl
      have hcz66_3 : wc.cell? ⟨gb425, 3, none⟩ = some (.bool t420) := (blk_cell BK425.out 3).trans rfl
      have hcz66_4 : wc.cell? ⟨gb425, 4, none⟩ = some (.slice Ao28 t421.length co28) := (blk_cell BK425.out 4).trans rfl
      have hfz66_0 := blk_frozen BK425.out 0
      have hfz66_1 := blk_frozen BK425.out 1
      have hfz66_2 := blk_frozen BK425.out 2
      have hfz66_3 := blk_frozen BK425.out 3
      have hfz66_4 := blk_frozen BK425.out 4
      go_wp2_with (first | ((with_reducible refine gate_callee (f := 16) rfl ?_); refine goesL_ (some 53) rfl rfl Try.func16 (by kernel_rfl) rfl #[.agg #[.slice Ao15 t400.length co15, .slice Ao18 t403.length co18, .int .i64 t406, .bool t407, .slice Ao19 t408.length co19], .agg #[.slice Ao23 t413.length co23, .slice Ao27 t416.length co27, .int .i64 t419, .bool t420, .slice Ao28 t421.length co28]] rfl gl_ ?_; (with_reducible refine (laws_skPart.calls kj5 _ _ t400 _ _ t403 t406 t407 _ _ t408 _ _ t413 _ _ t416 t419 t420 _ _ t421 false _ ?side1 ?side2 ?side3 ?side4 ?side5 ?side6 ?side7 ?side8 ?side9 ?side10 ?side11 ?side12 A54.out).mono ?_); (case side1 => exact cN (Kd.R_reads' HO_413000.out).2.2); (case side2 => exact (Kd.R_reads' HO_413000.out).2.1); (case side3 => exact cN (Kd.Q_reads' HO_413001.out).2.2); (case side4 => exact (Kd.Q_reads' HO_413001.out).2.1); (case side5 => exact cN (Kd.R_reads' HO_413004.out).2.2); (case side6 => exact (Kd.R_reads' HO_413004.out).2.1); (case side7 => exact cN (Kd.R_reads' HO_426000.out).2.2); (case side8 => exact (Kd.R_reads' HO_426000.out).2.1); (case side9 => exact cN (Kd.Q_reads' HO_426001.out).2.2); (case side10 => exact (Kd.Q_reads' HO_426001.out).2.1); (case side11 => exact cN (Kd.R_reads' HO_426004.out).2.2); (case side12 => exact (Kd.R_reads' HO_426004.out).2.1); rintro e w67 ⟨rfl, hb⟩; refine ⟨_, rfl, ?_⟩; have n0_ := m_ (Kd.R_below (rN HO_400000.out) hb); have n1_ := m_ (Kd.Q_below (by (with_reducible repeat (first | apply Kd.Q_alloc | apply Kd.Q_drewN | apply Kd.Q_drew)); exact HO_400001.out) hb); have n2_ := m_ (Kd.R_below (rN HO_400004.out) hb); have n3_ := m_ (Kd.R_below (rN HO_413000.out) hb); have n4_ := m_ (Kd.Q_below (by (with_reducible repeat (first | apply Kd.Q_alloc | apply Kd.Q_drewN | apply Kd.Q_drew)); exact HO_413001.out) hb); have n5_ := m_ (Kd.R_below (rN HO_413004.out) hb); have n6_ := m_ (Kd.R_below (rN HO_426000.out) hb); have n7_ := m_ (Kd.Q_below (by (with_reducible repeat (first | apply Kd.Q_alloc | apply Kd.Q_drewN | apply Kd.Q_drew)); exact HO_426001.out) hb); have n8_ := m_ (Kd.R_below (rN HO_426004.out) hb); have n9_ := m_ (blk_below (g := gb399) (o := .cells #[.slice Ao9 t387.length co9, .slice Ao11 t390.length co11, .int .i64 t393, .bool t394, .slice Ao12 t395.length co12] 33 (0, 0)) (by (with_reducible repeat (first | refine blk_drewN ?_ _ | refine blk_drew ?_ | refine blk_alloc ?_ _)); exact BK399.out) hb); have n10_ := m_ (blk_below (g := gb412) (o := .cells #[.slice Ao15 t400.length co15, .slice Ao18 t403.length co18, .int .i64 t406, .bool t407, .slice Ao19 t408.length co19] 33 (0, 0)) (by (with_reducible repeat (first | refine blk_drewN ?_ _ | refine blk_drew ?_ | refine blk_alloc ?_ _)); exact BK412.out) hb); have n11_ := m_ (blk_below (g := gb425) (o := .cells #[.slice Ao23 t413.length co23, .slice Ao27 t416.length co27, .int .i64 t419, .bool t420, .slice Ao28 t421.length co28] 33 (0, 0)) (by (with_reducible repeat (first | refine blk_drewN ?_ _ | refine blk_drew ?_ | refine blk_alloc ?_ _)); exact BK425.out) hb); have n12_ := m_ (below_step (bN HB.out) hb); clear HO_400000; clear HO_400001; clear HO_400004; clear HO_413000; clear HO_413001; clear HO_413004; clear HO_426000; clear HO_426001; clear HO_426004; clear BK399; clear BK412; clear BK425; clear HB; have HO_400000 := n0_; have HO_400001 := n1_; have HO_400004 := n2_; have HO_413000 := n3_; have HO_413001 := n4_; have HO_413004 := n5_; have HO_426000 := n6_; have HO_426001 := n7_; have HO_426004 := n8_; have BK399 := n9_; have BK412 := n10_; have BK425 := n11_; have HB := n12_; clear n0_ n1_ n2_ n3_ n4_ n5_ n6_ n7_ n8_ n9_ n10_ n11_ n12_; (try clear hb); (try clear hb2); (try clear hk); (try clear hi)))
      go_ret
      exact ⟨by first | rfl | (simp [errW_none, errW_some] <;> rfl) | (simp [*, errW_none, errW_some] <;> rfl), by repeat (first | (with_reducible first | exact HB.out | apply below_alloc | apply pw_below_drewN | apply below_drew1 | refine below_set ?_ GE399.out | refine below_set ?_ GE412.out | refine below_set ?_ GE425.out) | exact HB.out)⟩
    ·replace c53 := Bool.eq_false_iff.mpr c53
     subst c53
     have H1 : (if t411 = true then (if (t408.length : Int) = (wrap64 ((t395.length : Int) + 1)) then (if 0 ≤ (t395.length : Int) then (if (t395.length : Int) < (t408.length : Int) then (if (rd t408 (t395.length : Int)) = t398 then (if (t395.length : Int) ≤ (t408.length : Int) then ((laws_skInts.f kj5 (t408.take ((t395.length : Int) : Int).toNat) t395).bind fun t436 => (if t436 = true then ((laws_skInts.f kj5 t403 t390).bind fun t437 => (if t437 = true then ((impl_PartOk.f kj5 t400 t403 t406 t407 t408).bind fun t438 => (some t438)) else (some false))) else (some false))) else (none)) else (some false)) else (none)) else (none)) else (some false)) else ((laws_skPart.f kj5 t400 t403 t406 t407 t408 t387 t390 t393 t394 t395).bind fun t439 => (some t439))) = some r := by rw [if_neg (show ¬ (false = true) by decide)] at H; exact H
     clear H
     have H := H1
     clear H1
     by_cases c68 : t411 = true
     ·subst c68
      have H1 : (if (t408.length : Int) = (wrap64 ((t395.length : Int) + 1)) then (if 0 ≤ (t395.length : Int) then (if (t395.length : Int) < (t408.length : Int) then (if (rd t408 (t395.length : Int)) = t398 then (if (t395.length : Int) ≤ (t408.length : Int) then ((laws_skInts.f kj5 (t408.take ((t395.length : Int) : Int).toNat) t395).bind fun t436 => (if t436 = true then ((laws_skInts.f kj5 t403 t390).bind fun t437 => (if t437 = true then ((impl_PartOk.f kj5 t400 t403 t406 t407 t408).bind fun t438 => (some t438)) else (some false))) else (some false))) else (none)) else (some false)) else (none)) else (none)) else (some false)) = some r := by rw [if_pos rfl] at H; exact H
      clear H
      have H := H1
      clear H1
      by_cases c69 : (t408.length : Int) = (wrap64 ((t395.length : Int) + 1))
      ·rw [if_pos c69] at H
       have c69b0 : ((t408.length : Int) == (wrap64 ((t395.length : Int) + 1))) = true := beq_iff_eq.mpr c69
       have c69b1 : ((t408.length : Int) != (wrap64 ((t395.length : Int) + 1))) = false := bne_eq_false_iff_eq.mpr c69
       clear c69
       by_cases c70 : 0 ≤ (t395.length : Int)
       ·rw [if_pos c70] at H
        have c70b0 : decide (0 ≤ (t395.length : Int)) = true := decide_eq_true c70
        have c70b1 : decide (0 ≤ t395.length) = true := decide_eq_true (by omega)
        clear c70
        by_cases c71 : (t395.length : Int) < (t408.length : Int)
        ·rw [if_pos c71] at H
         have c71b0 : decide ((t395.length : Int) < (t408.length : Int)) = true := decide_eq_true c71
         have c71b1 : decide (t395.length < t408.length) = true := decide_eq_true (Int.ofNat_lt.mp c71)
         clear c71
         by_cases c72 : (rd t408 (t395.length : Int)) = t398
         ·rw [if_pos c72] at H
          have c72b0 : ((rd t408 (t395.length : Int)) == t398) = true := beq_iff_eq.mpr c72
          have c72b1 : ((rd t408 (t395.length : Int)) != t398) = false := bne_eq_false_iff_eq.mpr c72
          clear c72
          have c73b0 := eq_true (of_decide_eq_true (by first | (with_reducible assumption) | assumption) : 0 ≤ (t395.length : Int))
          by_cases c74 : (t395.length : Int) ≤ (t408.length : Int)
          ·rw [if_pos c74] at H
           have c74b0 := eq_true c74
           have c74b1 : decide ((t395.length : Int) ≤ (t408.length : Int)) = true := decide_eq_true c74
           clear c74
           obtain ⟨y432, hy432⟩ : ∃ y_ : List Int, y_ = (t408.take ((t395.length : Int) : Int).toNat) := ⟨_, rfl⟩
           replace H : ((laws_skInts.f kj5 y432 t395).bind fun t436 => (if t436 = true then ((laws_skInts.f kj5 t403 t390).bind fun t437 => (if t437 = true then ((impl_PartOk.f kj5 t400 t403 t406 t407 t408).bind fun t438 => (some t438)) else (some false))) else (some false))) = some r := by first | (rw [hy432]; with_reducible exact H) | (have H2_ := (Option.bind_some _ _).symm.trans H; rw [hy432]; with_reducible exact H2_) | (have H2_ := (Option.bind_some _ _).symm.trans H; with_reducible exact H2_) | with_reducible exact H | (rw [hy432]; exact H) | exact H
           have Ny432 := Aside0.mk hy432
           clear hy432
           replace H := Option.bind_eq_some_iff.mp H
           obtain ⟨t436, A750, H⟩ := H
           replace H : (if t436 = true then ((laws_skInts.f kj5 t403 t390).bind fun t437 => (if t437 = true then ((impl_PartOk.f kj5 t400 t403 t406 t407 t408).bind fun t438 => (some t438)) else (some false))) else (some false)) = some r := H
           have A75 := Aside0.mk A750
           clear A750
           by_cases c76 : t436 = true
           ·subst c76
            have H1 : ((laws_skInts.f kj5 t403 t390).bind fun t437 => (if t437 = true then ((impl_PartOk.f kj5 t400 t403 t406 t407 t408).bind fun t438 => (some t438)) else (some false))) = some r := by rw [if_pos rfl] at H; exact H
            clear H
            have H := H1
            clear H1
            replace H := Option.bind_eq_some_iff.mp H
            obtain ⟨t437, A770, H⟩ := H
            replace H : (if t437 = true then ((impl_PartOk.f kj5 t400 t403 t406 t407 t408).bind fun t438 => (some t438)) else (some false)) = some r := H
            have A77 := Aside0.mk A770
            clear A770
            by_cases c78 : t437 = true
            ·subst c78
             have H1 : ((impl_PartOk.f kj5 t400 t403 t406 t407 t408).bind fun t438 => (some t438)) = some r := by rw [if_pos rfl] at H; exact H
             clear H
             have H := H1
             clear H1
             replace H := Option.bind_eq_some_iff.mp H
             obtain ⟨t438, A790, H⟩ := H
             replace H : (some t438) = some r := H
             have A79 := Aside0.mk A790
             clear A790
             obtain rfl := Option.some.inj H
             have hnb80 := NB399_412.out
             have hnc80 := NB412_399.out
             have hnb81 := NB399_425.out
             have hnc81 := NB425_399.out
             have hcz82_0 : wc.cell? ⟨gb399, 0, none⟩ = some (.slice Ao9 t387.length co9) := (blk_cell BK399.out 0).trans rfl
             have hcz82_1 : wc.cell? ⟨gb399, 1, none⟩ = some (.slice Ao11 t390.length co11) := (blk_cell BK399.out 1).trans rfl
             have hcz82_2 : wc.cell? ⟨gb399, 2, none⟩ = some (.int .i64 t393) := (blk_cell BK399.out 2).trans rfl
             have hcz82_3 : wc.cell? ⟨gb399, 3, none⟩ = some (.bool t394) := (blk_cell BK399.out 3).trans rfl
             have hcz82_4 : wc.cell? ⟨gb399, 4, none⟩ = some (.slice Ao12 t395.length co12) := (blk_cell BK399.out 4).trans rfl
             have hfz82_0 := blk_frozen BK399.out 0
             have hfz82_1 := blk_frozen BK399.out 1
             have hfz82_2 := blk_frozen BK399.out 2
             have hfz82_3 := blk_frozen BK399.out 3
             have hfz82_4 := blk_frozen BK399.out 4
             try go_wp2
             have n0_ := m_ (Kd.R_drew HO_400000.out)
             have n1_ := m_ (Kd.Q_drew HO_400001.out)
             have n2_ := m_ (Kd.R_drew HO_400004.out)
             have n3_ := m_ (Kd.R_drew HO_413000.out)
             have n4_ := m_ (Kd.Q_drew HO_413001.out)
             have n5_ := m_ (Kd.R_drew HO_413004.out)
             have n6_ := m_ (Kd.R_drew HO_426000.out)
             have n7_ := m_ (Kd.Q_drew HO_426001.out)
             have n8_ := m_ (Kd.R_drew HO_426004.out)
             have n9_ := m_ (blk_drew BK399.out)
             have n10_ := m_ (blk_drew BK412.out)
             have n11_ := m_ (blk_drew BK425.out)
             have n12_ := m_ (below_drew1 HB.out)
             clear HO_400000
             clear HO_400001
             clear HO_400004
             clear HO_413000
             clear HO_413001
             clear HO_413004
             clear HO_426000
             clear HO_426001
             clear HO_426004
             clear BK399
             clear BK412
             clear BK425
             clear HB
             have HO_400000 := n0_
             have HO_400001 := n1_
             have HO_400004 := n2_
             have HO_413000 := n3_
             have HO_413001 := n4_
             have HO_413004 := n5_
             have HO_426000 := n6_
             have HO_426001 := n7_
             have HO_426004 := n8_
             have BK399 := n9_
             have BK412 := n10_
             have BK425 := n11_
             have HB := n12_
             clear n0_ n1_ n2_ n3_ n4_ n5_ n6_ n7_ n8_ n9_ n10_ n11_ n12_
             have p431 : 0 ≤ ((t395.length : Int) : Int) := of_decide_eq_true (by first | (with_reducible assumption) | assumption)
             have q431 : (t395.length : Int) < (t408.length : Int) := of_decide_eq_true (by first | (with_reducible assumption) | assumption)
             obtain ⟨ad431, e431, hx431_0⟩ := Kd.at_int (Kd.R_reads' HO_413004.out).2.2 (t395.length : Int) p431 q431
             cases e431
             (try simp only [Go.IntWalk.toNatUp] at hx431_0)
             replace p431 := eq_true p431
             replace q431 := eq_true q431
             have q84 : ((t395.length : Int) : Int) ≤ ((t408.length : Int) : Int) := of_decide_eq_true (by first | (with_reducible assumption) | assumption)
             obtain ⟨i084, hi084, _, hsz84, _⟩ := info_parts info3
             have hroom84 : t408.length ≤ co19 := (Kd.R_reads' HO_413004.out).2.1
             have hC84 : Kd.C (Kd.int .i64) _ (some ad431) t408.length t408 := (Kd.R_reads' HO_413004.out).2.2
             have hcut84 := cut_to (P := Try.prog) 31 3 .i64 Try.underlying31 hi084 (some ad431) t408.length co19 (t395.length : Int) (of_decide_eq_true (by first | (with_reducible assumption) | assumption)) q84 hroom84
             have hr84 := Kd.C_take (m := ((t395.length : Int) : Int).toNat) hC84 (by omega)
             have hy84 : y432.length = ((t395.length : Int) : Int).toNat := (by rw [Ny432.out, List.length_take]; omega)
             rw [← Ny432.out] at hr84
             rw [← hy84] at hcut84
             have HR435 := Aside0.mk hr84
             have HC435 := m_ (show y432.length ≤ co19 from by omega)
             clear hr84 hC84 hroom84 hi084 hsz84
             have KY84 := Aside0.mk hy84
             clear hy84
             have KL84 := m_ (show ((t395.length : Int) : Int).toNat ≤ t408.length from by omega)
             replace q84 := eq_true q84
             refine start_ (n := 36) (S := fun w' => w'.cell? ⟨gb412, 0, none⟩ = some (.slice Ao15 t400.length co15) ∧ w'.cell? ⟨gb412, 1, none⟩ = some (.slice Ao18 t403.length co18) ∧ w'.cell? ⟨gb412, 2, none⟩ = some (.int .i64 t406) ∧ w'.cell? ⟨gb412, 3, none⟩ = some (.bool t407) ∧ w'.cell? ⟨gb412, 4, none⟩ = some (.slice (some ad431) t408.length co19) ∧ w'.cell? ⟨gb399, 0, none⟩ = some (.slice Ao9 t387.length co9) ∧ w'.cell? ⟨gb399, 1, none⟩ = some (.slice Ao11 t390.length co11) ∧ w'.cell? ⟨gb399, 2, none⟩ = some (.int .i64 t393) ∧ w'.cell? ⟨gb399, 3, none⟩ = some (.bool t394) ∧ w'.cell? ⟨gb399, 4, none⟩ = some (.slice Ao12 t395.length co12) ∧ w'.cell? (ad431.add t395.length) = some (.int .i64 (rd t408 (t395.length : Int)))) (ds := []) #[false, false, false, false, false, false, false, false, false, false, false, false, false, false, false, false, false, false, false, false, false, false, false, false, false, false, false, false, false, false, false, false, false, false, false, false] (by kernel_rfl) rfl rfl ⟨(blk_cell BK412.out 0).trans rfl, (blk_cell BK412.out 1).trans rfl, (blk_cell BK412.out 2).trans rfl, (blk_cell BK412.out 3).trans rfl, (blk_cell BK412.out 4).trans rfl, (blk_cell BK399.out 0).trans rfl, (blk_cell BK399.out 1).trans rfl, (blk_cell BK399.out 2).trans rfl, (blk_cell BK399.out 3).trans rfl, (blk_cell BK399.out 4).trans rfl, hx431_0⟩ (fun hHeld => ?_); refine with_tabW laws_FnPartSend.tab11 laws_FnPartSend.bits11 (fun HT_ HW_ => ?_)
             generalize wc.drew = w83 at HO_400000 HO_400001 HO_400004 HO_413000 HO_413001 HO_413004 HO_426000 HO_426001 HO_426004 BK399 BK412 BK425 HB HR435 hx431_0 hHeld ⊢
             refine pu 0 67 HT_ (h := ?_)
             refine pu 3 70 HT_ (h := ?_)
             refine pu 4 71 HT_ (h := ?_)
             refine take_ (i := 1) (N := some 68) (v := ?_) (a' := ?_) #[true, true, false, true, true, false, false, false, false, false, false, false, false, false, false, false, false, false, false, false, false, false, false, false, false, false, false, false, false, false, false, false, false, false, false, false] rfl rfl (take_ofW HT_.out HW_.out (by kernel_rfl)) (fun _ _ _ h => h) (Or.inl ⟨by rfl, ?_⟩) hHeld ?_ ?_
             rotate_left
             ·rintro w' ⟨s0, s1, s2, s3, s4, s5, s6, s7, s8, s9, s10⟩
              go_simp
              with_reducible rfl
             rotate_left
             ·simp only [Act.put, List.setIfInBounds_toArray, List.set_cons_zero, List.set_cons_succ, i64_w, i32_w]
              rfl
             refine pu 2 69 HT_ (h := ?_)
             refine pu 5 72 HT_ (h := ?_)
             refine pu 6 73 HT_ (h := ?_)
             refine pu 7 74 HT_ (h := ?_)
             refine pu 9 76 HT_ (h := ?_)
             refine pu 12 79 HT_ (h := ?_)
             refine take_ (i := 8) (N := some 75) (v := ?_) (a' := ?_) #[true, true, true, true, true, true, true, true, true, true, false, false, true, false, false, false, false, false, false, false, false, false, false, false, false, false, false, false, false, false, false, false, false, false, false, false] rfl rfl (take_ofW HT_.out HW_.out (by kernel_rfl)) (fun _ _ _ h => h) (Or.inl ⟨by rfl, ?_⟩) hHeld ?_ ?_
             rotate_left
             ·rintro w' ⟨s0, s1, s2, s3, s4, s5, s6, s7, s8, s9, s10⟩
              go_simp
              with_reducible rfl
             rotate_left
             ·simp only [Act.put, List.setIfInBounds_toArray, List.set_cons_zero, List.set_cons_succ, i64_w, i32_w]
              rfl
             refine pu 10 77 HT_ (h := ?_)
             refine take_ (i := 11) (N := some 78) (v := ?_) (a' := ?_) #[true, true, true, true, true, true, true, true, true, true, true, true, true, false, false, false, false, false, false, false, false, false, false, false, false, false, false, false, false, false, false, false, false, false, false, false] rfl rfl (take_ofW HT_.out HW_.out (by kernel_rfl)) (fun _ _ _ h => h) (Or.inl ⟨by rfl, ?_⟩) hHeld ?_ ?_
             rotate_left
             ·rintro w' ⟨s0, s1, s2, s3, s4, s5, s6, s7, s8, s9, s10⟩
              go_simp
              with_reducible rfl
             rotate_left
             ·simp only [Act.put, List.setIfInBounds_toArray, List.set_cons_zero, List.set_cons_succ, i64_w, i32_w]
              rfl
             refine pu 13 80 HT_ (h := ?_)
             refine pu 14 81 HT_ (h := ?_)
             refine pu 15 82 HT_ (h := ?_)
             refine pu 16 83 HT_ (h := ?_)
             refine pu 18 85 HT_ (h := ?_)
             refine pu 20 87 HT_ (h := ?_)
             refine take_ (i := 17) (N := some 84) (v := ?_) (a' := ?_) #[true, true, true, true, true, true, true, true, true, true, true, true, true, true, true, true, true, true, true, false, true, false, false, false, false, false, false, false, false, false, false, false, false, false, false, false] rfl rfl (take_ofW HT_.out HW_.out (by kernel_rfl)) (fun _ _ _ h => h) (Or.inl ⟨by rfl, ?_⟩) hHeld ?_ ?_
             rotate_left
             ·rintro w' ⟨s0, s1, s2, s3, s4, s5, s6, s7, s8, s9, s10⟩
              go_simp
              with_reducible rfl
             rotate_left
             ·simp only [Act.put, List.setIfInBounds_toArray, List.set_cons_zero, List.set_cons_succ, i64_w, i32_w]
              rfl
             refine pu 19 86 HT_ (h := ?_)
             refine take_ (i := 21) (N := some 88) (v := ?_) (a' := ?_) #[true, true, true, true, true, true, true, true, true, true, true, true, true, true, true, true, true, true, true, true, true, true, false, false, false, false, false, false, false, false, false, false, false, false, false, false] rfl rfl (take_ofW HT_.out HW_.out (by kernel_rfl)) (fun _ _ _ h => h) (Or.inl ⟨by rfl, ?_⟩) hHeld ?_ ?_
             rotate_left
             ·rintro w' ⟨s0, s1, s2, s3, s4, s5, s6, s7, s8, s9, s10⟩
              go_simp
              with_reducible rfl
             rotate_left
             ·simp only [Act.put, List.setIfInBounds_toArray, List.set_cons_zero, List.set_cons_succ, i64_w, i32_w]
              rfl
             refine one_ (i := 22) (N := some 89) #[true, true, true, true, true, true, true, true, true, true, true, true, true, true, true, true, true, true, true, true, true, true, true, false, false, false, false, false, false, false, false, false, false, false, false, false] rfl rfl (one_of HT_.out (by kernel_rfl)) (by decide) (fun K hK => ?_)
             refine goes_ Try.func29 (by kernel_rfl) rfl #[.slice (some ad431) y432.length co19, .slice Ao12 t395.length co12] (by rfl) rfl rfl gl_ ?_
             with_reducible refine (laws_skInts.calls kj5 _ _ y432 _ _ t395 true _ ?side1 ?side2 ?side3 ?side4 A75.out).mono ?_
             (case side1 => repeat (first | exact (by repeat (first | (with_reducible exact HR435.out) | (with_reducible refine Kd.C_alloc ?_ _) | (with_reducible refine Kd.C_drewN ?_ _) | (with_reducible refine Kd.C_drew ?_) | exact HR435.out)) | (with_reducible refine Kd.C_alloc ?_ _) | (with_reducible refine Kd.C_drewN ?_ _) | (with_reducible refine Kd.C_drew ?_)))
             (case side2 => exact HC435.out)
             (case side3 => exact cN (Kd.R_reads' HO_400004.out).2.2)
             (case side4 => exact (Kd.R_reads' HO_400004.out).2.1)
             rintro e w' ⟨rfl, ⟨nd, rfl⟩⟩
             refine ⟨_, rfl, ?_⟩
             refine hK.out _ _ ⟨(blk_cell BK412.out 0).trans rfl, (blk_cell BK412.out 1).trans rfl, (blk_cell BK412.out 2).trans rfl, (blk_cell BK412.out 3).trans rfl, (blk_cell BK412.out 4).trans rfl, (blk_cell BK399.out 0).trans rfl, (blk_cell BK399.out 1).trans rfl, (blk_cell BK399.out 2).trans rfl, (blk_cell BK399.out 3).trans rfl, (blk_cell BK399.out 4).trans rfl, hHeld.2.2.2.2.2.2.2.2.2.2⟩ (fun hHeld => ?_)
             clear hK K
             refine norm_ (a' := ?_) ?_ ?_
             rotate_left
             ·show Act.put _ (some 89) _ = _
              simp only [Act.put, List.setIfInBounds_toArray, List.set_cons_zero, List.set_cons_succ, i64_w, i32_w]
              rfl
             refine pu 23 90 HT_ (h := ?_)
             refine pu 24 91 HT_ (h := ?_)
             refine pu 25 92 HT_ (h := ?_)
             refine pu 27 94 HT_ (h := ?_)
             refine take_ (i := 26) (N := some 93) (v := ?_) (a' := ?_) #[true, true, true, true, true, true, true, true, true, true, true, true, true, true, true, true, true, true, true, true, true, true, true, true, true, true, true, true, false, false, false, false, false, false, false, false] rfl rfl (take_ofW HT_.out HW_.out (by kernel_rfl)) (fun _ _ _ h => h) (Or.inl ⟨by rfl, ?_⟩) hHeld ?_ ?_
             rotate_left
             ·rintro w' ⟨s0, s1, s2, s3, s4, s5, s6, s7, s8, s9, s10⟩
              go_simp
              with_reducible rfl
             rotate_left
             ·simp only [Act.put, List.setIfInBounds_toArray, List.set_cons_zero, List.set_cons_succ, i64_w, i32_w]
              rfl
             refine take_ (i := 28) (N := some 95) (v := ?_) (a' := ?_) #[true, true, true, true, true, true, true, true, true, true, true, true, true, true, true, true, true, true, true, true, true, true, true, true, true, true, true, true, true, false, false, false, false, false, false, false] rfl rfl (take_ofW HT_.out HW_.out (by kernel_rfl)) (fun _ _ _ h => h) (Or.inl ⟨by rfl, ?_⟩) hHeld ?_ ?_
             rotate_left
             ·rintro w' ⟨s0, s1, s2, s3, s4, s5, s6, s7, s8, s9, s10⟩
              go_simp
              with_reducible rfl
             rotate_left
             ·simp only [Act.put, List.setIfInBounds_toArray, List.set_cons_zero, List.set_cons_succ, i64_w, i32_w]
              rfl
             refine one_ (i := 29) (N := some 96) #[true, true, true, true, true, true, true, true, true, true, true, true, true, true, true, true, true, true, true, true, true, true, true, true, true, true, true, true, true, true, false, false, false, false, false, false] rfl rfl (one_of HT_.out (by kernel_rfl)) (by decide) (fun K hK => ?_)
             refine goes_ Try.func29 (by kernel_rfl) rfl #[.slice Ao18 t403.length co18, .slice Ao11 t390.length co11] (by rfl) rfl rfl gl_ ?_
             with_reducible refine (laws_skInts.calls kj5 _ _ t403 _ _ t390 true _ ?side1 ?side2 ?side3 ?side4 A77.out).mono ?_
             (case side1 => exact cN (Kd.Q_reads' HO_413001.out).2.2)
             (case side2 => exact (Kd.Q_reads' HO_413001.out).2.1)
             (case side3 => exact cN (Kd.Q_reads' HO_400001.out).2.2)
             (case side4 => exact (Kd.Q_reads' HO_400001.out).2.1)
             rintro e w' ⟨rfl, ⟨nd, rfl⟩⟩
             refine ⟨_, rfl, ?_⟩
             refine hK.out _ _ ⟨(blk_cell BK412.out 0).trans rfl, (blk_cell BK412.out 1).trans rfl, (blk_cell BK412.out 2).trans rfl, (blk_cell BK412.out 3).trans rfl, (blk_cell BK412.out 4).trans rfl, (blk_cell BK399.out 0).trans rfl, (blk_cell BK399.out 1).trans rfl, (blk_cell BK399.out 2).trans rfl, (blk_cell BK399.out 3).trans rfl, (blk_cell BK399.out 4).trans rfl, hHeld.2.2.2.2.2.2.2.2.2.2⟩ (fun hHeld => ?_)
             clear hK K
             refine norm_ (a' := ?_) ?_ ?_
             rotate_left
             ·show Act.put _ (some 96) _ = _
              simp only [Act.put, List.setIfInBounds_toArray, List.set_cons_zero, List.set_cons_succ, i64_w, i32_w]
              rfl
             refine pu 30 97 HT_ (h := ?_)
             refine pu 31 98 HT_ (h := ?_)
             refine take_ (i := 32) (N := some 99) (v := ?_) (a' := ?_) #[true, true, true, true, true, true, true, true, true, true, true, true, true, true, true, true, true, true, true, true, true, true, true, true, true, true, true, true, true, true, true, true, true, false, false, false] rfl rfl (take_ofW HT_.out HW_.out (by kernel_rfl)) (fun _ _ _ h => h) (Or.inl ⟨by rfl, ?_⟩) hHeld ?_ ?_
             rotate_left
             ·rintro w' ⟨s0, s1, s2, s3, s4, s5, s6, s7, s8, s9, s10⟩
              go_simp
              with_reducible rfl
             rotate_left
             ·simp only [Act.put, List.setIfInBounds_toArray, List.set_cons_zero, List.set_cons_succ, i64_w, i32_w]
              rfl
             refine one_ (i := 33) (N := some 100) #[true, true, true, true, true, true, true, true, true, true, true, true, true, true, true, true, true, true, true, true, true, true, true, true, true, true, true, true, true, true, true, true, true, true, false, false] rfl rfl (one_of HT_.out (by kernel_rfl)) (by decide) (fun K hK => ?_)
             refine goes_ Try.func18 (by kernel_rfl) rfl #[.agg #[.slice Ao15 t400.length co15, .slice Ao18 t403.length co18, .int .i64 t406, .bool t407, .slice (some ad431) t408.length co19]] (by rfl) rfl rfl gl_ ?_
             with_reducible refine (impl_PartOk.calls kj5 _ _ t400 _ _ t403 t406 t407 _ _ t408 t438 _ ?side1 ?side2 ?side3 ?side4 ?side5 ?side6 A79.out).mono ?_
             (case side1 => exact cN (Kd.R_reads' HO_413000.out).2.2)
             (case side2 => exact (Kd.R_reads' HO_413000.out).2.1)
             (case side3 => exact cN (Kd.Q_reads' HO_413001.out).2.2)
             (case side4 => exact (Kd.Q_reads' HO_413001.out).2.1)
             (case side5 => exact cN (Kd.R_reads' HO_413004.out).2.2)
             (case side6 => exact (Kd.R_reads' HO_413004.out).2.1)
             rintro e w85 ⟨rfl, hb⟩
             have HS10_ := (hb.cell (World.block_lt_of_cell? _ _ (hHeld.2.2.2.2.2.2.2.2.2.2))).trans (hHeld.2.2.2.2.2.2.2.2.2.2)
             refine ⟨_, rfl, ?_⟩
             have n0_ := m_ (Kd.R_below (rN HO_400000.out) hb)
             have n1_ := m_ (Kd.Q_below (by (with_reducible repeat (first | apply Kd.Q_alloc | apply Kd.Q_drewN | apply Kd.Q_drew)); exact HO_400001.out) hb)
             have n2_ := m_ (Kd.R_below (rN HO_400004.out) hb)
             have n3_ := m_ (Kd.R_below (rN HO_413000.out) hb)
             have n4_ := m_ (Kd.Q_below (by (with_reducible repeat (first | apply Kd.Q_alloc | apply Kd.Q_drewN | apply Kd.Q_drew)); exact HO_413001.out) hb)
             have n5_ := m_ (Kd.R_below (rN HO_413004.out) hb)
             have n6_ := m_ (Kd.R_below (rN HO_426000.out) hb)
             have n7_ := m_ (Kd.Q_below (by (with_reducible repeat (first | apply Kd.Q_alloc | apply Kd.Q_drewN | apply Kd.Q_drew)); exact HO_426001.out) hb)
             have n8_ := m_ (Kd.R_below (rN HO_426004.out) hb)
             have n9_ := m_ (blk_below (g := gb399) (o := .cells #[.slice Ao9 t387.length co9, .slice Ao11 t390.length co11, .int .i64 t393, .bool t394, .slice Ao12 t395.length co12] 33 (0, 0)) (by (with_reducible repeat (first | refine blk_drewN ?_ _ | refine blk_drew ?_ | refine blk_alloc ?_ _)); exact BK399.out) hb)
             have n10_ := m_ (blk_below (g := gb412) (o := .cells #[.slice Ao15 t400.length co15, .slice Ao18 t403.length co18, .int .i64 t406, .bool t407, .slice (some ad431) t408.length co19] 33 (0, 0)) (by (with_reducible repeat (first | refine blk_drewN ?_ _ | refine blk_drew ?_ | refine blk_alloc ?_ _)); exact BK412.out) hb)
             have n11_ := m_ (blk_below (g := gb425) (o := .cells #[.slice Ao23 t413.length co23, .slice Ao27 t416.length co27, .int .i64 t419, .bool t420, .slice Ao28 t421.length co28] 33 (0, 0)) (by (with_reducible repeat (first | refine blk_drewN ?_ _ | refine blk_drew ?_ | refine blk_alloc ?_ _)); exact BK425.out) hb)
             have n12_ := m_ (Kd.C_below (by repeat (first | (with_reducible exact HR435.out) | (with_reducible refine Kd.C_alloc ?_ _) | (with_reducible refine Kd.C_drewN ?_ _) | (with_reducible refine Kd.C_drew ?_) | exact HR435.out)) hb)
             have n13_ := m_ (below_step (bN HB.out) hb)
             clear HO_400000
             clear HO_400001
             clear HO_400004
             clear HO_413000
             clear HO_413001
             clear HO_413004
             clear HO_426000
             clear HO_426001
             clear HO_426004
             clear BK399
             clear BK412
             clear BK425
             clear HR435
             clear HB
             have HO_400000 := n0_
             have HO_400001 := n1_
             have HO_400004 := n2_
             have HO_413000 := n3_
             have HO_413001 := n4_
             have HO_413004 := n5_
             have HO_426000 := n6_
             have HO_426001 := n7_
             have HO_426004 := n8_
             have BK399 := n9_
             have BK412 := n10_
             have BK425 := n11_
             have HR435 := n12_
             have HB := n13_
             clear n0_ n1_ n2_ n3_ n4_ n5_ n6_ n7_ n8_ n9_ n10_ n11_ n12_ n13_
             (try clear hb)
             (try clear hb2)
             (try clear hk)
             (try clear hi)
             refine hK.out _ _ ⟨(blk_cell BK412.out 0).trans rfl, (blk_cell BK412.out 1).trans rfl, (blk_cell BK412.out 2).trans rfl, (blk_cell BK412.out 3).trans rfl, (blk_cell BK412.out 4).trans rfl, (blk_cell BK399.out 0).trans rfl, (blk_cell BK399.out 1).trans rfl, (blk_cell BK399.out 2).trans rfl, (blk_cell BK399.out 3).trans rfl, (blk_cell BK399.out 4).trans rfl, HS10_⟩ (fun hHeld => ?_)
             clear hK K
             refine norm_ (a' := ?_) ?_ ?_
             rotate_left
             ·show Act.put _ (some 100) _ = _
              simp only [Act.put, List.setIfInBounds_toArray, List.set_cons_zero, List.set_cons_succ, i64_w, i32_w]
              rfl
             refine pu 34 101 HT_ (h := ?_)
             refine pu 35 2 HT_ (h := ?_)
             refine done_ (done_of HT_.out (by kernel_rfl)) ?_
             try go_wp2
             go_ret
             exact ⟨by first | rfl | (simp [errW_none, errW_some] <;> rfl) | (simp [*, errW_none, errW_some] <;> rfl), by repeat (first | (with_reducible first | exact HB.out | apply below_alloc | apply pw_below_drewN | apply below_drew1 | refine below_set ?_ GE399.out | refine below_set ?_ GE412.out | refine below_set ?_ GE425.out) | exact HB.out)⟩
            ·replace c78 := Bool.eq_false_iff.mpr c78
             subst c78
             have H1 : (some false) = some r := by rw [if_neg (show ¬ (false = true) by decide)] at H; exact H
             clear H
             have H := H1
             clear H1
             obtain rfl := Option.some.inj H
             have hnb86 := NB399_412.out
             have hnc86 := NB412_399.out
             have hnb87 := NB399_425.out
             have hnc87 := NB425_399.out
             have hcz88_0 : wc.cell? ⟨gb399, 0, none⟩ = some (.slice Ao9 t387.length co9) := (blk_cell BK399.out 0).trans rfl
             have hcz88_1 : wc.cell? ⟨gb399, 1, none⟩ = some (.slice Ao11 t390.length co11) := (blk_cell BK399.out 1).trans rfl
             have hcz88_2 : wc.cell? ⟨gb399, 2, none⟩ = some (.int .i64 t393) := (blk_cell BK399.out 2).trans rfl
             have hcz88_3 : wc.cell? ⟨gb399, 3, none⟩ = some (.bool t394) := (blk_cell BK399.out 3).trans rfl
             have hcz88_4 : wc.cell? ⟨gb399, 4, none⟩ = some (.slice Ao12 t395.length co12) := (blk_cell BK399.out 4).trans rfl
             have hfz88_0 := blk_frozen BK399.out 0
             have hfz88_1 := blk_frozen BK399.out 1
             have hfz88_2 := blk_frozen BK399.out 2
             have hfz88_3 := blk_frozen BK399.out 3
             have hfz88_4 := blk_frozen BK399.out 4
             try go_wp2
             have n0_ := m_ (Kd.R_drew HO_400000.out)
             have n1_ := m_ (Kd.Q_drew HO_400001.out)
             have n2_ := m_ (Kd.R_drew HO_400004.out)
             have n3_ := m_ (Kd.R_drew HO_413000.out)
             have n4_ := m_ (Kd.Q_drew HO_413001.out)
             have n5_ := m_ (Kd.R_drew HO_413004.out)
             have n6_ := m_ (Kd.R_drew HO_426000.out)
             have n7_ := m_ (Kd.Q_drew HO_426001.out)
             have n8_ := m_ (Kd.R_drew HO_426004.out)
             have n9_ := m_ (blk_drew BK399.out)
             have n10_ := m_ (blk_drew BK412.out)
             have n11_ := m_ (blk_drew BK425.out)
             have n12_ := m_ (below_drew1 HB.out)
             clear HO_400000
             clear HO_400001
             clear HO_400004
             clear HO_413000
             clear HO_413001
             clear HO_413004
             clear HO_426000
             clear HO_426001
             clear HO_426004
             clear BK399
             clear BK412
             clear BK425
             clear HB
             have HO_400000 := n0_
             have HO_400001 := n1_
             have HO_400004 := n2_
             have HO_413000 := n3_
             have HO_413001 := n4_
             have HO_413004 := n5_
             have HO_426000 := n6_
             have HO_426001 := n7_
             have HO_426004 := n8_
             have BK399 := n9_
             have BK412 := n10_
             have BK425 := n11_
             have HB := n12_
             clear n0_ n1_ n2_ n3_ n4_ n5_ n6_ n7_ n8_ n9_ n10_ n11_ n12_
             have p431 : 0 ≤ ((t395.length : Int) : Int) := of_decide_eq_true (by first | (with_reducible assumption) | assumption)
             have q431 : (t395.length : Int) < (t408.length : Int) := of_decide_eq_true (by first | (with_reducible assumption) | assumption)
             obtain ⟨ad431, e431, hx431_0⟩ := Kd.at_int (Kd.R_reads' HO_413004.out).2.2 (t395.length : Int) p431 q431
             cases e431
             (try simp only [Go.IntWalk.toNatUp] at hx431_0)
             replace p431 := eq_true p431
             replace q431 := eq_true q431
             have q90 : ((t395.length : Int) : Int) ≤ ((t408.length : Int) : Int) := of_decide_eq_true (by first | (with_reducible assumption) | assumption)
             obtain ⟨i090, hi090, _, hsz90, _⟩ := info_parts info3
             have hroom90 : t408.length ≤ co19 := (Kd.R_reads' HO_413004.out).2.1
             have hC90 : Kd.C (Kd.int .i64) _ (some ad431) t408.length t408 := (Kd.R_reads' HO_413004.out).2.2
             have hcut90 := cut_to (P := Try.prog) 31 3 .i64 Try.underlying31 hi090 (some ad431) t408.length co19 (t395.length : Int) (of_decide_eq_true (by first | (with_reducible assumption) | assumption)) q90 hroom90
             have hr90 := Kd.C_take (m := ((t395.length : Int) : Int).toNat) hC90 (by omega)
             have hy90 : y432.length = ((t395.length : Int) : Int).toNat := (by rw [Ny432.out, List.length_take]; omega)
             rw [← Ny432.out] at hr90
             rw [← hy90] at hcut90
             have HR435 := Aside0.mk hr90
             have HC435 := m_ (show y432.length ≤ co19 from by omega)
             clear hr90 hC90 hroom90 hi090 hsz90
             have KY90 := Aside0.mk hy90
             clear hy90
             have KL90 := m_ (show ((t395.length : Int) : Int).toNat ≤ t408.length from by omega)
             replace q90 := eq_true q90
             refine start_ (n := 36) (S := fun w' => w'.cell? ⟨gb412, 0, none⟩ = some (.slice Ao15 t400.length co15) ∧ w'.cell? ⟨gb412, 1, none⟩ = some (.slice Ao18 t403.length co18) ∧ w'.cell? ⟨gb412, 2, none⟩ = some (.int .i64 t406) ∧ w'.cell? ⟨gb412, 3, none⟩ = some (.bool t407) ∧ w'.cell? ⟨gb412, 4, none⟩ = some (.slice (some ad431) t408.length co19) ∧ w'.cell? ⟨gb399, 0, none⟩ = some (.slice Ao9 t387.length co9) ∧ w'.cell? ⟨gb399, 1, none⟩ = some (.slice Ao11 t390.length co11) ∧ w'.cell? ⟨gb399, 2, none⟩ = some (.int .i64 t393) ∧ w'.cell? ⟨gb399, 3, none⟩ = some (.bool t394) ∧ w'.cell? ⟨gb399, 4, none⟩ = some (.slice Ao12 t395.length co12) ∧ w'.cell? (ad431.add t395.length) = some (.int .i64 (rd t408 (t395.length : Int)))) (ds := []) #[false, false, false, false, false, false, false, false, false, false, false, false, false, false, false, false, false, false, false, false, false, false, false, false, false, false, false, false, false, false, false, false, false, false, false, false] (by kernel_rfl) rfl rfl ⟨(blk_cell BK412.out 0).trans rfl, (blk_cell BK412.out 1).trans rfl, (blk_cell BK412.out 2).trans rfl, (blk_cell BK412.out 3).trans rfl, (blk_cell BK412.out 4).trans rfl, (blk_cell BK399.out 0).trans rfl, (blk_cell BK399.out 1).trans rfl, (blk_cell BK399.out 2).trans rfl, (blk_cell BK399.out 3).trans rfl, (blk_cell BK399.out 4).trans rfl, hx431_0⟩ (fun hHeld => ?_); refine with_tabW laws_FnPartSend.tab11 laws_FnPartSend.bits11 (fun HT_ HW_ => ?_)
             generalize wc.drew = w89 at HO_400000 HO_400001 HO_400004 HO_413000 HO_413001 HO_413004 HO_426000 HO_426001 HO_426004 BK399 BK412 BK425 HB HR435 hx431_0 hHeld ⊢
             refine pu 0 67 HT_ (h := ?_)
             refine pu 3 70 HT_ (h := ?_)
             refine pu 4 71 HT_ (h := ?_)
             refine take_ (i := 1) (N := some 68) (v := ?_) (a' := ?_) #[true, true, false, true, true, false, false, false, false, false, false, false, false, false, false, false, false, false, false, false, false, false, false, false, false, false, false, false, false, false, false, false, false, false, false, false] rfl rfl (take_ofW HT_.out HW_.out (by kernel_rfl)) (fun _ _ _ h => h) (Or.inl ⟨by rfl, ?_⟩) hHeld ?_ ?_
             rotate_left
             ·rintro w' ⟨s0, s1, s2, s3, s4, s5, s6, s7, s8, s9, s10⟩
              go_simp
              with_reducible rfl
             rotate_left
             ·simp only [Act.put, List.setIfInBounds_toArray, List.set_cons_zero, List.set_cons_succ, i64_w, i32_w]
              rfl
             refine pu 2 69 HT_ (h := ?_)
             refine pu 5 72 HT_ (h := ?_)
             refine pu 6 73 HT_ (h := ?_)
             refine pu 7 74 HT_ (h := ?_)
             refine pu 9 76 HT_ (h := ?_)
             refine pu 12 79 HT_ (h := ?_)
             refine take_ (i := 8) (N := some 75) (v := ?_) (a' := ?_) #[true, true, true, true, true, true, true, true, true, true, false, false, true, false, false, false, false, false, false, false, false, false, false, false, false, false, false, false, false, false, false, false, false, false, false, false] rfl rfl (take_ofW HT_.out HW_.out (by kernel_rfl)) (fun _ _ _ h => h) (Or.inl ⟨by rfl, ?_⟩) hHeld ?_ ?_
             rotate_left
             ·rintro w' ⟨s0, s1, s2, s3, s4, s5, s6, s7, s8, s9, s10⟩
              go_simp
              with_reducible rfl
             rotate_left
             ·simp only [Act.put, List.setIfInBounds_toArray, List.set_cons_zero, List.set_cons_succ, i64_w, i32_w]
              rfl
             refine pu 10 77 HT_ (h := ?_)
             refine take_ (i := 11) (N := some 78) (v := ?_) (a' := ?_) #[true, true, true, true, true, true, true, true, true, true, true, true, true, false, false, false, false, false, false, false, false, false, false, false, false, false, false, false, false, false, false, false, false, false, false, false] rfl rfl (take_ofW HT_.out HW_.out (by kernel_rfl)) (fun _ _ _ h => h) (Or.inl ⟨by rfl, ?_⟩) hHeld ?_ ?_
             rotate_left
             ·rintro w' ⟨s0, s1, s2, s3, s4, s5, s6, s7, s8, s9, s10⟩
              go_simp
              with_reducible rfl
             rotate_left
             ·simp only [Act.put, List.setIfInBounds_toArray, List.set_cons_zero, List.set_cons_succ, i64_w, i32_w]
              rfl
             refine pu 13 80 HT_ (h := ?_)
             refine pu 14 81 HT_ (h := ?_)
             refine pu 15 82 HT_ (h := ?_)
             refine pu 16 83 HT_ (h := ?_)
             refine pu 18 85 HT_ (h := ?_)
             refine pu 20 87 HT_ (h := ?_)
             refine take_ (i := 17) (N := some 84) (v := ?_) (a' := ?_) #[true, true, true, true, true, true, true, true, true, true, true, true, true, true, true, true, true, true, true, false, true, false, false, false, false, false, false, false, false, false, false, false, false, false, false, false] rfl rfl (take_ofW HT_.out HW_.out (by kernel_rfl)) (fun _ _ _ h => h) (Or.inl ⟨by rfl, ?_⟩) hHeld ?_ ?_
             rotate_left
             ·rintro w' ⟨s0, s1, s2, s3, s4, s5, s6, s7, s8, s9, s10⟩
              go_simp
              with_reducible rfl
             rotate_left
             ·simp only [Act.put, List.setIfInBounds_toArray, List.set_cons_zero, List.set_cons_succ, i64_w, i32_w]
              rfl
             refine pu 19 86 HT_ (h := ?_)
             refine take_ (i := 21) (N := some 88) (v := ?_) (a' := ?_) #[true, true, true, true, true, true, true, true, true, true, true, true, true, true, true, true, true, true, true, true, true, true, false, false, false, false, false, false, false, false, false, false, false, false, false, false] rfl rfl (take_ofW HT_.out HW_.out (by kernel_rfl)) (fun _ _ _ h => h) (Or.inl ⟨by rfl, ?_⟩) hHeld ?_ ?_
             rotate_left
             ·rintro w' ⟨s0, s1, s2, s3, s4, s5, s6, s7, s8, s9, s10⟩
              go_simp
              with_reducible rfl
             rotate_left
             ·simp only [Act.put, List.setIfInBounds_toArray, List.set_cons_zero, List.set_cons_succ, i64_w, i32_w]
              rfl
             refine one_ (i := 22) (N := some 89) #[true, true, true, true, true, true, true, true, true, true, true, true, true, true, true, true, true, true, true, true, true, true, true, false, false, false, false, false, false, false, false, false, false, false, false, false] rfl rfl (one_of HT_.out (by kernel_rfl)) (by decide) (fun K hK => ?_)
             refine goes_ Try.func29 (by kernel_rfl) rfl #[.slice (some ad431) y432.length co19, .slice Ao12 t395.length co12] (by rfl) rfl rfl gl_ ?_
             with_reducible refine (laws_skInts.calls kj5 _ _ y432 _ _ t395 true _ ?side1 ?side2 ?side3 ?side4 A75.out).mono ?_
             (case side1 => repeat (first | exact (by repeat (first | (with_reducible exact HR435.out) | (with_reducible refine Kd.C_alloc ?_ _) | (with_reducible refine Kd.C_drewN ?_ _) | (with_reducible refine Kd.C_drew ?_) | exact HR435.out)) | (with_reducible refine Kd.C_alloc ?_ _) | (with_reducible refine Kd.C_drewN ?_ _) | (with_reducible refine Kd.C_drew ?_)))
             (case side2 => exact HC435.out)
             (case side3 => exact cN (Kd.R_reads' HO_400004.out).2.2)
             (case side4 => exact (Kd.R_reads' HO_400004.out).2.1)
             rintro e w' ⟨rfl, ⟨nd, rfl⟩⟩
             refine ⟨_, rfl, ?_⟩
             refine hK.out _ _ ⟨(blk_cell BK412.out 0).trans rfl, (blk_cell BK412.out 1).trans rfl, (blk_cell BK412.out 2).trans rfl, (blk_cell BK412.out 3).trans rfl, (blk_cell BK412.out 4).trans rfl, (blk_cell BK399.out 0).trans rfl, (blk_cell BK399.out 1).trans rfl, (blk_cell BK399.out 2).trans rfl, (blk_cell BK399.out 3).trans rfl, (blk_cell BK399.out 4).trans rfl, hHeld.2.2.2.2.2.2.2.2.2.2⟩ (fun hHeld => ?_)
             clear hK K
             refine norm_ (a' := ?_) ?_ ?_
             rotate_left
             ·show Act.put _ (some 89) _ = _
              simp only [Act.put, List.setIfInBounds_toArray, List.set_cons_zero, List.set_cons_succ, i64_w, i32_w]
              rfl
             refine pu 23 90 HT_ (h := ?_)
             refine pu 24 91 HT_ (h := ?_)
             refine pu 25 92 HT_ (h := ?_)
             refine pu 27 94 HT_ (h := ?_)
             refine take_ (i := 26) (N := some 93) (v := ?_) (a' := ?_) #[true, true, true, true, true, true, true, true, true, true, true, true, true, true, true, true, true, true, true, true, true, true, true, true, true, true, true, true, false, false, false, false, false, false, false, false] rfl rfl (take_ofW HT_.out HW_.out (by kernel_rfl)) (fun _ _ _ h => h) (Or.inl ⟨by rfl, ?_⟩) hHeld ?_ ?_
             rotate_left
             ·rintro w' ⟨s0, s1, s2, s3, s4, s5, s6, s7, s8, s9, s10⟩
              go_simp
              with_reducible rfl
             rotate_left
             ·simp only [Act.put, List.setIfInBounds_toArray, List.set_cons_zero, List.set_cons_succ, i64_w, i32_w]
              rfl
             refine take_ (i := 28) (N := some 95) (v := ?_) (a' := ?_) #[true, true, true, true, true, true, true, true, true, true, true, true, true, true, true, true, true, true, true, true, true, true, true, true, true, true, true, true, true, false, false, false, false, false, false, false] rfl rfl (take_ofW HT_.out HW_.out (by kernel_rfl)) (fun _ _ _ h => h) (Or.inl ⟨by rfl, ?_⟩) hHeld ?_ ?_
             rotate_left
             ·rintro w' ⟨s0, s1, s2, s3, s4, s5, s6, s7, s8, s9, s10⟩
              go_simp
              with_reducible rfl
             rotate_left
             ·simp only [Act.put, List.setIfInBounds_toArray, List.set_cons_zero, List.set_cons_succ, i64_w, i32_w]
              rfl
             refine one_ (i := 29) (N := some 96) #[true, true, true, true, true, true, true, true, true, true, true, true, true, true, true, true, true, true, true, true, true, true, true, true, true, true, true, true, true, true, false, false, false, false, false, false] rfl rfl (one_of HT_.out (by kernel_rfl)) (by decide) (fun K hK => ?_)
             refine goes_ Try.func29 (by kernel_rfl) rfl #[.slice Ao18 t403.length co18, .slice Ao11 t390.length co11] (by rfl) rfl rfl gl_ ?_
             with_reducible refine (laws_skInts.calls kj5 _ _ t403 _ _ t390 false _ ?side1 ?side2 ?side3 ?side4 A77.out).mono ?_
             (case side1 => exact cN (Kd.Q_reads' HO_413001.out).2.2)
             (case side2 => exact (Kd.Q_reads' HO_413001.out).2.1)
             (case side3 => exact cN (Kd.Q_reads' HO_400001.out).2.2)
             (case side4 => exact (Kd.Q_reads' HO_400001.out).2.1)
             rintro e w' ⟨rfl, ⟨nd, rfl⟩⟩
             refine ⟨_, rfl, ?_⟩
             refine hK.out _ _ ⟨(blk_cell BK412.out 0).trans rfl, (blk_cell BK412.out 1).trans rfl, (blk_cell BK412.out 2).trans rfl, (blk_cell BK412.out 3).trans rfl, (blk_cell BK412.out 4).trans rfl, (blk_cell BK399.out 0).trans rfl, (blk_cell BK399.out 1).trans rfl, (blk_cell BK399.out 2).trans rfl, (blk_cell BK399.out 3).trans rfl, (blk_cell BK399.out 4).trans rfl, hHeld.2.2.2.2.2.2.2.2.2.2⟩ (fun hHeld => ?_)
             clear hK K
             refine norm_ (a' := ?_) ?_ ?_
             rotate_left
             ·show Act.put _ (some 96) _ = _
              simp only [Act.put, List.setIfInBounds_toArray, List.set_cons_zero, List.set_cons_succ, i64_w, i32_w]
              rfl
             refine pu 30 97 HT_ (h := ?_)
             refine pu 31 98 HT_ (h := ?_)
             refine pv 32 99 HT_ (h := ?_)
             refine pv 33 100 HT_ (h := ?_)
             refine pu 34 101 HT_ (h := ?_)
             refine pu 35 2 HT_ (h := ?_)
             refine done_ (done_of HT_.out (by kernel_rfl)) ?_
             try go_wp2
             go_ret
             exact ⟨by first | rfl | (simp [errW_none, errW_some] <;> rfl) | (simp [*, errW_none, errW_some] <;> rfl), by repeat (first | (with_reducible first | exact HB.out | apply below_alloc | apply pw_below_drewN | apply below_drew1 | refine below_set ?_ GE399.out | refine below_set ?_ GE412.out | refine below_set ?_ GE425.out) | exact HB.out)⟩
           ·replace c76 := Bool.eq_false_iff.mpr c76
            subst c76
            have H1 : (some false) = some r := by rw [if_neg (show ¬ (false = true) by decide)] at H; exact H
            clear H
            have H := H1
            clear H1
            obtain rfl := Option.some.inj H
            have hnb91 := NB399_412.out
            have hnc91 := NB412_399.out
            have hnb92 := NB399_425.out
            have hnc92 := NB425_399.out
            have hcz93_0 : wc.cell? ⟨gb399, 0, none⟩ = some (.slice Ao9 t387.length co9) := (blk_cell BK399.out 0).trans rfl
            have hcz93_1 : wc.cell? ⟨gb399, 1, none⟩ = some (.slice Ao11 t390.length co11) := (blk_cell BK399.out 1).trans rfl
            have hcz93_2 : wc.cell? ⟨gb399, 2, none⟩ = some (.int .i64 t393) := (blk_cell BK399.out 2).trans rfl
            have hcz93_3 : wc.cell? ⟨gb399, 3, none⟩ = some (.bool t394) := (blk_cell BK399.out 3).trans rfl
            have hcz93_4 : wc.cell? ⟨gb399, 4, none⟩ = some (.slice Ao12 t395.length co12) := (blk_cell BK399.out 4).trans rfl
            have hfz93_0 := blk_frozen BK399.out 0
            have hfz93_1 := blk_frozen BK399.out 1
            have hfz93_2 := blk_frozen BK399.out 2
            have hfz93_3 := blk_frozen BK399.out 3
            have hfz93_4 := blk_frozen BK399.out 4
            try go_wp2
            have n0_ := m_ (Kd.R_drew HO_400000.out)
            have n1_ := m_ (Kd.Q_drew HO_400001.out)
            have n2_ := m_ (Kd.R_drew HO_400004.out)
            have n3_ := m_ (Kd.R_drew HO_413000.out)
            have n4_ := m_ (Kd.Q_drew HO_413001.out)
            have n5_ := m_ (Kd.R_drew HO_413004.out)
            have n6_ := m_ (Kd.R_drew HO_426000.out)
            have n7_ := m_ (Kd.Q_drew HO_426001.out)
            have n8_ := m_ (Kd.R_drew HO_426004.out)
            have n9_ := m_ (blk_drew BK399.out)
            have n10_ := m_ (blk_drew BK412.out)
            have n11_ := m_ (blk_drew BK425.out)
            have n12_ := m_ (below_drew1 HB.out)
            clear HO_400000
            clear HO_400001
            clear HO_400004
            clear HO_413000
            clear HO_413001
            clear HO_413004
            clear HO_426000
            clear HO_426001
            clear HO_426004
            clear BK399
            clear BK412
            clear BK425
            clear HB
            have HO_400000 := n0_
            have HO_400001 := n1_
            have HO_400004 := n2_
            have HO_413000 := n3_
            have HO_413001 := n4_
            have HO_413004 := n5_
            have HO_426000 := n6_
            have HO_426001 := n7_
            have HO_426004 := n8_
            have BK399 := n9_
            have BK412 := n10_
            have BK425 := n11_
            have HB := n12_
            clear n0_ n1_ n2_ n3_ n4_ n5_ n6_ n7_ n8_ n9_ n10_ n11_ n12_
            have p431 : 0 ≤ ((t395.length : Int) : Int) := of_decide_eq_true (by first | (with_reducible assumption) | assumption)
            have q431 : (t395.length : Int) < (t408.length : Int) := of_decide_eq_true (by first | (with_reducible assumption) | assumption)
            obtain ⟨ad431, e431, hx431_0⟩ := Kd.at_int (Kd.R_reads' HO_413004.out).2.2 (t395.length : Int) p431 q431
            cases e431
            (try simp only [Go.IntWalk.toNatUp] at hx431_0)
            replace p431 := eq_true p431
            replace q431 := eq_true q431
            have q95 : ((t395.length : Int) : Int) ≤ ((t408.length : Int) : Int) := of_decide_eq_true (by first | (with_reducible assumption) | assumption)
            obtain ⟨i095, hi095, _, hsz95, _⟩ := info_parts info3
            have hroom95 : t408.length ≤ co19 := (Kd.R_reads' HO_413004.out).2.1
            have hC95 : Kd.C (Kd.int .i64) _ (some ad431) t408.length t408 := (Kd.R_reads' HO_413004.out).2.2
            have hcut95 := cut_to (P := Try.prog) 31 3 .i64 Try.underlying31 hi095 (some ad431) t408.length co19 (t395.length : Int) (of_decide_eq_true (by first | (with_reducible assumption) | assumption)) q95 hroom95
            have hr95 := Kd.C_take (m := ((t395.length : Int) : Int).toNat) hC95 (by omega)
            have hy95 : y432.length = ((t395.length : Int) : Int).toNat := (by rw [Ny432.out, List.length_take]; omega)
            rw [← Ny432.out] at hr95
            rw [← hy95] at hcut95
            have HR435 := Aside0.mk hr95
            have HC435 := m_ (show y432.length ≤ co19 from by omega)
            clear hr95 hC95 hroom95 hi095 hsz95
            have KY95 := Aside0.mk hy95
            clear hy95
            have KL95 := m_ (show ((t395.length : Int) : Int).toNat ≤ t408.length from by omega)
            replace q95 := eq_true q95
            refine start_ (n := 36) (S := fun w' => w'.cell? ⟨gb412, 0, none⟩ = some (.slice Ao15 t400.length co15) ∧ w'.cell? ⟨gb412, 1, none⟩ = some (.slice Ao18 t403.length co18) ∧ w'.cell? ⟨gb412, 2, none⟩ = some (.int .i64 t406) ∧ w'.cell? ⟨gb412, 3, none⟩ = some (.bool t407) ∧ w'.cell? ⟨gb412, 4, none⟩ = some (.slice (some ad431) t408.length co19) ∧ w'.cell? ⟨gb399, 0, none⟩ = some (.slice Ao9 t387.length co9) ∧ w'.cell? ⟨gb399, 1, none⟩ = some (.slice Ao11 t390.length co11) ∧ w'.cell? ⟨gb399, 2, none⟩ = some (.int .i64 t393) ∧ w'.cell? ⟨gb399, 3, none⟩ = some (.bool t394) ∧ w'.cell? ⟨gb399, 4, none⟩ = some (.slice Ao12 t395.length co12) ∧ w'.cell? (ad431.add t395.length) = some (.int .i64 (rd t408 (t395.length : Int)))) (ds := []) #[false, false, false, false, false, false, false, false, false, false, false, false, false, false, false, false, false, false, false, false, false, false, false, false, false, false, false, false, false, false, false, false, false, false, false, false] (by kernel_rfl) rfl rfl ⟨(blk_cell BK412.out 0).trans rfl, (blk_cell BK412.out 1).trans rfl, (blk_cell BK412.out 2).trans rfl, (blk_cell BK412.out 3).trans rfl, (blk_cell BK412.out 4).trans rfl, (blk_cell BK399.out 0).trans rfl, (blk_cell BK399.out 1).trans rfl, (blk_cell BK399.out 2).trans rfl, (blk_cell BK399.out 3).trans rfl, (blk_cell BK399.out 4).trans rfl, hx431_0⟩ (fun hHeld => ?_); refine with_tabW laws_FnPartSend.tab11 laws_FnPartSend.bits11 (fun HT_ HW_ => ?_)
            generalize wc.drew = w94 at HO_400000 HO_400001 HO_400004 HO_413000 HO_413001 HO_413004 HO_426000 HO_426001 HO_426004 BK399 BK412 BK425 HB HR435 hx431_0 hHeld ⊢
            refine pu 0 67 HT_ (h := ?_)
            refine pu 3 70 HT_ (h := ?_)
            refine pu 4 71 HT_ (h := ?_)
            refine take_ (i := 1) (N := some 68) (v := ?_) (a' := ?_) #[true, true, false, true, true, false, false, false, false, false, false, false, false, false, false, false, false, false, false, false, false, false, false, false, false, false, false, false, false, false, false, false, false, false, false, false] rfl rfl (take_ofW HT_.out HW_.out (by kernel_rfl)) (fun _ _ _ h => h) (Or.inl ⟨by rfl, ?_⟩) hHeld ?_ ?_
            rotate_left
            ·rintro w' ⟨s0, s1, s2, s3, s4, s5, s6, s7, s8, s9, s10⟩
             go_simp
             with_reducible rfl
            rotate_left
            ·simp only [Act.put, List.setIfInBounds_toArray, List.set_cons_zero, List.set_cons_succ, i64_w, i32_w]
             rfl
            refine pu 2 69 HT_ (h := ?_)
            refine pu 5 72 HT_ (h := ?_)
            refine pu 6 73 HT_ (h := ?_)
            refine pu 7 74 HT_ (h := ?_)
            refine pu 9 76 HT_ (h := ?_)
            refine pu 12 79 HT_ (h := ?_)
            refine take_ (i := 8) (N := some 75) (v := ?_) (a' := ?_) #[true, true, true, true, true, true, true, true, true, true, false, false, true, false, false, false, false, false, false, false, false, false, false, false, false, false, false, false, false, false, false, false, false, false, false, false] rfl rfl (take_ofW HT_.out HW_.out (by kernel_rfl)) (fun _ _ _ h => h) (Or.inl ⟨by rfl, ?_⟩) hHeld ?_ ?_
            rotate_left
            ·rintro w' ⟨s0, s1, s2, s3, s4, s5, s6, s7, s8, s9, s10⟩
             go_simp
             with_reducible rfl
            rotate_left
            ·simp only [Act.put, List.setIfInBounds_toArray, List.set_cons_zero, List.set_cons_succ, i64_w, i32_w]
             rfl
            refine pu 10 77 HT_ (h := ?_)
            refine take_ (i := 11) (N := some 78) (v := ?_) (a' := ?_) #[true, true, true, true, true, true, true, true, true, true, true, true, true, false, false, false, false, false, false, false, false, false, false, false, false, false, false, false, false, false, false, false, false, false, false, false] rfl rfl (take_ofW HT_.out HW_.out (by kernel_rfl)) (fun _ _ _ h => h) (Or.inl ⟨by rfl, ?_⟩) hHeld ?_ ?_
            rotate_left
            ·rintro w' ⟨s0, s1, s2, s3, s4, s5, s6, s7, s8, s9, s10⟩
             go_simp
             with_reducible rfl
            rotate_left
            ·simp only [Act.put, List.setIfInBounds_toArray, List.set_cons_zero, List.set_cons_succ, i64_w, i32_w]
             rfl
            refine pu 13 80 HT_ (h := ?_)
            refine pu 14 81 HT_ (h := ?_)
            refine pu 15 82 HT_ (h := ?_)
            refine pu 16 83 HT_ (h := ?_)
            refine pu 18 85 HT_ (h := ?_)
            refine pu 20 87 HT_ (h := ?_)
            refine take_ (i := 17) (N := some 84) (v := ?_) (a' := ?_) #[true, true, true, true, true, true, true, true, true, true, true, true, true, true, true, true, true, true, true, false, true, false, false, false, false, false, false, false, false, false, false, false, false, false, false, false] rfl rfl (take_ofW HT_.out HW_.out (by kernel_rfl)) (fun _ _ _ h => h) (Or.inl ⟨by rfl, ?_⟩) hHeld ?_ ?_
            rotate_left
            ·rintro w' ⟨s0, s1, s2, s3, s4, s5, s6, s7, s8, s9, s10⟩
             go_simp
             with_reducible rfl
            rotate_left
            ·simp only [Act.put, List.setIfInBounds_toArray, List.set_cons_zero, List.set_cons_succ, i64_w, i32_w]
             rfl
            refine pu 19 86 HT_ (h := ?_)
            refine take_ (i := 21) (N := some 88) (v := ?_) (a' := ?_) #[true, true, true, true, true, true, true, true, true, true, true, true, true, true, true, true, true, true, true, true, true, true, false, false, false, false, false, false, false, false, false, false, false, false, false, false] rfl rfl (take_ofW HT_.out HW_.out (by kernel_rfl)) (fun _ _ _ h => h) (Or.inl ⟨by rfl, ?_⟩) hHeld ?_ ?_
            rotate_left
            ·rintro w' ⟨s0, s1, s2, s3, s4, s5, s6, s7, s8, s9, s10⟩
             go_simp
             with_reducible rfl
            rotate_left
            ·simp only [Act.put, List.setIfInBounds_toArray, List.set_cons_zero, List.set_cons_succ, i64_w, i32_w]
             rfl
            refine one_ (i := 22) (N := some 89) #[true, true, true, true, true, true, true, true, true, true, true, true, true, true, true, true, true, true, true, true, true, true, true, false, false, false, false, false, false, false, false, false, false, false, false, false] rfl rfl (one_of HT_.out (by kernel_rfl)) (by decide) (fun K hK => ?_)
            refine goes_ Try.func29 (by kernel_rfl) rfl #[.slice (some ad431) y432.length co19, .slice Ao12 t395.length co12] (by rfl) rfl rfl gl_ ?_
            with_reducible refine (laws_skInts.calls kj5 _ _ y432 _ _ t395 false _ ?side1 ?side2 ?side3 ?side4 A75.out).mono ?_
            (case side1 => repeat (first | exact (by repeat (first | (with_reducible exact HR435.out) | (with_reducible refine Kd.C_alloc ?_ _) | (with_reducible refine Kd.C_drewN ?_ _) | (with_reducible refine Kd.C_drew ?_) | exact HR435.out)) | (with_reducible refine Kd.C_alloc ?_ _) | (with_reducible refine Kd.C_drewN ?_ _) | (with_reducible refine Kd.C_drew ?_)))
            (case side2 => exact HC435.out)
            (case side3 => exact cN (Kd.R_reads' HO_400004.out).2.2)
            (case side4 => exact (Kd.R_reads' HO_400004.out).2.1)
            rintro e w' ⟨rfl, ⟨nd, rfl⟩⟩
            refine ⟨_, rfl, ?_⟩
            refine hK.out _ _ ⟨(blk_cell BK412.out 0).trans rfl, (blk_cell BK412.out 1).trans rfl, (blk_cell BK412.out 2).trans rfl, (blk_cell BK412.out 3).trans rfl, (blk_cell BK412.out 4).trans rfl, (blk_cell BK399.out 0).trans rfl, (blk_cell BK399.out 1).trans rfl, (blk_cell BK399.out 2).trans rfl, (blk_cell BK399.out 3).trans rfl, (blk_cell BK399.out 4).trans rfl, hHeld.2.2.2.2.2.2.2.2.2.2⟩ (fun hHeld => ?_)
            clear hK K
            refine norm_ (a' := ?_) ?_ ?_
            rotate_left
            ·show Act.put _ (some 89) _ = _
             simp only [Act.put, List.setIfInBounds_toArray, List.set_cons_zero, List.set_cons_succ, i64_w, i32_w]
             rfl
            refine pu 23 90 HT_ (h := ?_)
            refine pu 24 91 HT_ (h := ?_)
            refine pv 25 92 HT_ (h := ?_)
            refine pv 26 93 HT_ (h := ?_)
            refine pv 27 94 HT_ (h := ?_)
            refine pv 28 95 HT_ (h := ?_)
            refine pv 29 96 HT_ (h := ?_)
            refine pu 30 97 HT_ (h := ?_)
            refine pu 31 98 HT_ (h := ?_)
            refine pv 32 99 HT_ (h := ?_)
            refine pv 33 100 HT_ (h := ?_)
            refine pu 34 101 HT_ (h := ?_)
            refine pu 35 2 HT_ (h := ?_)
            refine done_ (done_of HT_.out (by kernel_rfl)) ?_
            try go_wp2
            go_ret
            exact ⟨by first | rfl | (simp [errW_none, errW_some] <;> rfl) | (simp [*, errW_none, errW_some] <;> rfl), by repeat (first | (with_reducible first | exact HB.out | apply below_alloc | apply pw_below_drewN | apply below_drew1 | refine below_set ?_ GE399.out | refine below_set ?_ GE412.out | refine below_set ?_ GE425.out) | exact HB.out)⟩
          ·rw [if_neg c74] at H
           exact absurd H (by simp)
         ·rw [if_neg c72] at H
          have c72b0 : ((rd t408 (t395.length : Int)) == t398) = false := beq_eq_false_iff_ne.mpr c72
          have c72b1 : ((rd t408 (t395.length : Int)) != t398) = true := bne_iff_ne.mpr c72
          obtain rfl := Option.some.inj H
          have hnb96 := NB399_412.out
          have hnc96 := NB412_399.out
          have hnb97 := NB399_425.out
          have hnc97 := NB425_399.out
          have hcz98_0 : wc.cell? ⟨gb399, 0, none⟩ = some (.slice Ao9 t387.length co9) := (blk_cell BK399.out 0).trans rfl
          have hcz98_1 : wc.cell? ⟨gb399, 1, none⟩ = some (.slice Ao11 t390.length co11) := (blk_cell BK399.out 1).trans rfl
          have hcz98_2 : wc.cell? ⟨gb399, 2, none⟩ = some (.int .i64 t393) := (blk_cell BK399.out 2).trans rfl
          have hcz98_3 : wc.cell? ⟨gb399, 3, none⟩ = some (.bool t394) := (blk_cell BK399.out 3).trans rfl
          have hcz98_4 : wc.cell? ⟨gb399, 4, none⟩ = some (.slice Ao12 t395.length co12) := (blk_cell BK399.out 4).trans rfl
          have hfz98_0 := blk_frozen BK399.out 0
          have hfz98_1 := blk_frozen BK399.out 1
          have hfz98_2 := blk_frozen BK399.out 2
          have hfz98_3 := blk_frozen BK399.out 3
          have hfz98_4 := blk_frozen BK399.out 4
          try go_wp2
          have n0_ := m_ (Kd.R_drew HO_400000.out)
          have n1_ := m_ (Kd.Q_drew HO_400001.out)
          have n2_ := m_ (Kd.R_drew HO_400004.out)
          have n3_ := m_ (Kd.R_drew HO_413000.out)
          have n4_ := m_ (Kd.Q_drew HO_413001.out)
          have n5_ := m_ (Kd.R_drew HO_413004.out)
          have n6_ := m_ (Kd.R_drew HO_426000.out)
          have n7_ := m_ (Kd.Q_drew HO_426001.out)
          have n8_ := m_ (Kd.R_drew HO_426004.out)
          have n9_ := m_ (blk_drew BK399.out)
          have n10_ := m_ (blk_drew BK412.out)
          have n11_ := m_ (blk_drew BK425.out)
          have n12_ := m_ (below_drew1 HB.out)
          clear HO_400000
          clear HO_400001
          clear HO_400004
          clear HO_413000
          clear HO_413001
          clear HO_413004
          clear HO_426000
          clear HO_426001
          clear HO_426004
          clear BK399
          clear BK412
          clear BK425
          clear HB
          have HO_400000 := n0_
          have HO_400001 := n1_
          have HO_400004 := n2_
          have HO_413000 := n3_
          have HO_413001 := n4_
          have HO_413004 := n5_
          have HO_426000 := n6_
          have HO_426001 := n7_
          have HO_426004 := n8_
          have BK399 := n9_
          have BK412 := n10_
          have BK425 := n11_
          have HB := n12_
          clear n0_ n1_ n2_ n3_ n4_ n5_ n6_ n7_ n8_ n9_ n10_ n11_ n12_
          have p431 : 0 ≤ ((t395.length : Int) : Int) := of_decide_eq_true (by first | (with_reducible assumption) | assumption)
          have q431 : (t395.length : Int) < (t408.length : Int) := of_decide_eq_true (by first | (with_reducible assumption) | assumption)
          obtain ⟨ad431, e431, hx431_0⟩ := Kd.at_int (Kd.R_reads' HO_413004.out).2.2 (t395.length : Int) p431 q431
          cases e431
          (try simp only [Go.IntWalk.toNatUp] at hx431_0)
          replace p431 := eq_true p431
          replace q431 := eq_true q431
          refine start_ (n := 36) (S := fun w' => w'.cell? ⟨gb412, 0, none⟩ = some (.slice Ao15 t400.length co15) ∧ w'.cell? ⟨gb412, 1, none⟩ = some (.slice Ao18 t403.length co18) ∧ w'.cell? ⟨gb412, 2, none⟩ = some (.int .i64 t406) ∧ w'.cell? ⟨gb412, 3, none⟩ = some (.bool t407) ∧ w'.cell? ⟨gb412, 4, none⟩ = some (.slice (some ad431) t408.length co19) ∧ w'.cell? (ad431.add t395.length) = some (.int .i64 (rd t408 (t395.length : Int)))) (ds := []) #[false, false, false, false, false, false, false, false, false, false, false, false, false, false, false, false, false, false, false, false, false, false, false, false, false, false, false, false, false, false, false, false, false, false, false, false] (by kernel_rfl) rfl rfl ⟨(blk_cell BK412.out 0).trans rfl, (blk_cell BK412.out 1).trans rfl, (blk_cell BK412.out 2).trans rfl, (blk_cell BK412.out 3).trans rfl, (blk_cell BK412.out 4).trans rfl, hx431_0⟩ (fun hHeld => ?_); refine with_tabW laws_FnPartSend.tab11 laws_FnPartSend.bits11 (fun HT_ HW_ => ?_)
          generalize wc.drew = w99 at HO_400000 HO_400001 HO_400004 HO_413000 HO_413001 HO_413004 HO_426000 HO_426001 HO_426004 BK399 BK412 BK425 HB hx431_0 hHeld ⊢
          refine pu 0 67 HT_ (h := ?_)
          refine pu 3 70 HT_ (h := ?_)
          refine pu 4 71 HT_ (h := ?_)
          refine take_ (i := 1) (N := some 68) (v := ?_) (a' := ?_) #[true, true, false, true, true, false, false, false, false, false, false, false, false, false, false, false, false, false, false, false, false, false, false, false, false, false, false, false, false, false, false, false, false, false, false, false] rfl rfl (take_ofW HT_.out HW_.out (by kernel_rfl)) (fun _ _ _ h => h) (Or.inl ⟨by rfl, ?_⟩) hHeld ?_ ?_
          rotate_left
          ·rintro w' ⟨s0, s1, s2, s3, s4, s5⟩
           go_simp
           with_reducible rfl
          rotate_left
          ·simp only [Act.put, List.setIfInBounds_toArray, List.set_cons_zero, List.set_cons_succ, i64_w, i32_w]
           rfl
          refine pu 2 69 HT_ (h := ?_)
          refine pu 5 72 HT_ (h := ?_)
          refine pu 6 73 HT_ (h := ?_)
          refine pu 7 74 HT_ (h := ?_)
          refine pu 9 76 HT_ (h := ?_)
          refine pu 12 79 HT_ (h := ?_)
          refine take_ (i := 8) (N := some 75) (v := ?_) (a' := ?_) #[true, true, true, true, true, true, true, true, true, true, false, false, true, false, false, false, false, false, false, false, false, false, false, false, false, false, false, false, false, false, false, false, false, false, false, false] rfl rfl (take_ofW HT_.out HW_.out (by kernel_rfl)) (fun _ _ _ h => h) (Or.inl ⟨by rfl, ?_⟩) hHeld ?_ ?_
          rotate_left
          ·rintro w' ⟨s0, s1, s2, s3, s4, s5⟩
           go_simp
           with_reducible rfl
          rotate_left
          ·simp only [Act.put, List.setIfInBounds_toArray, List.set_cons_zero, List.set_cons_succ, i64_w, i32_w]
           rfl
          refine pu 10 77 HT_ (h := ?_)
          refine take_ (i := 11) (N := some 78) (v := ?_) (a' := ?_) #[true, true, true, true, true, true, true, true, true, true, true, true, true, false, false, false, false, false, false, false, false, false, false, false, false, false, false, false, false, false, false, false, false, false, false, false] rfl rfl (take_ofW HT_.out HW_.out (by kernel_rfl)) (fun _ _ _ h => h) (Or.inl ⟨by rfl, ?_⟩) hHeld ?_ ?_
          rotate_left
          ·rintro w' ⟨s0, s1, s2, s3, s4, s5⟩
           go_simp
           with_reducible rfl
          rotate_left
          ·simp only [Act.put, List.setIfInBounds_toArray, List.set_cons_zero, List.set_cons_succ, i64_w, i32_w]
           rfl
          refine pu 13 80 HT_ (h := ?_)
          refine pu 14 81 HT_ (h := ?_)
          refine pu 15 82 HT_ (h := ?_)
          refine pv 16 83 HT_ (h := ?_)
          refine pv 17 84 HT_ (h := ?_)
          refine pv 18 85 HT_ (h := ?_)
          refine pv 19 86 HT_ (h := ?_)
          refine pv 20 87 HT_ (h := ?_)
          refine pv 21 88 HT_ (h := ?_)
          refine pv 22 89 HT_ (h := ?_)
          refine pu 23 90 HT_ (h := ?_)
          refine pu 24 91 HT_ (h := ?_)
          refine pv 25 92 HT_ (h := ?_)
          refine pv 26 93 HT_ (h := ?_)
          refine pv 27 94 HT_ (h := ?_)
          refine pv 28 95 HT_ (h := ?_)
          refine pv 29 96 HT_ (h := ?_)
          refine pu 30 97 HT_ (h := ?_)
          refine pu 31 98 HT_ (h := ?_)
          refine pv 32 99 HT_ (h := ?_)
          refine pv 33 100 HT_ (h := ?_)
          refine pu 34 101 HT_ (h := ?_)
          refine pu 35 2 HT_ (h := ?_)
          refine done_ (done_of HT_.out (by kernel_rfl)) ?_
          try go_wp2
          go_ret
          exact ⟨by first | rfl | (simp [errW_none, errW_some] <;> rfl) | (simp [*, errW_none, errW_some] <;> rfl), by repeat (first | (with_reducible first | exact HB.out | apply below_alloc | apply pw_below_drewN | apply below_drew1 | refine below_set ?_ GE399.out | refine below_set ?_ GE412.out | refine below_set ?_ GE425.out) | exact HB.out)⟩
        ·rw [if_neg c71] at H
         exact absurd H (by simp)
       ·rw [if_neg c70] at H
        exact absurd H (by simp)
      ·rw [if_neg c69] at H
       have c69b0 : ((t408.length : Int) == (wrap64 ((t395.length : Int) + 1))) = false := beq_eq_false_iff_ne.mpr c69
       have c69b1 : ((t408.length : Int) != (wrap64 ((t395.length : Int) + 1))) = true := bne_iff_ne.mpr c69
       obtain rfl := Option.some.inj H
       have hnb100 := NB399_412.out
       have hnc100 := NB412_399.out
       have hnb101 := NB399_425.out
       have hnc101 := NB425_399.out
       have hcz102_0 : wc.cell? ⟨gb399, 0, none⟩ = some (.slice Ao9 t387.length co9) := (blk_cell BK399.out 0).trans rfl
       have hcz102_1 : wc.cell? ⟨gb399, 1, none⟩ = some (.slice Ao11 t390.length co11) := (blk_cell BK399.out 1).trans rfl
       have hcz102_2 : wc.cell? ⟨gb399, 2, none⟩ = some (.int .i64 t393) := (blk_cell BK399.out 2).trans rfl
       have hcz102_3 : wc.cell? ⟨gb399, 3, none⟩ = some (.bool t394) := (blk_cell BK399.out 3).trans rfl
       have hcz102_4 : wc.cell? ⟨gb399, 4, none⟩ = some (.slice Ao12 t395.length co12) := (blk_cell BK399.out 4).trans rfl
       have hfz102_0 := blk_frozen BK399.out 0
       have hfz102_1 := blk_frozen BK399.out 1
       have hfz102_2 := blk_frozen BK399.out 2
       have hfz102_3 := blk_frozen BK399.out 3
       have hfz102_4 := blk_frozen BK399.out 4
       try go_wp2
       have n0_ := m_ (Kd.R_drew HO_400000.out)
       have n1_ := m_ (Kd.Q_drew HO_400001.out)
       have n2_ := m_ (Kd.R_drew HO_400004.out)
       have n3_ := m_ (Kd.R_drew HO_413000.out)
       have n4_ := m_ (Kd.Q_drew HO_413001.out)
       have n5_ := m_ (Kd.R_drew HO_413004.out)
       have n6_ := m_ (Kd.R_drew HO_426000.out)
       have n7_ := m_ (Kd.Q_drew HO_426001.out)
       have n8_ := m_ (Kd.R_drew HO_426004.out)
       have n9_ := m_ (blk_drew BK399.out)
       have n10_ := m_ (blk_drew BK412.out)
       have n11_ := m_ (blk_drew BK425.out)
       have n12_ := m_ (below_drew1 HB.out)
       clear HO_400000
       clear HO_400001
       clear HO_400004
       clear HO_413000
       clear HO_413001
       clear HO_413004
       clear HO_426000
       clear HO_426001
       clear HO_426004
       clear BK399
       clear BK412
       clear BK425
       clear HB
       have HO_400000 := n0_
       have HO_400001 := n1_
       have HO_400004 := n2_
       have HO_413000 := n3_
       have HO_413001 := n4_
       have HO_413004 := n5_
       have HO_426000 := n6_
       have HO_426001 := n7_
       have HO_426004 := n8_
       have BK399 := n9_
       have BK412 := n10_
       have BK425 := n11_
       have HB := n12_
       clear n0_ n1_ n2_ n3_ n4_ n5_ n6_ n7_ n8_ n9_ n10_ n11_ n12_
       refine start_ (n := 36) (S := fun w' => w'.cell? ⟨gb412, 0, none⟩ = some (.slice Ao15 t400.length co15) ∧ w'.cell? ⟨gb412, 1, none⟩ = some (.slice Ao18 t403.length co18) ∧ w'.cell? ⟨gb412, 2, none⟩ = some (.int .i64 t406) ∧ w'.cell? ⟨gb412, 3, none⟩ = some (.bool t407) ∧ w'.cell? ⟨gb412, 4, none⟩ = some (.slice Ao19 t408.length co19)) (ds := []) #[false, false, false, false, false, false, false, false, false, false, false, false, false, false, false, false, false, false, false, false, false, false, false, false, false, false, false, false, false, false, false, false, false, false, false, false] (by kernel_rfl) rfl rfl ⟨(blk_cell BK412.out 0).trans rfl, (blk_cell BK412.out 1).trans rfl, (blk_cell BK412.out 2).trans rfl, (blk_cell BK412.out 3).trans rfl, (blk_cell BK412.out 4).trans rfl⟩ (fun hHeld => ?_); refine with_tabW laws_FnPartSend.tab11 laws_FnPartSend.bits11 (fun HT_ HW_ => ?_)
       generalize wc.drew = w103 at HO_400000 HO_400001 HO_400004 HO_413000 HO_413001 HO_413004 HO_426000 HO_426001 HO_426004 BK399 BK412 BK425 HB hHeld ⊢
       refine pu 0 67 HT_ (h := ?_)
       refine pu 3 70 HT_ (h := ?_)
       refine pu 4 71 HT_ (h := ?_)
       refine take_ (i := 1) (N := some 68) (v := ?_) (a' := ?_) #[true, true, false, true, true, false, false, false, false, false, false, false, false, false, false, false, false, false, false, false, false, false, false, false, false, false, false, false, false, false, false, false, false, false, false, false] rfl rfl (take_ofW HT_.out HW_.out (by kernel_rfl)) (fun _ _ _ h => h) (Or.inl ⟨by rfl, ?_⟩) hHeld ?_ ?_
       rotate_left
       ·rintro w' ⟨s0, s1, s2, s3, s4⟩
        go_simp
        with_reducible rfl
       rotate_left
       ·simp only [Act.put, List.setIfInBounds_toArray, List.set_cons_zero, List.set_cons_succ, i64_w, i32_w]
        rfl
       refine pu 2 69 HT_ (h := ?_)
       refine pu 5 72 HT_ (h := ?_)
       refine pu 6 73 HT_ (h := ?_)
       refine pv 7 74 HT_ (h := ?_)
       refine pv 8 75 HT_ (h := ?_)
       refine pv 9 76 HT_ (h := ?_)
       refine pv 10 77 HT_ (h := ?_)
       refine pv 11 78 HT_ (h := ?_)
       refine pv 12 79 HT_ (h := ?_)
       refine pv 13 80 HT_ (h := ?_)
       refine pu 14 81 HT_ (h := ?_)
       refine pu 15 82 HT_ (h := ?_)
       refine pv 16 83 HT_ (h := ?_)
       refine pv 17 84 HT_ (h := ?_)
       refine pv 18 85 HT_ (h := ?_)
       refine pv 19 86 HT_ (h := ?_)
       refine pv 20 87 HT_ (h := ?_)
       refine pv 21 88 HT_ (h := ?_)
       refine pv 22 89 HT_ (h := ?_)
       refine pu 23 90 HT_ (h := ?_)
       refine pu 24 91 HT_ (h := ?_)
       refine pv 25 92 HT_ (h := ?_)
       refine pv 26 93 HT_ (h := ?_)
       refine pv 27 94 HT_ (h := ?_)
       refine pv 28 95 HT_ (h := ?_)
       refine pv 29 96 HT_ (h := ?_)
       refine pu 30 97 HT_ (h := ?_)
       refine pu 31 98 HT_ (h := ?_)
       refine pv 32 99 HT_ (h := ?_)
       refine pv 33 100 HT_ (h := ?_)
       refine pu 34 101 HT_ (h := ?_)
       refine pu 35 2 HT_ (h := ?_)
       refine done_ (done_of HT_.out (by kernel_rfl)) ?_
       try go_wp2
       go_ret
       exact ⟨by first | rfl | (simp [errW_none, errW_some] <;> rfl) | (simp [*, errW_none, errW_some] <;> rfl), by repeat (first | (with_reducible first | exact HB.out | apply below_alloc | apply pw_below_drewN | apply below_drew1 | refine below_set ?_ GE399.out | refine below_set ?_ GE412.out | refine below_set ?_ GE425.out) | exact HB.out)⟩
     ·replace c68 := Bool.eq_false_iff.mpr c68
      subst c68
      have H1 : ((laws_skPart.f kj5 t400 t403 t406 t407 t408 t387 t390 t393 t394 t395).bind fun t439 => (some t439)) = some r := by rw [if_neg (show ¬ (false = true) by decide)] at H; exact H
      clear H
      have H := H1
      clear H1
      replace H := Option.bind_eq_some_iff.mp H
      obtain ⟨t439, A1040, H⟩ := H
      replace H : (some t439) = some r := H
      have A104 := Aside0.mk A1040
      clear A1040
      obtain rfl := Option.some.inj H
      have hnb105 := NB412_399.out
      have hnc105 := NB399_412.out
      have hnb106 := NB412_425.out
      have hnc106 := NB425_412.out
      have hcz107_0 : wc.cell? ⟨gb412, 0, none⟩ = some (.slice Ao15 t400.length co15) := (blk_cell BK412.out 0).trans rfl
      have hcz107_1 : wc.cell? ⟨gb412, 1, none⟩ = some (.slice Ao18 t403.length co18) := (blk_cell BK412.out 1).trans rfl
      have hcz107_2 : wc.cell? ⟨gb412, 2, none⟩ = some (.int .i64 t406) := (blk_cell BK412.out 2).trans rfl
      have hcz107_3 : wc.cell? ⟨gb412, 3, none⟩ = some (.bool t407) := (blk_cell BK412.out 3).trans rfl
      have hcz107_4 : wc.cell? ⟨gb412, 4, none⟩ = some (.slice Ao19 t408.length co19) := (blk_cell BK412.out 4).trans rfl
      have hfz107_0 := blk_frozen BK412.out 0
      have hfz107_1 := blk_frozen BK412.out 1
      have hfz107_2 := blk_frozen BK412.out 2
      have hfz107_3 := blk_frozen BK412.out 3
      have hfz107_4 := blk_frozen BK412.out 4
      have hnb108 := NB399_425.out
      have hnc108 := NB425_399.out
      have hcz109_0 : wc.cell? ⟨gb399, 0, none⟩ = some (.slice Ao9 t387.length co9) := (blk_cell BK399.out 0).trans rfl
      have hcz109_1 : wc.cell? ⟨gb399, 1, none⟩ = some (.slice Ao11 t390.length co11) := (blk_cell BK399.out 1).trans rfl
      have hcz109_2 : wc.cell? ⟨gb399, 2, none⟩ = some (.int .i64 t393) := (blk_cell BK399.out 2).trans rfl
      have hcz109_3 : wc.cell? ⟨gb399, 3, none⟩ = some (.bool t394) := (blk_cell BK399.out 3).trans rfl
      have hcz109_4 : wc.cell? ⟨gb399, 4, none⟩ = some (.slice Ao12 t395.length co12) := (blk_cell BK399.out 4).trans rfl
      have hfz109_0 := blk_frozen BK399.out 0
      have hfz109_1 := blk_frozen BK399.out 1
      have hfz109_2 := blk_frozen BK399.out 2
      have hfz109_3 := blk_frozen BK399.out 3
      have hfz109_4 := blk_frozen BK399.out 4
      go_wp2_with (first | ((with_reducible refine gate_callee (f := 16) rfl ?_); refine goesL_ (some 63) rfl rfl Try.func16 (by kernel_rfl) rfl #[.agg #[.slice Ao15 t400.length co15, .slice Ao18 t403.length co18, .int .i64 t406, .bool t407, .slice Ao19 t408.length co19], .agg #[.slice Ao9 t387.length co9, .slice Ao11 t390.length co11, .int .i64 t393, .bool t394, .slice Ao12 t395.length co12]] rfl gl_ ?_; (with_reducible refine (laws_skPart.calls kj5 _ _ t400 _ _ t403 t406 t407 _ _ t408 _ _ t387 _ _ t390 t393 t394 _ _ t395 t439 _ ?side1 ?side2 ?side3 ?side4 ?side5 ?side6 ?side7 ?side8 ?side9 ?side10 ?side11 ?side12 A104.out).mono ?_); (case side1 => exact cN (Kd.R_reads' HO_413000.out).2.2); (case side2 => exact (Kd.R_reads' HO_413000.out).2.1); (case side3 => exact cN (Kd.Q_reads' HO_413001.out).2.2); (case side4 => exact (Kd.Q_reads' HO_413001.out).2.1); (case side5 => exact cN (Kd.R_reads' HO_413004.out).2.2); (case side6 => exact (Kd.R_reads' HO_413004.out).2.1); (case side7 => exact cN (Kd.R_reads' HO_400000.out).2.2); (case side8 => exact (Kd.R_reads' HO_400000.out).2.1); (case side9 => exact cN (Kd.Q_reads' HO_400001.out).2.2); (case side10 => exact (Kd.Q_reads' HO_400001.out).2.1); (case side11 => exact cN (Kd.R_reads' HO_400004.out).2.2); (case side12 => exact (Kd.R_reads' HO_400004.out).2.1); rintro e w110 ⟨rfl, hb⟩; refine ⟨_, rfl, ?_⟩; have n0_ := m_ (Kd.R_below (rN HO_400000.out) hb); have n1_ := m_ (Kd.Q_below (by (with_reducible repeat (first | apply Kd.Q_alloc | apply Kd.Q_drewN | apply Kd.Q_drew)); exact HO_400001.out) hb); have n2_ := m_ (Kd.R_below (rN HO_400004.out) hb); have n3_ := m_ (Kd.R_below (rN HO_413000.out) hb); have n4_ := m_ (Kd.Q_below (by (with_reducible repeat (first | apply Kd.Q_alloc | apply Kd.Q_drewN | apply Kd.Q_drew)); exact HO_413001.out) hb); have n5_ := m_ (Kd.R_below (rN HO_413004.out) hb); have n6_ := m_ (Kd.R_below (rN HO_426000.out) hb); have n7_ := m_ (Kd.Q_below (by (with_reducible repeat (first | apply Kd.Q_alloc | apply Kd.Q_drewN | apply Kd.Q_drew)); exact HO_426001.out) hb); have n8_ := m_ (Kd.R_below (rN HO_426004.out) hb); have n9_ := m_ (blk_below (g := gb399) (o := .cells #[.slice Ao9 t387.length co9, .slice Ao11 t390.length co11, .int .i64 t393, .bool t394, .slice Ao12 t395.length co12] 33 (0, 0)) (by (with_reducible repeat (first | refine blk_drewN ?_ _ | refine blk_drew ?_ | refine blk_alloc ?_ _)); exact BK399.out) hb); have n10_ := m_ (blk_below (g := gb412) (o := .cells #[.slice Ao15 t400.length co15, .slice Ao18 t403.length co18, .int .i64 t406, .bool t407, .slice Ao19 t408.length co19] 33 (0, 0)) (by (with_reducible repeat (first | refine blk_drewN ?_ _ | refine blk_drew ?_ | refine blk_alloc ?_ _)); exact BK412.out) hb); have n11_ := m_ (blk_below (g := gb425) (o := .cells #[.slice Ao23 t413.length co23, .slice Ao27 t416.length co27, .int .i64 t419, .bool t420, .slice Ao28 t421.length co28] 33 (0, 0)) (by (with_reducible repeat (first | refine blk_drewN ?_ _ | refine blk_drew ?_ | refine blk_alloc ?_ _)); exact BK425.out) hb); have n12_ := m_ (below_step (bN HB.out) hb); clear HO_400000; clear HO_400001; clear HO_400004; clear HO_413000; clear HO_413001; clear HO_413004; clear HO_426000; clear HO_426001; clear HO_426004; clear BK399; clear BK412; clear BK425; clear HB; have HO_400000 := n0_; have HO_400001 := n1_; have HO_400004 := n2_; have HO_413000 := n3_; have HO_413001 := n4_; have HO_413004 := n5_; have HO_426000 := n6_; have HO_426001 := n7_; have HO_426004 := n8_; have BK399 := n9_; have BK412 := n10_; have BK425 := n11_; have HB := n12_; clear n0_ n1_ n2_ n3_ n4_ n5_ n6_ n7_ n8_ n9_ n10_ n11_ n12_; (try clear hb); (try clear hb2); (try clear hk); (try clear hi)))
      go_ret
      exact ⟨by first | rfl | (simp [errW_none, errW_some] <;> rfl) | (simp [*, errW_none, errW_some] <;> rfl), by repeat (first | (with_reducible first | exact HB.out | apply below_alloc | apply pw_below_drewN | apply below_drew1 | refine below_set ?_ GE399.out | refine below_set ?_ GE412.out | refine below_set ?_ GE425.out) | exact HB.out)⟩

/-- THE ONE PURE STATEMENT of laws_FnPartSend: yours. -/
def laws_FnPartSend.Pure : Prop := ∀ (l0 : List Int), l0.length ≤ maxLen → l0.length * 1 ≤ 140737488351232 → (∀ x ∈ l0, (Lit.int .u8 x).wf = true) → ∃ k, laws_FnPartSend.f k l0 = some true
theorem laws_FnPartSend.walk (P : laws_FnPartSend.Pure) (a0 : Option Addr) (len0 cap0 : Nat) (z0 : List Int) (w : World) (w0 : (a0 = none ∧ len0 = 0 ∧ cap0 = 0 ∧ z0 = []) ∨ ∃ x, a0 = some x ∧ len0 ≤ cap0 ∧ cap0 ≤ maxLen ∧ z0.length = cap0 ∧ (∀ i, i < z0.length → w.cell? (x.add i) = some (.int .u8 (z0.getD i 0))) ∧ ∀ n ∈ z0, (Lit.int .u8 n).wf = true) (y0 : len0 * 1 ≤ 140737488351232) :
  Calls Try.prog 7 #[.slice a0 len0 cap0] w fun e w' => e = .returned (.bool true) ∧ Below w.heap.size w w' := by
 obtain ⟨l0, rfl, hr0, hm0, hw0, hc0⟩ := ReadsInt.ofRowC w0
 obtain ⟨k, h⟩ := P l0 hm0 y0 hw0
 refine (laws_FnPartSend.calls k _ _ l0 true w (Kd.C_of_reads (d := (0 : Int)) (h1 := fun _ => rfl) hr0) hc0 h).mono ?_
 rintro e w' ⟨rfl, hd⟩
 exact ⟨rfl, hd⟩

end Go.Proofs.Ytmhdphohhheoaaa.P
