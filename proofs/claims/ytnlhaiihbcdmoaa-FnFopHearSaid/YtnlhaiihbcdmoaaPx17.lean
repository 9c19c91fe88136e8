/- The machine side of these statements, function by function: what each Go function answers (as a Lean function), and that it does. Written by a program (mp.py) for this claim. -/
import Derived.Test.YtnlhaiihbcdmoaaPx0
import Derived.Test.YtnlhaiihbcdmoaaPx5
import Derived.Test.YtnlhaiihbcdmoaaPx6
import Derived.Test.YtnlhaiihbcdmoaaPx9
import Derived.Test.YtnlhaiihbcdmoaaPx11
import Derived.Test.YtnlhaiihbcdmoaaPx16
namespace Go.Proofs.Ytnlhaiihbcdmoaa.P
open Go.RowKit Go.Proofs.YtnlhaiihbcdmoaaW.PrintWords Go.Proofs.YtnlhaiihbcdmoaaW.PrintLast Go.Proofs.YtnlhaiihbcdmoaaW.PrintMore
attribute [local go_sem] max2_int min2_int max_two min_two max_three min_three max_four min_four   -- for this text's walks alone
set_option linter.unusedVariables false
set_option linter.unusedSimpArgs false

/-! ### laws_FnFopHear: function 4 -/
def laws_FnFopHear.j0 : Nat → Bool → Bool → Bool → Int → Int → Int → List ByteArray → Bool → Bool → Bool → Bool → Int → Int → Int → Int → Int → List ByteArray → Bool → Int → Int → Int → List ByteArray → Bool → Option (Bool)
 | 0, _, _, _, _, _, _, _, _, _, _, _, _, _, _, _, _, _, _, _, _, _, _, _ => none
 | k + 1, x6, x8, x43, x425000, x425001, x425002, x425003, x425004, x426000, x426001, x426002, x426003, x426004, x435000, x435001, x435002, x435003, x435004, x444000, x444001, x444002, x444003, x444004 => if x43 = true then ((laws_skFop.f k x435000 x435001 x435002 x435003 x435004 x444000 x444001 x444002 x444003 x444004).bind fun t446 => (if t446 = true then (some (x6 == x8)) else (some false))) else (if x6 = true then (if (wrap64 ((x425003.length : Int) - (x435003.length : Int))) ≥ 0 then (if 0 ≤ (wrap64 ((x425003.length : Int) - (x435003.length : Int))) then (if (wrap64 ((x425003.length : Int) - (x435003.length : Int))) ≤ (x425003.length : Int) then ((laws_skTexts.f k x435003 (x425003.drop ((wrap64 ((x425003.length : Int) - (x435003.length : Int))) : Int).toNat)).bind fun t451 => (if t451 = true then (if x435002 = x425002 then ((impl_FopFirst.f k x435000 x435001 x435002 x435003 x435004).bind fun t452 => (if t452 = x426004 then (some (x435004 == x426000)) else (some false))) else (some false)) else (some false))) else (none)) else (none)) else (some false)) else ((laws_skFop.f k x435000 x435001 x435002 x435003 x435004 x425000 x425001 x425002 x425003 x425004).bind fun t453 => (some t453)))
def laws_FnFopHear.f (k : Nat) (l0 : List Int) : Option (Bool) := if (l0.length : Int) > 1048576 then (some true) else ((spec_DrawFopHear.f k l0).bind fun bt412 => ((impl_FopHear.f k bt412.1 bt412.2.1 bt412.2.2.1 bt412.2.2.2.1 bt412.2.2.2.2.1 bt412.2.2.2.2.2.1 bt412.2.2.2.2.2.2.1 bt412.2.2.2.2.2.2.2.1 bt412.2.2.2.2.2.2.2.2.1 bt412.2.2.2.2.2.2.2.2.2).bind fun bt426 => ((spec_FopHear.f k bt412.1 bt412.2.1 bt412.2.2.1 bt412.2.2.2.1 bt412.2.2.2.2.1 bt412.2.2.2.2.2.1 bt412.2.2.2.2.2.2.1 bt412.2.2.2.2.2.2.2.1 bt412.2.2.2.2.2.2.2.2.1 bt412.2.2.2.2.2.2.2.2.2).bind fun bt435 => ((laws_skFop.f k bt426.1 bt426.2.1 bt426.2.2.1 bt426.2.2.2.1 bt426.2.2.2.2.1 bt435.1 bt435.2.1 bt435.2.2.1 bt435.2.2.2.1 bt435.2.2.2.2.1).bind fun t444 => (if t444 = true then (if (bt426.2.2.2.2.2 != bt435.2.2.2.2.2) = true then (laws_FnFopHear.j0 k bt426.2.2.2.2.2 bt435.2.2.2.2.2 true bt412.1 bt412.2.1 bt412.2.2.1 bt412.2.2.2.1 bt412.2.2.2.2.1 bt412.2.2.2.2.2.1 bt412.2.2.2.2.2.2.1 bt412.2.2.2.2.2.2.2.1 bt412.2.2.2.2.2.2.2.2.1 bt412.2.2.2.2.2.2.2.2.2 bt426.1 bt426.2.1 bt426.2.2.1 bt426.2.2.2.1 bt426.2.2.2.2.1 bt435.1 bt435.2.1 bt435.2.2.1 bt435.2.2.2.1 bt435.2.2.2.2.1) else ((spec_FopOk.f k bt412.1 bt412.2.1 bt412.2.2.1 bt412.2.2.2.1 bt412.2.2.2.2.1).bind fun t445 => (laws_FnFopHear.j0 k bt426.2.2.2.2.2 bt435.2.2.2.2.2 (!t445) bt412.1 bt412.2.1 bt412.2.2.1 bt412.2.2.2.1 bt412.2.2.2.2.1 bt412.2.2.2.2.2.1 bt412.2.2.2.2.2.2.1 bt412.2.2.2.2.2.2.2.1 bt412.2.2.2.2.2.2.2.2.1 bt412.2.2.2.2.2.2.2.2.2 bt426.1 bt426.2.1 bt426.2.2.1 bt426.2.2.2.1 bt426.2.2.2.2.1 bt435.1 bt435.2.1 bt435.2.2.1 bt435.2.2.2.1 bt435.2.2.2.2.1))) else (laws_FnFopHear.j0 k bt426.2.2.2.2.2 bt435.2.2.2.2.2 true bt412.1 bt412.2.1 bt412.2.2.1 bt412.2.2.2.1 bt412.2.2.2.2.1 bt412.2.2.2.2.2.1 bt412.2.2.2.2.2.2.1 bt412.2.2.2.2.2.2.2.1 bt412.2.2.2.2.2.2.2.2.1 bt412.2.2.2.2.2.2.2.2.2 bt426.1 bt426.2.1 bt426.2.2.1 bt426.2.2.2.1 bt426.2.2.2.2.1 bt435.1 bt435.2.1 bt435.2.2.1 bt435.2.2.2.1 bt435.2.2.2.2.1))))))
theorem laws_FnFopHear.mono_l : ∀ k, (∀ y0 y1 y2 y3 y4 y5 y6 y7 y8 y9 y10 y11 y12 y13 y14 y15 y16 y17 y18 y19 y20 y21 y22, LeO (laws_FnFopHear.j0 k y0 y1 y2 y3 y4 y5 y6 y7 y8 y9 y10 y11 y12 y13 y14 y15 y16 y17 y18 y19 y20 y21 y22) (laws_FnFopHear.j0 (k + 1) y0 y1 y2 y3 y4 y5 y6 y7 y8 y9 y10 y11 y12 y13 y14 y15 y16 y17 y18 y19 y20 y21 y22))
 | 0 => fun _ _ _ _ _ _ _ _ _ _ _ _ _ _ _ _ _ _ _ _ _ _ _ r h => by simp [laws_FnFopHear.j0] at h
 | k + 1 => by
  have ih0 := laws_FnFopHear.mono_l k
  ·intro y0 y1 y2 y3 y4 y5 y6 y7 y8 y9 y10 y11 y12 y13 y14 y15 y16 y17 y18 y19 y20 y21 y22
   unfold laws_FnFopHear.j0
   repeat' first
   | (with_reducible exact ih0 _ _ _ _ _ _ _ _ _ _ _ _ _ _ _ _ _ _ _ _ _ _ _)
   | (with_reducible exact impl_FopFirst.mono _ _ _ _ _ _)
   | (with_reducible exact impl_FopHear.mono _ _ _ _ _ _ _ _ _ _ _)
   | (with_reducible exact laws_skFop.mono _ _ _ _ _ _ _ _ _ _ _)
   | (with_reducible exact laws_skTexts.mono _ _ _)
   | (with_reducible exact spec_DrawFopHear.mono _ _)
   | (with_reducible exact spec_FopHear.mono _ _ _ _ _ _ _ _ _ _ _)
   | (with_reducible exact spec_FopOk.mono _ _ _ _ _ _)
   | (with_reducible exact LeO.refl _)
   | (with_reducible exact LeO.none _)
   | (with_reducible refine LeO.ite ?_ ?_)
   | (with_reducible refine LeO.bind ?_ (fun _ => ?_))
   | exact ih0 _ _ _ _ _ _ _ _ _ _ _ _ _ _ _ _ _ _ _ _ _ _ _
   | exact impl_FopFirst.mono _ _ _ _ _ _
   | exact impl_FopHear.mono _ _ _ _ _ _ _ _ _ _ _
   | exact laws_skFop.mono _ _ _ _ _ _ _ _ _ _ _
   | exact laws_skTexts.mono _ _ _
   | exact spec_DrawFopHear.mono _ _
   | exact spec_FopHear.mono _ _ _ _ _ _ _ _ _ _ _
   | exact spec_FopOk.mono _ _ _ _ _ _
   | exact LeO.none _
   | refine LeO.ite ?_ ?_
   | refine LeO.bind ?_ (fun _ => ?_)
theorem laws_FnFopHear.mono : ∀ a0 k, LeO (laws_FnFopHear.f k a0) (laws_FnFopHear.f (k + 1) a0) := by
 intro a0 k
 have ih0 := laws_FnFopHear.mono_l k
 unfold laws_FnFopHear.f
 repeat' first
   | (with_reducible exact ih0 _ _ _ _ _ _ _ _ _ _ _ _ _ _ _ _ _ _ _ _ _ _ _)
   | (with_reducible exact impl_FopFirst.mono _ _ _ _ _ _)
   | (with_reducible exact impl_FopHear.mono _ _ _ _ _ _ _ _ _ _ _)
   | (with_reducible exact laws_skFop.mono _ _ _ _ _ _ _ _ _ _ _)
   | (with_reducible exact laws_skTexts.mono _ _ _)
   | (with_reducible exact spec_DrawFopHear.mono _ _)
   | (with_reducible exact spec_FopHear.mono _ _ _ _ _ _ _ _ _ _ _)
   | (with_reducible exact spec_FopOk.mono _ _ _ _ _ _)
   | (with_reducible exact LeO.refl _)
   | (with_reducible exact LeO.none _)
   | (with_reducible refine LeO.ite ?_ ?_)
   | (with_reducible refine LeO.bind ?_ (fun _ => ?_))
   | exact ih0 _ _ _ _ _ _ _ _ _ _ _ _ _ _ _ _ _ _ _ _ _ _ _
   | exact impl_FopFirst.mono _ _ _ _ _ _
   | exact impl_FopHear.mono _ _ _ _ _ _ _ _ _ _ _
   | exact laws_skFop.mono _ _ _ _ _ _ _ _ _ _ _
   | exact laws_skTexts.mono _ _ _
   | exact spec_DrawFopHear.mono _ _
   | exact spec_FopHear.mono _ _ _ _ _ _ _ _ _ _ _
   | exact spec_FopOk.mono _ _ _ _ _ _
   | exact LeO.none _
   | refine LeO.ite ?_ ?_
   | refine LeO.bind ?_ (fun _ => ?_)
def laws_FnFopHear.T11 : Bool × List (List Nat × List Nat) := (true, [([], []), ([0], [0]), ([1], [1]), ([2], [2]), ([3, 2], [2, 3]), ([2], [2]), ([5, 2], [2, 5]), ([2], [2]), ([6, 7, 2], [2, 6, 7]), ([4, 8, 2, 2], [2, 4, 8]), ([2, 9], [2, 9]), ([10, 9], [10]), ([11], [11]), ([12, 11], [11, 12]), ([11], [11]), ([14, 11], [11, 14]), ([13, 15, 11], [11, 13, 15]), ([11, 16], [11, 16]), ([17, 11], [17]), ([18], [18]), ([19, 18, 18], [18, 19]), ([18], [18]), ([21, 18], [18, 21]), ([20, 22, 18], [18, 20, 22]), ([18, 23], [18, 23]), ([24, 20], [24]), ([25], [25]), ([26, 25], [25, 26]), ([25], [25]), ([28, 25], [25, 28]), ([27, 29, 25], [25, 27, 29]), ([25, 30], [25, 30]), ([31, 25, 0, 1, 2, 3, 4, 5, 6, 7, 8, 9, 10, 11, 12, 13, 14, 15, 16, 17, 18, 19, 20, 21, 22, 23, 24, 25, 26, 27, 28, 29, 30, 31], [31])])
def laws_FnFopHear.B11 : List Nat := [0, 1, 3, 7, 15, 7, 39, 7, 231, 511, 1023, 2047, 4095, 8191, 4095, 20479, 65535, 131071, 262143, 524287, 1048575, 524287, 2621439, 8388607, 16777215, 33554431, 67108863, 134217727, 67108863, 335544319, 1073741823, 2147483647, 4294967295]
theorem laws_FnFopHear.tab11 : rtab .any (opsOf Try.f4 11) = laws_FnFopHear.T11 := by kernel_rfl
theorem laws_FnFopHear.bits11 : waitsOk laws_FnFopHear.T11.2 laws_FnFopHear.B11 = true := by kernel_rfl
set_option maxHeartbeats 8000000 in
set_option maxRecDepth 100000 in
theorem laws_FnFopHear.calls (k : Nat) (A0 : Option Addr) (c0 : Nat) (l0 : List Int) (r : Bool) (w : World) (hr0 : Kd.C (Kd.int .u8) w A0 l0.length l0) (hc0 : l0.length ≤ c0) (h : laws_FnFopHear.f k l0 = some r) :
  Calls Try.prog 4 #[.slice A0 l0.length c0] w fun e w' => e = .returned (.bool r) ∧ Below w.heap.size w w' := by
 have hu25 := Try.underlying25
 have hu39 := Try.underlying39
 have HR0 := Aside0.mk hr0
 have HC0 := Aside0.mk hc0
 clear hr0 hc0
 have HB := m_ (Below.refl w.heap.size w)
 have H : (if (l0.length : Int) > 1048576 then (some true) else ((spec_DrawFopHear.f k l0).bind fun bt412 => ((impl_FopHear.f k bt412.1 bt412.2.1 bt412.2.2.1 bt412.2.2.2.1 bt412.2.2.2.2.1 bt412.2.2.2.2.2.1 bt412.2.2.2.2.2.2.1 bt412.2.2.2.2.2.2.2.1 bt412.2.2.2.2.2.2.2.2.1 bt412.2.2.2.2.2.2.2.2.2).bind fun bt426 => ((spec_FopHear.f k bt412.1 bt412.2.1 bt412.2.2.1 bt412.2.2.2.1 bt412.2.2.2.2.1 bt412.2.2.2.2.2.1 bt412.2.2.2.2.2.2.1 bt412.2.2.2.2.2.2.2.1 bt412.2.2.2.2.2.2.2.2.1 bt412.2.2.2.2.2.2.2.2.2).bind fun bt435 => ((laws_skFop.f k bt426.1 bt426.2.1 bt426.2.2.1 bt426.2.2.2.1 bt426.2.2.2.2.1 bt435.1 bt435.2.1 bt435.2.2.1 bt435.2.2.2.1 bt435.2.2.2.2.1).bind fun t444 => (if t444 = true then (if (bt426.2.2.2.2.2 != bt435.2.2.2.2.2) = true then (laws_FnFopHear.j0 k bt426.2.2.2.2.2 bt435.2.2.2.2.2 true bt412.1 bt412.2.1 bt412.2.2.1 bt412.2.2.2.1 bt412.2.2.2.2.1 bt412.2.2.2.2.2.1 bt412.2.2.2.2.2.2.1 bt412.2.2.2.2.2.2.2.1 bt412.2.2.2.2.2.2.2.2.1 bt412.2.2.2.2.2.2.2.2.2 bt426.1 bt426.2.1 bt426.2.2.1 bt426.2.2.2.1 bt426.2.2.2.2.1 bt435.1 bt435.2.1 bt435.2.2.1 bt435.2.2.2.1 bt435.2.2.2.2.1) else ((spec_FopOk.f k bt412.1 bt412.2.1 bt412.2.2.1 bt412.2.2.2.1 bt412.2.2.2.2.1).bind fun t445 => (laws_FnFopHear.j0 k bt426.2.2.2.2.2 bt435.2.2.2.2.2 (!t445) bt412.1 bt412.2.1 bt412.2.2.1 bt412.2.2.2.1 bt412.2.2.2.2.1 bt412.2.2.2.2.2.1 bt412.2.2.2.2.2.2.1 bt412.2.2.2.2.2.2.2.1 bt412.2.2.2.2.2.2.2.2.1 bt412.2.2.2.2.2.2.2.2.2 bt426.1 bt426.2.1 bt426.2.2.1 bt426.2.2.2.1 bt426.2.2.2.2.1 bt435.1 bt435.2.1 bt435.2.2.1 bt435.2.2.2.1 bt435.2.2.2.2.1))) else (laws_FnFopHear.j0 k bt426.2.2.2.2.2 bt435.2.2.2.2.2 true bt412.1 bt412.2.1 bt412.2.2.1 bt412.2.2.2.1 bt412.2.2.2.2.1 bt412.2.2.2.2.2.1 bt412.2.2.2.2.2.2.1 bt412.2.2.2.2.2.2.2.1 bt412.2.2.2.2.2.2.2.2.1 bt412.2.2.2.2.2.2.2.2.2 bt426.1 bt426.2.1 bt426.2.2.1 bt426.2.2.2.1 bt426.2.2.2.2.1 bt435.1 bt435.2.1 bt435.2.2.1 bt435.2.2.2.1 bt435.2.2.2.2.1))))))) = some r := h
 clear h
 by_cases c2 : (l0.length : Int) > 1048576
 ·rw [if_pos c2] at H
  have c2b0 : decide (1048576 < (l0.length : Int)) = true := decide_eq_true c2
  have c2b1 : decide (1048576 < l0.length) = true := decide_eq_true (by omega)
  clear c2
  obtain rfl := Option.some.inj H
  go_enter Try.func4, Try.ntmps4
  go_wp2
  go_ret
  exact ⟨by first | rfl | (simp [errW_none, errW_some] <;> rfl) | (simp [*, errW_none, errW_some] <;> rfl), by repeat (first | (with_reducible first | exact HB.out | apply below_alloc | apply pw_below_drewN | apply below_drew1) | exact HB.out)⟩
 ·rw [if_neg c2] at H
  have c2b0 : decide (1048576 < (l0.length : Int)) = false := decide_eq_false c2
  have c2b1 : decide (1048576 < l0.length) = false := decide_eq_false (by omega)
  clear c2
  replace H := Option.bind_eq_some_iff.mp H
  obtain ⟨⟨t412, t413, t414, t415, t418, t419, t420, t421, t422, t423⟩, A30, H⟩ := H
  replace H : ((impl_FopHear.f k t412 t413 t414 t415 t418 t419 t420 t421 t422 t423).bind fun bt426 => ((spec_FopHear.f k t412 t413 t414 t415 t418 t419 t420 t421 t422 t423).bind fun bt435 => ((laws_skFop.f k bt426.1 bt426.2.1 bt426.2.2.1 bt426.2.2.2.1 bt426.2.2.2.2.1 bt435.1 bt435.2.1 bt435.2.2.1 bt435.2.2.2.1 bt435.2.2.2.2.1).bind fun t444 => (if t444 = true then (if (bt426.2.2.2.2.2 != bt435.2.2.2.2.2) = true then (laws_FnFopHear.j0 k bt426.2.2.2.2.2 bt435.2.2.2.2.2 true t412 t413 t414 t415 t418 t419 t420 t421 t422 t423 bt426.1 bt426.2.1 bt426.2.2.1 bt426.2.2.2.1 bt426.2.2.2.2.1 bt435.1 bt435.2.1 bt435.2.2.1 bt435.2.2.2.1 bt435.2.2.2.2.1) else ((spec_FopOk.f k t412 t413 t414 t415 t418).bind fun t445 => (laws_FnFopHear.j0 k bt426.2.2.2.2.2 bt435.2.2.2.2.2 (!t445) t412 t413 t414 t415 t418 t419 t420 t421 t422 t423 bt426.1 bt426.2.1 bt426.2.2.1 bt426.2.2.2.1 bt426.2.2.2.2.1 bt435.1 bt435.2.1 bt435.2.2.1 bt435.2.2.2.1 bt435.2.2.2.2.1))) else (laws_FnFopHear.j0 k bt426.2.2.2.2.2 bt435.2.2.2.2.2 true t412 t413 t414 t415 t418 t419 t420 t421 t422 t423 bt426.1 bt426.2.1 bt426.2.2.1 bt426.2.2.2.1 bt426.2.2.2.2.1 bt435.1 bt435.2.1 bt435.2.2.1 bt435.2.2.2.1 bt435.2.2.2.2.1))))) = some r := H
  have A3 := Aside0.mk A30
  clear A30
  replace H := Option.bind_eq_some_iff.mp H
  obtain ⟨⟨t426, t427, t428, t429, t432, t433⟩, A40, H⟩ := H
  replace H : ((spec_FopHear.f k t412 t413 t414 t415 t418 t419 t420 t421 t422 t423).bind fun bt435 => ((laws_skFop.f k t426 t427 t428 t429 t432 bt435.1 bt435.2.1 bt435.2.2.1 bt435.2.2.2.1 bt435.2.2.2.2.1).bind fun t444 => (if t444 = true then (if (t433 != bt435.2.2.2.2.2) = true then (laws_FnFopHear.j0 k t433 bt435.2.2.2.2.2 true t412 t413 t414 t415 t418 t419 t420 t421 t422 t423 t426 t427 t428 t429 t432 bt435.1 bt435.2.1 bt435.2.2.1 bt435.2.2.2.1 bt435.2.2.2.2.1) else ((spec_FopOk.f k t412 t413 t414 t415 t418).bind fun t445 => (laws_FnFopHear.j0 k t433 bt435.2.2.2.2.2 (!t445) t412 t413 t414 t415 t418 t419 t420 t421 t422 t423 t426 t427 t428 t429 t432 bt435.1 bt435.2.1 bt435.2.2.1 bt435.2.2.2.1 bt435.2.2.2.2.1))) else (laws_FnFopHear.j0 k t433 bt435.2.2.2.2.2 true t412 t413 t414 t415 t418 t419 t420 t421 t422 t423 t426 t427 t428 t429 t432 bt435.1 bt435.2.1 bt435.2.2.1 bt435.2.2.2.1 bt435.2.2.2.2.1)))) = some r := H
  have A4 := Aside0.mk A40
  clear A40
  replace H := Option.bind_eq_some_iff.mp H
  obtain ⟨⟨t435, t436, t437, t438, t441, t442⟩, A50, H⟩ := H
  replace H : ((laws_skFop.f k t426 t427 t428 t429 t432 t435 t436 t437 t438 t441).bind fun t444 => (if t444 = true then (if (t433 != t442) = true then (laws_FnFopHear.j0 k t433 t442 true t412 t413 t414 t415 t418 t419 t420 t421 t422 t423 t426 t427 t428 t429 t432 t435 t436 t437 t438 t441) else ((spec_FopOk.f k t412 t413 t414 t415 t418).bind fun t445 => (laws_FnFopHear.j0 k t433 t442 (!t445) t412 t413 t414 t415 t418 t419 t420 t421 t422 t423 t426 t427 t428 t429 t432 t435 t436 t437 t438 t441))) else (laws_FnFopHear.j0 k t433 t442 true t412 t413 t414 t415 t418 t419 t420 t421 t422 t423 t426 t427 t428 t429 t432 t435 t436 t437 t438 t441))) = some r := H
  have A5 := Aside0.mk A50
  clear A50
  have HC6 := Aside0.mk H
  clear H
  go_enter Try.func4, Try.ntmps4
  go_upto_region 6 with (first | ((with_reducible refine gate_callee (f := 15) rfl ?_); refine goesL_ (some 15) rfl rfl Try.func15 (by kernel_rfl) rfl #[.slice A0 l0.length c0] rfl gl_ ?_; (with_reducible refine (spec_DrawFopHear.calls k _ _ l0 t412 t413 t414 t415 t418 t419 t420 t421 t422 t423 _ ?side1 ?side2 A3.out).mono ?_); (case side1 => exact cN HR0.out); (case side2 => exact HC0.out); rintro e w7 ⟨v416, rfl, ho0, hb⟩; refine ⟨_, rfl, ?_⟩; have n0_ := m_ (Kd.R_lower ho0 (below_size (bN HB.out))); have n1_ := m_ (below_step (bN HB.out) hb); clear HB; have HO417 := n0_; have HB := n1_; clear n0_ n1_; (try clear hb); (try clear hb2); (try clear hk); (try clear hi); (try clear ho0)) | ((with_reducible refine gate_dst (N := 3) rfl ?_); refine box_event ?hg (N := 3) ?hd (cs := #[.int .i64 0, .int .i64 0, .int .i64 0, .slice none 0 0, .bool false]) (t := 25) ?hr ?_; (case hd => rfl); (case hg => rfl); (case hr => first | (go_simp; done) | (go_simp; rfl)); intro gb424 hg w8 hbox hb; have n0_ := m_ (Kd.R_below (rN HO417.out) hb); have n1_ := m_ (below_step (bN HB.out) hb); have n2_ := m_ (hbox); have n3_ := m_ ((by rw [hg]; exact (below_size (bN HB.out)) : w.heap.size ≤ gb424)); have n4_ := m_ ((by rw [hg]; exact (below_size (bN HB.out)) : w.heap.size ≤ gb424)); clear HO417; clear HB; have HO417 := n0_; have HB := n1_; have BK424 := n2_; have GW424 := n3_; have GE424 := n4_; clear n0_ n1_ n2_ n3_ n4_; clear hb hbox hg) | ((with_reducible refine gate_dst (N := 4) rfl ?_); refine box_event ?hg (N := 4) ?hd (cs := #[.bool false, .bool false, .bool false, .int .i64 0, .int .i64 0]) (t := 39) ?hr ?_; (case hd => rfl); (case hg => rfl); (case hr => first | (go_simp; done) | (go_simp; rfl)); intro gb425 hg w9 hbox hb; have n0_ := m_ (Kd.R_below (rN HO417.out) hb); have n1_ := m_ (blk_below (kN BK424.out) hb); have n2_ := m_ (below_step (bN HB.out) hb); have n3_ := m_ (hbox); have n4_ := m_ ((by rw [hg]; exact (below_size (bN HB.out)) : w.heap.size ≤ gb425)); have n5_ := m_ ((by rw [hg]; exact (below_size (bN HB.out)) : w.heap.size ≤ gb425)); have n6_ := m_ (nL hg BK424.out); have n7_ := m_ (nG hg BK424.out); clear HO417; clear BK424; clear HB; have HO417 := n0_; have BK424 := n1_; have HB := n2_; have BK425 := n3_; have GW425 := n4_; have GE425 := n5_; have NB424_425 := n6_; have NB425_424 := n7_; clear n0_ n1_ n2_ n3_ n4_ n5_ n6_ n7_; clear hb hbox hg; have hnb10 := NB424_425.out; have hnc10 := NB425_424.out; have hcz11_0 : w9.cell? ⟨gb424, 0, none⟩ = some (.int .i64 0) := bc BK424 0; have hcz11_1 : w9.cell? ⟨gb424, 1, none⟩ = some (.int .i64 0) := bc BK424 1; have hcz11_2 : w9.cell? ⟨gb424, 2, none⟩ = some (.int .i64 0) := bc BK424 2; have hcz11_3 : w9.cell? ⟨gb424, 3, none⟩ = some (.slice none 0 0) := bc BK424 3; have hcz11_4 : w9.cell? ⟨gb424, 4, none⟩ = some (.bool false) := bc BK424 4; have hfz11_0 := blk_frozen BK424.out 0; have hfz11_1 := blk_frozen BK424.out 1; have hfz11_2 := blk_frozen BK424.out 2; have hfz11_3 := blk_frozen BK424.out 3; have hfz11_4 := blk_frozen BK424.out 4; obtain ⟨Ao12, co12, eo12⟩ := Kd.R_slice HO417.out; subst eo12; have hcz13_0 : w9.cell? ⟨gb425, 0, none⟩ = some (.bool false) := bc BK425 0; have hcz13_1 : w9.cell? ⟨gb425, 1, none⟩ = some (.bool false) := bc BK425 1; have hcz13_2 : w9.cell? ⟨gb425, 2, none⟩ = some (.bool false) := bc BK425 2; have hcz13_3 : w9.cell? ⟨gb425, 3, none⟩ = some (.int .i64 0) := bc BK425 3; have hcz13_4 : w9.cell? ⟨gb425, 4, none⟩ = some (.int .i64 0) := bc BK425 4; have hfz13_0 := blk_frozen BK425.out 0; have hfz13_1 := blk_frozen BK425.out 1; have hfz13_2 := blk_frozen BK425.out 2; have hfz13_3 := blk_frozen BK425.out 3; have hfz13_4 := blk_frozen BK425.out 4) | ((with_reducible refine gate_callee (f := 16) rfl ?_); refine goesL_ (some 21) rfl rfl Try.func16 (by kernel_rfl) rfl #[.agg #[.int .i64 t412, .int .i64 t413, .int .i64 t414, .slice Ao12 t415.length co12, .bool t418], .agg #[.bool t419, .bool t420, .bool t421, .int .i64 t422, .int .i64 t423]] rfl gl_ ?_; (with_reducible refine (impl_FopHear.calls k t412 t413 t414 _ _ t415 t418 t419 t420 t421 t422 t423 t426 t427 t428 t429 t432 t433 _ ?side1 ?side2 A4.out).mono ?_); (case side1 => refine (Kd.R_reads' (e := 9) (base := w.heap.size) (ok := fun k_ => True) (n := t415.length) (c := co12) ?_).2.2; exact (by (with_reducible repeat (first | apply Kd.R_alloc | apply Kd.R_drewN | apply Kd.R_drew)); exact (Kd.R_mono (Kd.R_mono (Kd.R_far (p := ⟨gb425, 4, none⟩) (Kd.R_far (p := ⟨gb425, 3, none⟩) (Kd.R_far (p := ⟨gb425, 2, none⟩) (Kd.R_far (p := ⟨gb425, 1, none⟩) (Kd.R_far (p := ⟨gb425, 0, none⟩) (Kd.R_far (p := ⟨gb424, 4, none⟩) (Kd.R_far (p := ⟨gb424, 3, none⟩) (Kd.R_far (p := ⟨gb424, 2, none⟩) (Kd.R_far (p := ⟨gb424, 1, none⟩) (Kd.R_far (p := ⟨gb424, 0, none⟩) (Kd.R_types (Kd.R_types HO417.out BK424.out (by decide)) BK425.out (by decide)) (fun _ hk => hk.1.2) (.int .i64 t412)) (fun _ hk => hk.1.2) (.int .i64 t413)) (fun _ hk => hk.1.2) (.int .i64 t414)) (fun _ hk => hk.1.2) (.slice Ao12 t415.length co12)) (fun _ hk => hk.1.2) (.bool t418)) (fun _ hk => hk.2) (.bool t419)) (fun _ hk => hk.2) (.bool t420)) (fun _ hk => hk.2) (.bool t421)) (fun _ hk => hk.2) (.int .i64 t422)) (fun _ hk => hk.2) (.int .i64 t423)) (fun _ h_ => h_.1)) (fun _ h_ => h_.1)))); (case side2 => exact (Kd.R_reads' HO417.out).2.1); rintro e w14 ⟨v430, rfl, ho0, hb⟩; refine ⟨_, rfl, ?_⟩; have n0_ := m_ (Kd.R_elder' (by (with_reducible repeat (first | apply Kd.R_alloc | apply Kd.R_drewN | apply Kd.R_drew)); exact (Kd.R_mono (Kd.R_mono (Kd.R_far (p := ⟨gb425, 4, none⟩) (Kd.R_far (p := ⟨gb425, 3, none⟩) (Kd.R_far (p := ⟨gb425, 2, none⟩) (Kd.R_far (p := ⟨gb425, 1, none⟩) (Kd.R_far (p := ⟨gb425, 0, none⟩) (Kd.R_far (p := ⟨gb424, 4, none⟩) (Kd.R_far (p := ⟨gb424, 3, none⟩) (Kd.R_far (p := ⟨gb424, 2, none⟩) (Kd.R_far (p := ⟨gb424, 1, none⟩) (Kd.R_far (p := ⟨gb424, 0, none⟩) (Kd.R_types (Kd.R_types HO417.out BK424.out (by decide)) BK425.out (by decide)) (fun _ hk => hk.1.2) (.int .i64 t412)) (fun _ hk => hk.1.2) (.int .i64 t413)) (fun _ hk => hk.1.2) (.int .i64 t414)) (fun _ hk => hk.1.2) (.slice Ao12 t415.length co12)) (fun _ hk => hk.1.2) (.bool t418)) (fun _ hk => hk.2) (.bool t419)) (fun _ hk => hk.2) (.bool t420)) (fun _ hk => hk.2) (.bool t421)) (fun _ hk => hk.2) (.int .i64 t422)) (fun _ hk => hk.2) (.int .i64 t423)) (fun _ h_ => h_.1)) (fun _ h_ => h_.1))) (Kd.R_base ho0) hb); have n1_ := m_ (Kd.R_lower (Kd.R_new' ho0 (Kd.R_lt (by (with_reducible repeat (first | apply Kd.R_alloc | apply Kd.R_drewN | apply Kd.R_drew)); exact (Kd.R_mono (Kd.R_mono (Kd.R_far (p := ⟨gb425, 4, none⟩) (Kd.R_far (p := ⟨gb425, 3, none⟩) (Kd.R_far (p := ⟨gb425, 2, none⟩) (Kd.R_far (p := ⟨gb425, 1, none⟩) (Kd.R_far (p := ⟨gb425, 0, none⟩) (Kd.R_far (p := ⟨gb424, 4, none⟩) (Kd.R_far (p := ⟨gb424, 3, none⟩) (Kd.R_far (p := ⟨gb424, 2, none⟩) (Kd.R_far (p := ⟨gb424, 1, none⟩) (Kd.R_far (p := ⟨gb424, 0, none⟩) (Kd.R_types (Kd.R_types HO417.out BK424.out (by decide)) BK425.out (by decide)) (fun _ hk => hk.1.2) (.int .i64 t412)) (fun _ hk => hk.1.2) (.int .i64 t413)) (fun _ hk => hk.1.2) (.int .i64 t414)) (fun _ hk => hk.1.2) (.slice Ao12 t415.length co12)) (fun _ hk => hk.1.2) (.bool t418)) (fun _ hk => hk.2) (.bool t419)) (fun _ hk => hk.2) (.bool t420)) (fun _ hk => hk.2) (.bool t421)) (fun _ hk => hk.2) (.int .i64 t422)) (fun _ hk => hk.2) (.int .i64 t423)) (fun _ h_ => h_.1)) (fun _ h_ => h_.1))))) (below_size (bN HB.out))); have n2_ := m_ (blk_below (g := gb424) (o := .cells #[.int .i64 t412, .int .i64 t413, .int .i64 t414, .slice Ao12 t415.length co12, .bool t418] 25 (0, 0)) (kR BK424.out NB424_425.out) hb); have n3_ := m_ (blk_below (g := gb425) (o := .cells #[.bool t419, .bool t420, .bool t421, .int .i64 t422, .int .i64 t423] 39 (0, 0)) (kR BK425.out NB425_424.out) hb); have n4_ := m_ (below_step (bN HB.out) hb); clear HO417; clear BK424; clear BK425; clear HB; have HO417 := n0_; have HO431 := n1_; have BK424 := n2_; have BK425 := n3_; have HB := n4_; clear n0_ n1_ n2_ n3_ n4_; (try clear hb); (try clear hb2); (try clear hk); (try clear hi); (try clear ho0)) | ((with_reducible refine gate_dst (N := 5) rfl ?_); refine box_event ?hg (N := 5) ?hd (cs := #[.int .i64 0, .int .i64 0, .int .i64 0, .slice none 0 0, .bool false]) (t := 25) ?hr ?_; (case hd => rfl); (case hg => rfl); (case hr => first | (go_simp; done) | (go_simp; rfl)); intro gb434 hg w15 hbox hb; have n0_ := m_ (Kd.R_below (rN HO417.out) hb); have n1_ := m_ (Kd.R_below (rN HO431.out) hb); have n2_ := m_ (blk_below (kN BK424.out) hb); have n3_ := m_ (blk_below (kN BK425.out) hb); have n4_ := m_ (below_step (bN HB.out) hb); have n5_ := m_ (hbox); have n6_ := m_ ((by rw [hg]; exact (below_size (bN HB.out)) : w.heap.size ≤ gb434)); have n7_ := m_ ((by rw [hg]; exact (below_size (bN HB.out)) : w.heap.size ≤ gb434)); have n8_ := m_ (nL hg BK424.out); have n9_ := m_ (nG hg BK424.out); have n10_ := m_ (nL hg BK425.out); have n11_ := m_ (nG hg BK425.out); clear HO417; clear HO431; clear BK424; clear BK425; clear HB; have HO417 := n0_; have HO431 := n1_; have BK424 := n2_; have BK425 := n3_; have HB := n4_; have BK434 := n5_; have GW434 := n6_; have GE434 := n7_; have NB424_434 := n8_; have NB434_424 := n9_; have NB425_434 := n10_; have NB434_425 := n11_; clear n0_ n1_ n2_ n3_ n4_ n5_ n6_ n7_ n8_ n9_ n10_ n11_; clear hb hbox hg; have hnb16 := NB434_424.out; have hnc16 := NB424_434.out; have hnb17 := NB434_425.out; have hnc17 := NB425_434.out; have hcz18_0 : w15.cell? ⟨gb434, 0, none⟩ = some (.int .i64 0) := bc BK434 0; have hcz18_1 : w15.cell? ⟨gb434, 1, none⟩ = some (.int .i64 0) := bc BK434 1; have hcz18_2 : w15.cell? ⟨gb434, 2, none⟩ = some (.int .i64 0) := bc BK434 2; have hcz18_3 : w15.cell? ⟨gb434, 3, none⟩ = some (.slice none 0 0) := bc BK434 3; have hcz18_4 : w15.cell? ⟨gb434, 4, none⟩ = some (.bool false) := bc BK434 4; have hfz18_0 := blk_frozen BK434.out 0; have hfz18_1 := blk_frozen BK434.out 1; have hfz18_2 := blk_frozen BK434.out 2; have hfz18_3 := blk_frozen BK434.out 3; have hfz18_4 := blk_frozen BK434.out 4; obtain ⟨Ao19, co19, eo19⟩ := Kd.R_slice HO431.out; subst eo19; have hcz20_0 : w15.cell? ⟨gb424, 0, none⟩ = some (.int .i64 t412) := bc BK424 0; have hcz20_1 : w15.cell? ⟨gb424, 1, none⟩ = some (.int .i64 t413) := bc BK424 1; have hcz20_2 : w15.cell? ⟨gb424, 2, none⟩ = some (.int .i64 t414) := bc BK424 2; have hcz20_3 : w15.cell? ⟨gb424, 3, none⟩ = some (.slice Ao12 t415.length co12) := bc BK424 3; have hcz20_4 : w15.cell? ⟨gb424, 4, none⟩ = some (.bool t418) := bc BK424 4; have hfz20_0 := blk_frozen BK424.out 0; have hfz20_1 := blk_frozen BK424.out 1; have hfz20_2 := blk_frozen BK424.out 2; have hfz20_3 := blk_frozen BK424.out 3; have hfz20_4 := blk_frozen BK424.out 4; have hcz21_0 : w15.cell? ⟨gb425, 0, none⟩ = some (.bool t419) := bc BK425 0; have hcz21_1 : w15.cell? ⟨gb425, 1, none⟩ = some (.bool t420) := bc BK425 1; have hcz21_2 : w15.cell? ⟨gb425, 2, none⟩ = some (.bool t421) := bc BK425 2; have hcz21_3 : w15.cell? ⟨gb425, 3, none⟩ = some (.int .i64 t422) := bc BK425 3; have hcz21_4 : w15.cell? ⟨gb425, 4, none⟩ = some (.int .i64 t423) := bc BK425 4; have hfz21_0 := blk_frozen BK425.out 0; have hfz21_1 := blk_frozen BK425.out 1; have hfz21_2 := blk_frozen BK425.out 2; have hfz21_3 := blk_frozen BK425.out 3; have hfz21_4 := blk_frozen BK425.out 4) | ((with_reducible refine gate_callee (f := 17) rfl ?_); refine goesL_ (some 27) rfl rfl Try.func17 (by kernel_rfl) rfl #[.agg #[.int .i64 t412, .int .i64 t413, .int .i64 t414, .slice Ao12 t415.length co12, .bool t418], .agg #[.bool t419, .bool t420, .bool t421, .int .i64 t422, .int .i64 t423]] rfl gl_ ?_; (with_reducible refine (spec_FopHear.calls k t412 t413 t414 _ _ t415 t418 t419 t420 t421 t422 t423 t435 t436 t437 t438 t441 t442 _ ?side1 ?side2 A5.out).mono ?_); (case side1 => refine (Kd.R_reads' (e := 9) (base := w.heap.size) (ok := fun k_ => (True ∧ nb Ao19 t429.length co19 k_)) (n := t415.length) (c := co12) ?_).2.2; exact (frN (Kd.R_types HO417.out BK434.out (by decide)))); (case side2 => exact (Kd.R_reads' HO417.out).2.1); rintro e w22 ⟨v439, rfl, ho0, hb⟩; refine ⟨_, rfl, ?_⟩; have n0_ := m_ (Kd.R_elder' (frN (Kd.R_types HO417.out BK434.out (by decide))) (Kd.R_base ho0) hb); have n1_ := m_ (Kd.R_elder' (frN (Kd.R_types HO431.out BK434.out (by decide))) (Kd.R_base ho0) hb); have n2_ := m_ (Kd.R_lower (Kd.R_new' (Kd.R_new' ho0 (Kd.R_lt (frN (Kd.R_types HO417.out BK434.out (by decide))))) (Kd.R_lt (frN (Kd.R_types HO431.out BK434.out (by decide))))) (below_size (bN HB.out))); have n3_ := m_ (blk_below (g := gb424) (o := .cells #[.int .i64 t412, .int .i64 t413, .int .i64 t414, .slice Ao12 t415.length co12, .bool t418] 25 (0, 0)) (kF BK424.out NB424_434.out) hb); have n4_ := m_ (blk_below (g := gb425) (o := .cells #[.bool t419, .bool t420, .bool t421, .int .i64 t422, .int .i64 t423] 39 (0, 0)) (kF BK425.out NB425_434.out) hb); have n5_ := m_ (blk_below (g := gb434) (o := .cells #[.int .i64 t426, .int .i64 t427, .int .i64 t428, .slice Ao19 t429.length co19, .bool t432] 25 (0, 0)) (kP BK434.out) hb); have n6_ := m_ (below_step (bN HB.out) hb); clear HO417; clear HO431; clear BK424; clear BK425; clear BK434; clear HB; have HO417 := n0_; have HO431 := n1_; have HO440 := n2_; have BK424 := n3_; have BK425 := n4_; have BK434 := n5_; have HB := n6_; clear n0_ n1_ n2_ n3_ n4_ n5_ n6_; (try clear hb); (try clear hb2); (try clear hk); (try clear hi); (try clear ho0)) | ((with_reducible refine gate_dst (N := 7) rfl ?_); refine box_event ?hg (N := 7) ?hd (cs := #[.int .i64 0, .int .i64 0, .int .i64 0, .slice none 0 0, .bool false]) (t := 25) ?hr ?_; (case hd => rfl); (case hg => rfl); (case hr => first | (go_simp; done) | (go_simp; rfl)); intro gb443 hg w23 hbox hb; have n0_ := m_ (Kd.R_below (rN HO417.out) hb); have n1_ := m_ (Kd.R_below (rN HO431.out) hb); have n2_ := m_ (Kd.R_below (rN HO440.out) hb); have n3_ := m_ (blk_below (kN BK424.out) hb); have n4_ := m_ (blk_below (kN BK425.out) hb); have n5_ := m_ (blk_below (kN BK434.out) hb); have n6_ := m_ (below_step (bN HB.out) hb); have n7_ := m_ (hbox); have n8_ := m_ ((by rw [hg]; exact (below_size (bN HB.out)) : w.heap.size ≤ gb443)); have n9_ := m_ ((by rw [hg]; exact (below_size (bN HB.out)) : w.heap.size ≤ gb443)); have n10_ := m_ (nL hg BK424.out); have n11_ := m_ (nG hg BK424.out); have n12_ := m_ (nL hg BK425.out); have n13_ := m_ (nG hg BK425.out); have n14_ := m_ (nL hg BK434.out); have n15_ := m_ (nG hg BK434.out); clear HO417; clear HO431; clear HO440; clear BK424; clear BK425; clear BK434; clear HB; have HO417 := n0_; have HO431 := n1_; have HO440 := n2_; have BK424 := n3_; have BK425 := n4_; have BK434 := n5_; have HB := n6_; have BK443 := n7_; have GW443 := n8_; have GE443 := n9_; have NB424_443 := n10_; have NB443_424 := n11_; have NB425_443 := n12_; have NB443_425 := n13_; have NB434_443 := n14_; have NB443_434 := n15_; clear n0_ n1_ n2_ n3_ n4_ n5_ n6_ n7_ n8_ n9_ n10_ n11_ n12_ n13_ n14_ n15_; clear hb hbox hg; have hnb24 := NB443_424.out; have hnc24 := NB424_443.out; have hnb25 := NB443_425.out; have hnc25 := NB425_443.out; have hnb26 := NB443_434.out; have hnc26 := NB434_443.out; have hcz27_0 : w23.cell? ⟨gb443, 0, none⟩ = some (.int .i64 0) := bc BK443 0; have hcz27_1 : w23.cell? ⟨gb443, 1, none⟩ = some (.int .i64 0) := bc BK443 1; have hcz27_2 : w23.cell? ⟨gb443, 2, none⟩ = some (.int .i64 0) := bc BK443 2; have hcz27_3 : w23.cell? ⟨gb443, 3, none⟩ = some (.slice none 0 0) := bc BK443 3; have hcz27_4 : w23.cell? ⟨gb443, 4, none⟩ = some (.bool false) := bc BK443 4; have hfz27_0 := blk_frozen BK443.out 0; have hfz27_1 := blk_frozen BK443.out 1; have hfz27_2 := blk_frozen BK443.out 2; have hfz27_3 := blk_frozen BK443.out 3; have hfz27_4 := blk_frozen BK443.out 4; obtain ⟨Ao28, co28, eo28⟩ := Kd.R_slice HO440.out; subst eo28))
  (try simp only [Act.put, List.setIfInBounds_toArray, List.set_cons_zero, List.set_cons_succ])
  go_cut [43] (fun v43 wc => ∃ (kq : Nat) (x43_5 : Bool), v43 = .bool x43_5 ∧ Aside0 (laws_FnFopHear.j0 kq t433 t442 x43_5 t412 t413 t414 t415 t418 t419 t420 t421 t422 t423 t426 t427 t428 t429 t432 t435 t436 t437 t438 t441 = some r) ∧ Aside0 (kq ≤ k) ∧ Aside0 (Kd.R Kd.string 9 wc w.heap.size (fun k_ => some k_ ≠ ((.slice Ao19 t429.length co19) : Value).ownBlock ∧ some k_ ≠ ((.slice Ao28 t438.length co28) : Value).ownBlock) (.slice Ao12 t415.length co12) t415) ∧ Aside0 (Kd.R Kd.string 9 wc w.heap.size (fun k_ => some k_ ≠ ((.slice Ao12 t415.length co12) : Value).ownBlock ∧ some k_ ≠ ((.slice Ao28 t438.length co28) : Value).ownBlock) (.slice Ao19 t429.length co19) t429) ∧ Aside0 (Kd.R Kd.string 9 wc w.heap.size (fun k_ => some k_ ≠ ((.slice Ao12 t415.length co12) : Value).ownBlock ∧ some k_ ≠ ((.slice Ao19 t429.length co19) : Value).ownBlock) (.slice Ao28 t438.length co28) t438) ∧ Aside0 (wc.heap[gb424]? = some (.cells #[.int .i64 t412, .int .i64 t413, .int .i64 t414, (.slice Ao12 t415.length co12), .bool t418] 25 (0, 0))) ∧ Aside0 (wc.heap[gb425]? = some (.cells #[.bool t419, .bool t420, .bool t421, .int .i64 t422, .int .i64 t423] 39 (0, 0))) ∧ Aside0 (wc.heap[gb434]? = some (.cells #[.int .i64 t426, .int .i64 t427, .int .i64 t428, (.slice Ao19 t429.length co19), .bool t432] 25 (0, 0))) ∧ Aside0 (wc.heap[gb443]? = some (.cells #[.int .i64 t435, .int .i64 t436, .int .i64 t437, (.slice Ao28 t438.length co28), .bool t441] 25 (0, 0))) ∧ Aside0 (Below w.heap.size w wc))
  case first =>
   have H := HC6.out
   clear HC6
   replace H := Option.bind_eq_some_iff.mp H
   obtain ⟨t444, A290, H⟩ := H
   replace H : (if t444 = true then (if (t433 != t442) = true then (laws_FnFopHear.j0 k t433 t442 true t412 t413 t414 t415 t418 t419 t420 t421 t422 t423 t426 t427 t428 t429 t432 t435 t436 t437 t438 t441) else ((spec_FopOk.f k t412 t413 t414 t415 t418).bind fun t445 => (laws_FnFopHear.j0 k t433 t442 (!t445) t412 t413 t414 t415 t418 t419 t420 t421 t422 t423 t426 t427 t428 t429 t432 t435 t436 t437 t438 t441))) else (laws_FnFopHear.j0 k t433 t442 true t412 t413 t414 t415 t418 t419 t420 t421 t422 t423 t426 t427 t428 t429 t432 t435 t436 t437 t438 t441)) = some r := H
   have A29 := Aside0.mk A290
   clear A290
   by_cases c30 : t444 = true
   ·subst c30
    have H1 : (if (t433 != t442) = true then (laws_FnFopHear.j0 k t433 t442 true t412 t413 t414 t415 t418 t419 t420 t421 t422 t423 t426 t427 t428 t429 t432 t435 t436 t437 t438 t441) else ((spec_FopOk.f k t412 t413 t414 t415 t418).bind fun t445 => (laws_FnFopHear.j0 k t433 t442 (!t445) t412 t413 t414 t415 t418 t419 t420 t421 t422 t423 t426 t427 t428 t429 t432 t435 t436 t437 t438 t441))) = some r := by rw [if_pos rfl] at H; exact H
    clear H
    have H := H1
    clear H1
    by_cases c31 : (t433 != t442) = true
    ·rw [if_pos c31] at H
     have c31b0 : (t433 != t442) = true := c31
     (try (have c31b1 : decide (t433 = t442) = false := by simpa using c31))
     (try (have c31b2 : (t433 == t442) = false := by simpa using c31))
     (try (have c31b3 : ¬ (t433 = t442) := by simpa using c31))
     clear c31
     (first | rw [c31b0] | (simp only [i64_w, i32_w]; rw [c31b0]) | skip)
     have H' := Aside0.mk H
     clear H
     have hnb32 := NB434_424.out
     have hnc32 := NB424_434.out
     have hnb33 := NB434_425.out
     have hnc33 := NB425_434.out
     have hnb34 := NB434_443.out
     have hnc34 := NB443_434.out
     have hcz35_0 : w23.cell? ⟨gb434, 0, none⟩ = some (.int .i64 t426) := bc BK434 0
     have hcz35_1 : w23.cell? ⟨gb434, 1, none⟩ = some (.int .i64 t427) := bc BK434 1
     have hcz35_2 : w23.cell? ⟨gb434, 2, none⟩ = some (.int .i64 t428) := bc BK434 2
     have hcz35_3 : w23.cell? ⟨gb434, 3, none⟩ = some (.slice Ao19 t429.length co19) := bc BK434 3
     have hcz35_4 : w23.cell? ⟨gb434, 4, none⟩ = some (.bool t432) := bc BK434 4
     have hfz35_0 := blk_frozen BK434.out 0
     have hfz35_1 := blk_frozen BK434.out 1
     have hfz35_2 := blk_frozen BK434.out 2
     have hfz35_3 := blk_frozen BK434.out 3
     have hfz35_4 := blk_frozen BK434.out 4
     have hnb36 := NB443_424.out
     have hnc36 := NB424_443.out
     have hnb37 := NB443_425.out
     have hnc37 := NB425_443.out
     have hcz38_0 : w23.cell? ⟨gb443, 0, none⟩ = some (.int .i64 0) := bc BK443 0
     have hcz38_1 : w23.cell? ⟨gb443, 1, none⟩ = some (.int .i64 0) := bc BK443 1
     have hcz38_2 : w23.cell? ⟨gb443, 2, none⟩ = some (.int .i64 0) := bc BK443 2
     have hcz38_3 : w23.cell? ⟨gb443, 3, none⟩ = some (.slice none 0 0) := bc BK443 3
     have hcz38_4 : w23.cell? ⟨gb443, 4, none⟩ = some (.bool false) := bc BK443 4
     have hfz38_0 := blk_frozen BK443.out 0
     have hfz38_1 := blk_frozen BK443.out 1
     have hfz38_2 := blk_frozen BK443.out 2
     have hfz38_3 := blk_frozen BK443.out 3
     have hfz38_4 := blk_frozen BK443.out 4
     go_wp2_with (first | ((with_reducible refine gate_callee (f := 10) rfl ?_); refine goesL_ (some 32) rfl rfl Try.func10 (by kernel_rfl) rfl #[.agg #[.int .i64 t426, .int .i64 t427, .int .i64 t428, .slice Ao19 t429.length co19, .bool t432], .agg #[.int .i64 t435, .int .i64 t436, .int .i64 t437, .slice Ao28 t438.length co28, .bool t441]] rfl gl_ ?_; (with_reducible refine (laws_skFop.calls k t426 t427 t428 _ _ t429 t432 t435 t436 t437 _ _ t438 t441 true _ ?side1 ?side2 ?side3 ?side4 A29.out).mono ?_); (case side1 => refine (Kd.R_reads' (e := 9) (base := w.heap.size) (ok := fun k_ => ((True ∧ nb Ao12 t415.length co12 k_) ∧ nb Ao28 t438.length co28 k_)) (n := t429.length) (c := co19) ?_).2.2; exact (frN (Kd.R_types HO431.out BK443.out (by decide)))); (case side2 => exact (Kd.R_reads' HO431.out).2.1); (case side3 => refine (Kd.R_reads' (e := 9) (base := w.heap.size) (ok := fun k_ => ((True ∧ nb Ao12 t415.length co12 k_) ∧ nb Ao19 t429.length co19 k_)) (n := t438.length) (c := co28) ?_).2.2; exact (frN (Kd.R_types HO440.out BK443.out (by decide)))); (case side4 => exact (Kd.R_reads' HO440.out).2.1); rintro e w39 ⟨rfl, hb⟩; refine ⟨_, rfl, ?_⟩; have n0_ := m_ (Kd.R_below (frN (Kd.R_types HO417.out BK443.out (by decide))) hb); have n1_ := m_ (Kd.R_below (frN (Kd.R_types HO431.out BK443.out (by decide))) hb); have n2_ := m_ (Kd.R_below (frN (Kd.R_types HO440.out BK443.out (by decide))) hb); have n3_ := m_ (blk_below (g := gb424) (o := .cells #[.int .i64 t412, .int .i64 t413, .int .i64 t414, .slice Ao12 t415.length co12, .bool t418] 25 (0, 0)) (kF BK424.out NB424_443.out) hb); have n4_ := m_ (blk_below (g := gb425) (o := .cells #[.bool t419, .bool t420, .bool t421, .int .i64 t422, .int .i64 t423] 39 (0, 0)) (kF BK425.out NB425_443.out) hb); have n5_ := m_ (blk_below (g := gb434) (o := .cells #[.int .i64 t426, .int .i64 t427, .int .i64 t428, .slice Ao19 t429.length co19, .bool t432] 25 (0, 0)) (kF BK434.out NB434_443.out) hb); have n6_ := m_ (blk_below (g := gb443) (o := .cells #[.int .i64 t435, .int .i64 t436, .int .i64 t437, .slice Ao28 t438.length co28, .bool t441] 25 (0, 0)) (kP BK443.out) hb); have n7_ := m_ (below_step (bN HB.out) hb); clear HO417; clear HO431; clear HO440; clear BK424; clear BK425; clear BK434; clear BK443; clear HB; have HO417 := n0_; have HO431 := n1_; have HO440 := n2_; have BK424 := n3_; have BK425 := n4_; have BK434 := n5_; have BK443 := n6_; have HB := n7_; clear n0_ n1_ n2_ n3_ n4_ n5_ n6_ n7_; (try clear hb); (try clear hb2); (try clear hk); (try clear hi)))
     go_meet
     case rel => exact ⟨_, (true), (by first | rfl | (simp; done) | (simp [*]; done)), H', ⟨by first | omega | exact Nat.le_refl _⟩, ⟨by (with_reducible repeat (first | apply Kd.R_alloc | apply Kd.R_drewN | apply Kd.R_drew)); exact Kd.R_mono HO417.out (fun _ hk => ⟨hk.1.2, hk.2⟩)⟩, ⟨by (with_reducible repeat (first | apply Kd.R_alloc | apply Kd.R_drewN | apply Kd.R_drew)); exact Kd.R_mono HO431.out (fun _ hk => ⟨hk.1.2, hk.2⟩)⟩, ⟨by (with_reducible repeat (first | apply Kd.R_alloc | apply Kd.R_drewN | apply Kd.R_drew)); exact Kd.R_mono HO440.out (fun _ hk => ⟨hk.1.2, hk.2⟩)⟩, ⟨kN BK424.out⟩, ⟨kN BK425.out⟩, ⟨kN BK434.out⟩, ⟨kN BK443.out⟩, ⟨by repeat (first | (with_reducible first | exact HB.out | apply below_alloc | apply pw_below_drewN | apply below_drew1 | refine below_set ?_ GE424.out | refine below_set ?_ GE425.out | refine below_set ?_ GE434.out | refine below_set ?_ GE443.out) | exact HB.out)⟩⟩
    ·rw [if_neg c31] at H
     have c31b0 : (t433 != t442) = false := by simpa using c31
     (try (have c31b1 : decide (t433 = t442) = true := by simpa using c31))
     (try (have c31b2 : (t433 == t442) = true := by simpa using c31))
     clear c31
     (first | rw [c31b0] | (simp only [i64_w, i32_w]; rw [c31b0]) | skip)
     replace H := Option.bind_eq_some_iff.mp H
     obtain ⟨t445, A400, H⟩ := H
     replace H : (laws_FnFopHear.j0 k t433 t442 (!t445) t412 t413 t414 t415 t418 t419 t420 t421 t422 t423 t426 t427 t428 t429 t432 t435 t436 t437 t438 t441) = some r := H
     have A40 := Aside0.mk A400
     clear A400
     have H' := Aside0.mk H
     clear H
     have hnb41 := NB434_424.out
     have hnc41 := NB424_434.out
     have hnb42 := NB434_425.out
     have hnc42 := NB425_434.out
     have hnb43 := NB434_443.out
     have hnc43 := NB443_434.out
     have hcz44_0 : w23.cell? ⟨gb434, 0, none⟩ = some (.int .i64 t426) := bc BK434 0
     have hcz44_1 : w23.cell? ⟨gb434, 1, none⟩ = some (.int .i64 t427) := bc BK434 1
     have hcz44_2 : w23.cell? ⟨gb434, 2, none⟩ = some (.int .i64 t428) := bc BK434 2
     have hcz44_3 : w23.cell? ⟨gb434, 3, none⟩ = some (.slice Ao19 t429.length co19) := bc BK434 3
     have hcz44_4 : w23.cell? ⟨gb434, 4, none⟩ = some (.bool t432) := bc BK434 4
     have hfz44_0 := blk_frozen BK434.out 0
     have hfz44_1 := blk_frozen BK434.out 1
     have hfz44_2 := blk_frozen BK434.out 2
     have hfz44_3 := blk_frozen BK434.out 3
     have hfz44_4 := blk_frozen BK434.out 4
     have hnb45 := NB443_424.out
     have hnc45 := NB424_443.out
     have hnb46 := NB443_425.out
     have hnc46 := NB425_443.out
     have hcz47_0 : w23.cell? ⟨gb443, 0, none⟩ = some (.int .i64 0) := bc BK443 0
     have hcz47_1 : w23.cell? ⟨gb443, 1, none⟩ = some (.int .i64 0) := bc BK443 1
     have hcz47_2 : w23.cell? ⟨gb443, 2, none⟩ = some (.int .i64 0) := bc BK443 2
     have hcz47_3 : w23.cell? ⟨gb443, 3, none⟩ = some (.slice none 0 0) := bc BK443 3
     have hcz47_4 : w23.cell? ⟨gb443, 4, none⟩ = some (.bool false) := bc BK443 4
     have hfz47_0 := blk_frozen BK443.out 0
     have hfz47_1 := blk_frozen BK443.out 1
     have hfz47_2 := blk_frozen BK443.out 2
     have hfz47_3 := blk_frozen BK443.out 3
     have hfz47_4 := blk_frozen BK443.out 4
     go_wp2_with (first | ((with_reducible refine gate_callee (f := 10) rfl ?_); refine goesL_ (some 32) rfl rfl Try.func10 (by kernel_rfl) rfl #[.agg #[.int .i64 t426, .int .i64 t427, .int .i64 t428, .slice Ao19 t429.length co19, .bool t432], .agg #[.int .i64 t435, .int .i64 t436, .int .i64 t437, .slice Ao28 t438.length co28, .bool t441]] rfl gl_ ?_; (with_reducible refine (laws_skFop.calls k t426 t427 t428 _ _ t429 t432 t435 t436 t437 _ _ t438 t441 true _ ?side1 ?side2 ?side3 ?side4 A29.out).mono ?_); (case side1 => refine (Kd.R_reads' (e := 9) (base := w.heap.size) (ok := fun k_ => ((True ∧ nb Ao12 t415.length co12 k_) ∧ nb Ao28 t438.length co28 k_)) (n := t429.length) (c := co19) ?_).2.2; exact (frN (Kd.R_types HO431.out BK443.out (by decide)))); (case side2 => exact (Kd.R_reads' HO431.out).2.1); (case side3 => refine (Kd.R_reads' (e := 9) (base := w.heap.size) (ok := fun k_ => ((True ∧ nb Ao12 t415.length co12 k_) ∧ nb Ao19 t429.length co19 k_)) (n := t438.length) (c := co28) ?_).2.2; exact (frN (Kd.R_types HO440.out BK443.out (by decide)))); (case side4 => exact (Kd.R_reads' HO440.out).2.1); rintro e w48 ⟨rfl, hb⟩; refine ⟨_, rfl, ?_⟩; have n0_ := m_ (Kd.R_below (frN (Kd.R_types HO417.out BK443.out (by decide))) hb); have n1_ := m_ (Kd.R_below (frN (Kd.R_types HO431.out BK443.out (by decide))) hb); have n2_ := m_ (Kd.R_below (frN (Kd.R_types HO440.out BK443.out (by decide))) hb); have n3_ := m_ (blk_below (g := gb424) (o := .cells #[.int .i64 t412, .int .i64 t413, .int .i64 t414, .slice Ao12 t415.length co12, .bool t418] 25 (0, 0)) (kF BK424.out NB424_443.out) hb); have n4_ := m_ (blk_below (g := gb425) (o := .cells #[.bool t419, .bool t420, .bool t421, .int .i64 t422, .int .i64 t423] 39 (0, 0)) (kF BK425.out NB425_443.out) hb); have n5_ := m_ (blk_below (g := gb434) (o := .cells #[.int .i64 t426, .int .i64 t427, .int .i64 t428, .slice Ao19 t429.length co19, .bool t432] 25 (0, 0)) (kF BK434.out NB434_443.out) hb); have n6_ := m_ (blk_below (g := gb443) (o := .cells #[.int .i64 t435, .int .i64 t436, .int .i64 t437, .slice Ao28 t438.length co28, .bool t441] 25 (0, 0)) (kP BK443.out) hb); have n7_ := m_ (below_step (bN HB.out) hb); clear HO417; clear HO431; clear HO440; clear BK424; clear BK425; clear BK434; clear BK443; clear HB; have HO417 := n0_; have HO431 := n1_; have HO440 := n2_; have BK424 := n3_; have BK425 := n4_; have BK434 := n5_; have BK443 := n6_; have HB := n7_; clear n0_ n1_ n2_ n3_ n4_ n5_ n6_ n7_; (try clear hb); (try clear hb2); (try clear hk); (try clear hi); have hnb49 := NB424_425.out; have hnc49 := NB425_424.out; have hcz50_0 : w48.cell? ⟨gb424, 0, none⟩ = some (.int .i64 t412) := bc BK424 0; have hcz50_1 : w48.cell? ⟨gb424, 1, none⟩ = some (.int .i64 t413) := bc BK424 1; have hcz50_2 : w48.cell? ⟨gb424, 2, none⟩ = some (.int .i64 t414) := bc BK424 2; have hcz50_3 : w48.cell? ⟨gb424, 3, none⟩ = some (.slice Ao12 t415.length co12) := bc BK424 3; have hcz50_4 : w48.cell? ⟨gb424, 4, none⟩ = some (.bool t418) := bc BK424 4; have hfz50_0 := blk_frozen BK424.out 0; have hfz50_1 := blk_frozen BK424.out 1; have hfz50_2 := blk_frozen BK424.out 2; have hfz50_3 := blk_frozen BK424.out 3; have hfz50_4 := blk_frozen BK424.out 4) | (go_at_call 13; (with_reducible refine (spec_FopOk.calls k t412 t413 t414 _ _ t415 t418 t445 _ ?side1 ?side2 A40.out).mono ?_); (case side1 => exact cN (Kd.R_reads' HO417.out).2.2); (case side2 => exact (Kd.R_reads' HO417.out).2.1); rintro e w51 ⟨rfl, hb⟩; have n0_ := m_ (Kd.R_below (rN HO417.out) hb); have n1_ := m_ (Kd.R_below (rN HO431.out) hb); have n2_ := m_ (Kd.R_below (rN HO440.out) hb); have n3_ := m_ (blk_below (kN BK424.out) hb); have n4_ := m_ (blk_below (kN BK425.out) hb); have n5_ := m_ (blk_below (kN BK434.out) hb); have n6_ := m_ (blk_below (kN BK443.out) hb); have n7_ := m_ (below_step (bN HB.out) hb); clear HO417; clear HO431; clear HO440; clear BK424; clear BK425; clear BK434; clear BK443; clear HB; have HO417 := n0_; have HO431 := n1_; have HO440 := n2_; have BK424 := n3_; have BK425 := n4_; have BK434 := n5_; have BK443 := n6_; have HB := n7_; clear n0_ n1_ n2_ n3_ n4_ n5_ n6_ n7_; (try clear hb); (try clear hb2); (try clear hk); (try clear hi)))
     go_meet
     case rel => exact ⟨_, (!t445), (by first | rfl | (simp; done) | (simp [*]; done)), H', ⟨by first | omega | exact Nat.le_refl _⟩, ⟨by (with_reducible repeat (first | apply Kd.R_alloc | apply Kd.R_drewN | apply Kd.R_drew)); exact Kd.R_mono HO417.out (fun _ hk => ⟨hk.1.2, hk.2⟩)⟩, ⟨by (with_reducible repeat (first | apply Kd.R_alloc | apply Kd.R_drewN | apply Kd.R_drew)); exact Kd.R_mono HO431.out (fun _ hk => ⟨hk.1.2, hk.2⟩)⟩, ⟨by (with_reducible repeat (first | apply Kd.R_alloc | apply Kd.R_drewN | apply Kd.R_drew)); exact Kd.R_mono HO440.out (fun _ hk => ⟨hk.1.2, hk.2⟩)⟩, ⟨kN BK424.out⟩, ⟨kN BK425.out⟩, ⟨kN BK434.out⟩, ⟨kN BK443.out⟩, ⟨by repeat (first | (with_reducible first | exact HB.out | apply below_alloc | apply pw_below_drewN | apply below_drew1 | refine below_set ?_ GE424.out | refine below_set ?_ GE425.out | refine below_set ?_ GE434.out | refine below_set ?_ GE443.out) | exact HB.out)⟩⟩
   ·replace c30 := Bool.eq_false_iff.mpr c30
    subst c30
    have H1 : (laws_FnFopHear.j0 k t433 t442 true t412 t413 t414 t415 t418 t419 t420 t421 t422 t423 t426 t427 t428 t429 t432 t435 t436 t437 t438 t441) = some r := by rw [if_neg (show ¬ (false = true) by decide)] at H; exact H
    clear H
    have H := H1
    clear H1
    have H' := Aside0.mk H
    clear H
    have hnb52 := NB434_424.out
    have hnc52 := NB424_434.out
    have hnb53 := NB434_425.out
    have hnc53 := NB425_434.out
    have hnb54 := NB434_443.out
    have hnc54 := NB443_434.out
    have hcz55_0 : w23.cell? ⟨gb434, 0, none⟩ = some (.int .i64 t426) := bc BK434 0
    have hcz55_1 : w23.cell? ⟨gb434, 1, none⟩ = some (.int .i64 t427) := bc BK434 1
    have hcz55_2 : w23.cell? ⟨gb434, 2, none⟩ = some (.int .i64 t428) := bc BK434 2
    have hcz55_3 : w23.cell? ⟨gb434, 3, none⟩ = some (.slice Ao19 t429.length co19) := bc BK434 3
    have hcz55_4 : w23.cell? ⟨gb434, 4, none⟩ = some (.bool t432) := bc BK434 4
    have hfz55_0 := blk_frozen BK434.out 0
    have hfz55_1 := blk_frozen BK434.out 1
    have hfz55_2 := blk_frozen BK434.out 2
    have hfz55_3 := blk_frozen BK434.out 3
    have hfz55_4 := blk_frozen BK434.out 4
    have hnb56 := NB443_424.out
    have hnc56 := NB424_443.out
    have hnb57 := NB443_425.out
    have hnc57 := NB425_443.out
    have hcz58_0 : w23.cell? ⟨gb443, 0, none⟩ = some (.int .i64 0) := bc BK443 0
    have hcz58_1 : w23.cell? ⟨gb443, 1, none⟩ = some (.int .i64 0) := bc BK443 1
    have hcz58_2 : w23.cell? ⟨gb443, 2, none⟩ = some (.int .i64 0) := bc BK443 2
    have hcz58_3 : w23.cell? ⟨gb443, 3, none⟩ = some (.slice none 0 0) := bc BK443 3
    have hcz58_4 : w23.cell? ⟨gb443, 4, none⟩ = some (.bool false) := bc BK443 4
    have hfz58_0 := blk_frozen BK443.out 0
    have hfz58_1 := blk_frozen BK443.out 1
    have hfz58_2 := blk_frozen BK443.out 2
    have hfz58_3 := blk_frozen BK443.out 3
    have hfz58_4 := blk_frozen BK443.out 4
    go_wp2_with (first | ((with_reducible refine gate_callee (f := 10) rfl ?_); refine goesL_ (some 32) rfl rfl Try.func10 (by kernel_rfl) rfl #[.agg #[.int .i64 t426, .int .i64 t427, .int .i64 t428, .slice Ao19 t429.length co19, .bool t432], .agg #[.int .i64 t435, .int .i64 t436, .int .i64 t437, .slice Ao28 t438.length co28, .bool t441]] rfl gl_ ?_; (with_reducible refine (laws_skFop.calls k t426 t427 t428 _ _ t429 t432 t435 t436 t437 _ _ t438 t441 false _ ?side1 ?side2 ?side3 ?side4 A29.out).mono ?_); (case side1 => refine (Kd.R_reads' (e := 9) (base := w.heap.size) (ok := fun k_ => ((True ∧ nb Ao12 t415.length co12 k_) ∧ nb Ao28 t438.length co28 k_)) (n := t429.length) (c := co19) ?_).2.2; exact (frN (Kd.R_types HO431.out BK443.out (by decide)))); (case side2 => exact (Kd.R_reads' HO431.out).2.1); (case side3 => refine (Kd.R_reads' (e := 9) (base := w.heap.size) (ok := fun k_ => ((True ∧ nb Ao12 t415.length co12 k_) ∧ nb Ao19 t429.length co19 k_)) (n := t438.length) (c := co28) ?_).2.2; exact (frN (Kd.R_types HO440.out BK443.out (by decide)))); (case side4 => exact (Kd.R_reads' HO440.out).2.1); rintro e w59 ⟨rfl, hb⟩; refine ⟨_, rfl, ?_⟩; have n0_ := m_ (Kd.R_below (frN (Kd.R_types HO417.out BK443.out (by decide))) hb); have n1_ := m_ (Kd.R_below (frN (Kd.R_types HO431.out BK443.out (by decide))) hb); have n2_ := m_ (Kd.R_below (frN (Kd.R_types HO440.out BK443.out (by decide))) hb); have n3_ := m_ (blk_below (g := gb424) (o := .cells #[.int .i64 t412, .int .i64 t413, .int .i64 t414, .slice Ao12 t415.length co12, .bool t418] 25 (0, 0)) (kF BK424.out NB424_443.out) hb); have n4_ := m_ (blk_below (g := gb425) (o := .cells #[.bool t419, .bool t420, .bool t421, .int .i64 t422, .int .i64 t423] 39 (0, 0)) (kF BK425.out NB425_443.out) hb); have n5_ := m_ (blk_below (g := gb434) (o := .cells #[.int .i64 t426, .int .i64 t427, .int .i64 t428, .slice Ao19 t429.length co19, .bool t432] 25 (0, 0)) (kF BK434.out NB434_443.out) hb); have n6_ := m_ (blk_below (g := gb443) (o := .cells #[.int .i64 t435, .int .i64 t436, .int .i64 t437, .slice Ao28 t438.length co28, .bool t441] 25 (0, 0)) (kP BK443.out) hb); have n7_ := m_ (below_step (bN HB.out) hb); clear HO417; clear HO431; clear HO440; clear BK424; clear BK425; clear BK434; clear BK443; clear HB; have HO417 := n0_; have HO431 := n1_; have HO440 := n2_; have BK424 := n3_; have BK425 := n4_; have BK434 := n5_; have BK443 := n6_; have HB := n7_; clear n0_ n1_ n2_ n3_ n4_ n5_ n6_ n7_; (try clear hb); (try clear hb2); (try clear hk); (try clear hi)))
    go_meet
    case rel => exact ⟨_, (true), (by first | rfl | (simp; done) | (simp [*]; done)), H', ⟨by first | omega | exact Nat.le_refl _⟩, ⟨by (with_reducible repeat (first | apply Kd.R_alloc | apply Kd.R_drewN | apply Kd.R_drew)); exact Kd.R_mono HO417.out (fun _ hk => ⟨hk.1.2, hk.2⟩)⟩, ⟨by (with_reducible repeat (first | apply Kd.R_alloc | apply Kd.R_drewN | apply Kd.R_drew)); exact Kd.R_mono HO431.out (fun _ hk => ⟨hk.1.2, hk.2⟩)⟩, ⟨by (with_reducible repeat (first | apply Kd.R_alloc | apply Kd.R_drewN | apply Kd.R_drew)); exact Kd.R_mono HO440.out (fun _ hk => ⟨hk.1.2, hk.2⟩)⟩, ⟨kN BK424.out⟩, ⟨kN BK425.out⟩, ⟨kN BK434.out⟩, ⟨kN BK443.out⟩, ⟨by repeat (first | (with_reducible first | exact HB.out | apply below_alloc | apply pw_below_drewN | apply below_drew1 | refine below_set ?_ GE424.out | refine below_set ?_ GE425.out | refine below_set ?_ GE434.out | refine below_set ?_ GE443.out) | exact HB.out)⟩⟩
  case rest =>
   clear HC6
   try clear c1
   try clear c2
   try clear c2b0
   try clear c2b1
   try clear p2
   try clear c3
   try clear c4
   try clear c5
   try clear c10
   try clear c15
   try clear c16
   try clear c17
   try clear c24
   try clear c25
   try clear c26
   try clear c30
   try clear c31
   try clear c31b0
   try clear c31b1
   try clear c31b2
   try clear c32
   try clear c33
   try clear c34
   try clear c36
   try clear c37
   try clear c41
   try clear c42
   try clear c43
   try clear c45
   try clear c46
   try clear c49
   try clear c52
   try clear c53
   try clear c54
   try clear c56
   try clear c57
   try clear hcz11_0
   try clear hcz11_1
   try clear hcz11_2
   try clear hcz11_3
   try clear hcz11_4
   try clear hcz13_0
   try clear hcz13_1
   try clear hcz13_2
   try clear hcz13_3
   try clear hcz13_4
   try clear hcz18_0
   try clear hcz18_1
   try clear hcz18_2
   try clear hcz18_3
   try clear hcz18_4
   try clear hcz20_0
   try clear hcz20_1
   try clear hcz20_2
   try clear hcz20_3
   try clear hcz20_4
   try clear hcz21_0
   try clear hcz21_1
   try clear hcz21_2
   try clear hcz21_3
   try clear hcz21_4
   try clear hcz27_0
   try clear hcz27_1
   try clear hcz27_2
   try clear hcz27_3
   try clear hcz27_4
   try clear hcz35_0
   try clear hcz35_1
   try clear hcz35_2
   try clear hcz35_3
   try clear hcz35_4
   try clear hcz38_0
   try clear hcz38_1
   try clear hcz38_2
   try clear hcz38_3
   try clear hcz38_4
   try clear hcz44_0
   try clear hcz44_1
   try clear hcz44_2
   try clear hcz44_3
   try clear hcz44_4
   try clear hcz47_0
   try clear hcz47_1
   try clear hcz47_2
   try clear hcz47_3
   try clear hcz47_4
   try clear hcz50_0
   try clear hcz50_1
   try clear hcz50_2
   try clear hcz50_3
   try clear hcz50_4
   try clear hcz55_0
   try clear hcz55_1
   try clear hcz55_2
   try clear hcz55_3
   try clear hcz55_4
   try clear hcz58_0
   try clear hcz58_1
   try clear hcz58_2
   try clear hcz58_3
   try clear hcz58_4
   try clear hfz11_0
   try clear hfz11_1
   try clear hfz11_2
   try clear hfz11_3
   try clear hfz11_4
   try clear hfz13_0
   try clear hfz13_1
   try clear hfz13_2
   try clear hfz13_3
   try clear hfz13_4
   try clear hfz18_0
   try clear hfz18_1
   try clear hfz18_2
   try clear hfz18_3
   try clear hfz18_4
   try clear hfz20_0
   try clear hfz20_1
   try clear hfz20_2
   try clear hfz20_3
   try clear hfz20_4
   try clear hfz21_0
   try clear hfz21_1
   try clear hfz21_2
   try clear hfz21_3
   try clear hfz21_4
   try clear hfz27_0
   try clear hfz27_1
   try clear hfz27_2
   try clear hfz27_3
   try clear hfz27_4
   try clear hfz35_0
   try clear hfz35_1
   try clear hfz35_2
   try clear hfz35_3
   try clear hfz35_4
   try clear hfz38_0
   try clear hfz38_1
   try clear hfz38_2
   try clear hfz38_3
   try clear hfz38_4
   try clear hfz44_0
   try clear hfz44_1
   try clear hfz44_2
   try clear hfz44_3
   try clear hfz44_4
   try clear hfz47_0
   try clear hfz47_1
   try clear hfz47_2
   try clear hfz47_3
   try clear hfz47_4
   try clear hfz50_0
   try clear hfz50_1
   try clear hfz50_2
   try clear hfz50_3
   try clear hfz50_4
   try clear hfz55_0
   try clear hfz55_1
   try clear hfz55_2
   try clear hfz55_3
   try clear hfz55_4
   try clear hfz58_0
   try clear hfz58_1
   try clear hfz58_2
   try clear hfz58_3
   try clear hfz58_4
   obtain ⟨kq, x43_5, rfl, HA, HJ5, HO_425003, HO_435003, HO_444003, BK424, BK425, BK434, BK443, HB⟩ := hcut
   cases kq with
   | zero => exact absurd HA.out (by simp [laws_FnFopHear.j0])
   | succ kj5 =>
    have H := HA.out
    clear HA
    simp only [laws_FnFopHear.j0] at H
    by_cases c60 : x43_5 = true
    ·subst c60
     have H1 : ((laws_skFop.f kj5 t426 t427 t428 t429 t432 t435 t436 t437 t438 t441).bind fun t446 => (if t446 = true then (some (t433 == t442)) else (some false))) = some r := by rw [if_pos rfl] at H; exact H
     clear H
     have H := H1
     clear H1
     replace H := Option.bind_eq_some_iff.mp H
     obtain ⟨t446, A610, H⟩ := H
     replace H : (if t446 = true then (some (t433 == t442)) else (some false)) = some r := H
     have A61 := Aside0.mk A610
     clear A610
     by_cases c62 : t446 = true
     ·subst c62
      have H1 : (some (t433 == t442)) = some r := by rw [if_pos rfl] at H; exact H
      clear H
      have H := H1
      clear H1
      obtain rfl := Option.some.inj H
      have hnb63 := NB434_424.out
      have hnc63 := NB424_434.out
      have hnb64 := NB434_425.out
      have hnc64 := NB425_434.out
      have hnb65 := NB434_443.out
      have hnc65 := NB443_434.out
      have hcz66_0 : wc.cell? ⟨gb434, 0, none⟩ = some (.int .i64 t426) := bc BK434 0
      have hcz66_1 : wc.cell? ⟨gb434, 1, none⟩ = some (.int .i64 t427) := bc BK434 1
      have hcz66_2 : wc.cell? ⟨gb434, 2, none⟩ = some (.int .i64 t428) := bc BK434 2
      have hcz66_3 : wc.cell? ⟨gb434, 3, none⟩ = some (.slice Ao19 t429.length co19) := bc BK434 3
      have hcz66_4 : wc.cell? ⟨gb434, 4, none⟩ = some (.bool t432) := bc BK434 4
      have hfz66_0 := blk_frozen BK434.out 0
      have hfz66_1 := blk_frozen BK434.out 1
      have hfz66_2 := blk_frozen BK434.out 2
      have hfz66_3 := blk_frozen BK434.out 3
      have hfz66_4 := blk_frozen BK434.out 4
      have hnb67 := NB443_424.out
      have hnc67 := NB424_443.out
      have hnb68 := NB443_425.out
      have hnc68 := NB425_443.out
      have hcz69_0 : wc.cell? ⟨gb443, 0, none⟩ = some (.int .i64 t435) := bc BK443 0
      have hcz69_1 : wc.cell? ⟨gb443, 1, none⟩ = some (.int .i64 t436) := bc BK443 1
      have hcz69_2 : wc.cell? ⟨gb443, 2, none⟩ = some (.int .i64 t437) := bc BK443 2
      have hcz69_3 : wc.cell? ⟨gb443, 3, none⟩ = some (.slice Ao28 t438.length co28) := bc BK443 3
      have hcz69_4 : wc.cell? ⟨gb443, 4, none⟩ = some (.bool t441) := bc BK443 4
      have hfz69_0 := blk_frozen BK443.out 0
      have hfz69_1 := blk_frozen BK443.out 1
      have hfz69_2 := blk_frozen BK443.out 2
      have hfz69_3 := blk_frozen BK443.out 3
      have hfz69_4 := blk_frozen BK443.out 4
      go_wp2_with (first | ((with_reducible refine gate_callee (f := 10) rfl ?_); refine goesL_ (some 46) rfl rfl Try.func10 (by kernel_rfl) rfl #[.agg #[.int .i64 t426, .int .i64 t427, .int .i64 t428, .slice Ao19 t429.length co19, .bool t432], .agg #[.int .i64 t435, .int .i64 t436, .int .i64 t437, .slice Ao28 t438.length co28, .bool t441]] rfl gl_ ?_; (with_reducible refine (laws_skFop.calls kj5 t426 t427 t428 _ _ t429 t432 t435 t436 t437 _ _ t438 t441 true _ ?side1 ?side2 ?side3 ?side4 A61.out).mono ?_); (case side1 => exact cN (Kd.R_reads' HO_435003.out).2.2); (case side2 => exact (Kd.R_reads' HO_435003.out).2.1); (case side3 => exact cN (Kd.R_reads' HO_444003.out).2.2); (case side4 => exact (Kd.R_reads' HO_444003.out).2.1); rintro e w70 ⟨rfl, hb⟩; refine ⟨_, rfl, ?_⟩; have n0_ := m_ (Kd.R_below (rN HO_425003.out) hb); have n1_ := m_ (Kd.R_below (rN HO_435003.out) hb); have n2_ := m_ (Kd.R_below (rN HO_444003.out) hb); have n3_ := m_ (blk_below (kN BK424.out) hb); have n4_ := m_ (blk_below (kN BK425.out) hb); have n5_ := m_ (blk_below (kN BK434.out) hb); have n6_ := m_ (blk_below (kN BK443.out) hb); have n7_ := m_ (below_step (bN HB.out) hb); clear HO_425003; clear HO_435003; clear HO_444003; clear BK424; clear BK425; clear BK434; clear BK443; clear HB; have HO_425003 := n0_; have HO_435003 := n1_; have HO_444003 := n2_; have BK424 := n3_; have BK425 := n4_; have BK434 := n5_; have BK443 := n6_; have HB := n7_; clear n0_ n1_ n2_ n3_ n4_ n5_ n6_ n7_; (try clear hb); (try clear hb2); (try clear hk); (try clear hi)))
      go_ret
      exact ⟨by first | rfl | (simp [errW_none, errW_some] <;> rfl) | (simp [*, errW_none, errW_some] <;> rfl), by repeat (first | (with_reducible first | exact HB.out | apply below_alloc | apply pw_below_drewN | apply below_drew1 | refine below_set ?_ GE424.out | refine below_set ?_ GE425.out | refine below_set ?_ GE434.out | refine below_set ?_ GE443.out) | exact HB.out)⟩
     ·replace c62 := Bool.eq_false_iff.mpr c62
      subst c62
      have H1 : (some false) = some r := by rw [if_neg (show ¬ (false = true) by decide)] at H; exact H
      clear H
      have H := H1
      clear H1
      obtain rfl := Option.some.inj H
      have hnb71 := NB434_424.out
      have hnc71 := NB424_434.out
      have hnb72 := NB434_425.out
      have hnc72 := NB425_434.out
      have hnb73 := NB434_443.out
      have hnc73 := NB443_434.out
      have hcz74_0 : wc.cell? ⟨gb434, 0, none⟩ = some (.int .i64 t426) := bc BK434 0
      have hcz74_1 : wc.cell? ⟨gb434, 1, none⟩ = some (.int .i64 t427) := bc BK434 1
      have hcz74_2 : wc.cell? ⟨gb434, 2, none⟩ = some (.int .i64 t428) := bc BK434 2
      have hcz74_3 : wc.cell? ⟨gb434, 3, none⟩ = some (.slice Ao19 t429.length co19) := bc BK434 3
      have hcz74_4 : wc.cell? ⟨gb434, 4, none⟩ = some (.bool t432) := bc BK434 4
      have hfz74_0 := blk_frozen BK434.out 0
      have hfz74_1 := blk_frozen BK434.out 1
      have hfz74_2 := blk_frozen BK434.out 2
      have hfz74_3 := blk_frozen BK434.out 3
      have hfz74_4 := blk_frozen BK434.out 4
      have hnb75 := NB443_424.out
      have hnc75 := NB424_443.out
      have hnb76 := NB443_425.out
      have hnc76 := NB425_443.out
      have hcz77_0 : wc.cell? ⟨gb443, 0, none⟩ = some (.int .i64 t435) := bc BK443 0
      have hcz77_1 : wc.cell? ⟨gb443, 1, none⟩ = some (.int .i64 t436) := bc BK443 1
      have hcz77_2 : wc.cell? ⟨gb443, 2, none⟩ = some (.int .i64 t437) := bc BK443 2
      have hcz77_3 : wc.cell? ⟨gb443, 3, none⟩ = some (.slice Ao28 t438.length co28) := bc BK443 3
      have hcz77_4 : wc.cell? ⟨gb443, 4, none⟩ = some (.bool t441) := bc BK443 4
      have hfz77_0 := blk_frozen BK443.out 0
      have hfz77_1 := blk_frozen BK443.out 1
      have hfz77_2 := blk_frozen BK443.out 2
      have hfz77_3 := blk_frozen BK443.out 3
      have hfz77_4 := blk_frozen BK443.out 4
      go_wp2_with (first | ((with_reducible refine gate_callee (f := 10) rfl ?_); refine goesL_ (some 46) rfl rfl Try.func10 (by kernel_rfl) rfl #[.agg #[.int .i64 t426, .int .i64 t427, .int .i64 t428, .slice Ao19 t429.length co19, .bool t432], .agg #[.int .i64 t435, .int .i64 t436, .int .i64 t437, .slice Ao28 t438.length co28, .bool t441]] rfl gl_ ?_; (with_reducible refine (laws_skFop.calls kj5 t426 t427 t428 _ _ t429 t432 t435 t436 t437 _ _ t438 t441 false _ ?side1 ?side2 ?side3 ?side4 A61.out).mono ?_); (case side1 => exact cN (Kd.R_reads' HO_435003.out).2.2); (case side2 => exact (Kd.R_reads' HO_435003.out).2.1); (case side3 => exact cN (Kd.R_reads' HO_444003.out).2.2); (case side4 => exact (Kd.R_reads' HO_444003.out).2.1); rintro e w78 ⟨rfl, hb⟩; refine ⟨_, rfl, ?_⟩; have n0_ := m_ (Kd.R_below (rN HO_425003.out) hb); have n1_ := m_ (Kd.R_below (rN HO_435003.out) hb); have n2_ := m_ (Kd.R_below (rN HO_444003.out) hb); have n3_ := m_ (blk_below (kN BK424.out) hb); have n4_ := m_ (blk_below (kN BK425.out) hb); have n5_ := m_ (blk_below (kN BK434.out) hb); have n6_ := m_ (blk_below (kN BK443.out) hb); have n7_ := m_ (below_step (bN HB.out) hb); clear HO_425003; clear HO_435003; clear HO_444003; clear BK424; clear BK425; clear BK434; clear BK443; clear HB; have HO_425003 := n0_; have HO_435003 := n1_; have HO_444003 := n2_; have BK424 := n3_; have BK425 := n4_; have BK434 := n5_; have BK443 := n6_; have HB := n7_; clear n0_ n1_ n2_ n3_ n4_ n5_ n6_ n7_; (try clear hb); (try clear hb2); (try clear hk); (try clear hi)))
      go_ret
      exact ⟨by first | rfl | (simp [errW_none, errW_some] <;> rfl) | (simp [*, errW_none, errW_some] <;> rfl), by repeat (first | (with_reducible first | exact HB.out | apply below_alloc | apply pw_below_drewN | apply below_drew1 | refine below_set ?_ GE424.out | refine below_set ?_ GE425.out | refine below_set ?_ GE434.out | refine below_set ?_ GE443.out) | exact HB.out)⟩
    ·replace c60 := Bool.eq_false_iff.mpr c60
     subst c60
     have H1 : (if t433 = true then (if (wrap64 ((t415.length : Int) - (t429.length : Int))) ≥ 0 then (if 0 ≤ (wrap64 ((t415.length : Int) - (t429.length : Int))) then (if (wrap64 ((t415.length : Int) - (t429.length : Int))) ≤ (t415.length : Int) then ((laws_skTexts.f kj5 t429 (t415.drop ((wrap64 ((t415.length : Int) - (t429.length : Int))) : Int).toNat)).bind fun t451 => (if t451 = true then (if t428 = t414 then ((impl_FopFirst.f kj5 t426 t427 t428 t429 t432).bind fun t452 => (if t452 = t423 then (some (t432 == t419)) else (some false))) else (some false)) else (some false))) else (none)) else (none)) else (some false)) else ((laws_skFop.f kj5 t426 t427 t428 t429 t432 t412 t413 t414 t415 t418).bind fun t453 => (some t453))) = some r := by rw [if_neg (show ¬ (false = true) by decide)] at H; exact H
     clear H
     have H := H1
     clear H1
     by_cases c79 : t433 = true
     ·subst c79
      have H1 : (if (wrap64 ((t415.length : Int) - (t429.length : Int))) ≥ 0 then (if 0 ≤ (wrap64 ((t415.length : Int) - (t429.length : Int))) then (if (wrap64 ((t415.length : Int) - (t429.length : Int))) ≤ (t415.length : Int) then ((laws_skTexts.f kj5 t429 (t415.drop ((wrap64 ((t415.length : Int) - (t429.length : Int))) : Int).toNat)).bind fun t451 => (if t451 = true then (if t428 = t414 then ((impl_FopFirst.f kj5 t426 t427 t428 t429 t432).bind fun t452 => (if t452 = t423 then (some (t432 == t419)) else (some false))) else (some false)) else (some false))) else (none)) else (none)) else (some false)) = some r := by rw [if_pos rfl] at H; exact H
      clear H
      have H := H1
      clear H1
      by_cases c80 : (wrap64 ((t415.length : Int) - (t429.length : Int))) ≥ 0
      ·rw [if_pos c80] at H
       have c80b0 : decide (0 ≤ (wrap64 ((t415.length : Int) - (t429.length : Int)))) = true := decide_eq_true c80
       clear c80
       obtain ⟨ji81, hji81⟩ : ∃ j_ : Int, (wrap64 ((t415.length : Int) - (t429.length : Int))) = j_ := ⟨_, rfl⟩
       replace H : (if 0 ≤ (ji81) then (if (ji81) ≤ (t415.length : Int) then ((laws_skTexts.f kj5 t429 (t415.drop ((ji81) : Int).toNat)).bind fun t451 => (if t451 = true then (if t428 = t414 then ((impl_FopFirst.f kj5 t426 t427 t428 t429 t432).bind fun t452 => (if t452 = t423 then (some (t432 == t419)) else (some false))) else (some false)) else (some false))) else (none)) else (none)) = some r := by first | (rw [hji81] at H; exact H) | (simp only [hji81] at H ⊢; exact H)
       (try rw [hji81] at c80b0)
       have hji81w : (IntKind.i64.wrap ((t415.length : Int) - (t429.length : Int))) = ji81 := (i64_w _).trans hji81
       by_cases c82 : 0 ≤ (ji81)
       ·rw [if_pos c82] at H
        have c82b0 := eq_true c82
        have c82b1 : decide (0 ≤ (ji81)) = true := decide_eq_true c82
        clear c82
        by_cases c83 : (ji81) ≤ (t415.length : Int)
        ·rw [if_pos c83] at H
         have c83b0 := eq_true c83
         have c83b1 : decide ((ji81) ≤ (t415.length : Int)) = true := decide_eq_true c83
         clear c83
         obtain ⟨y447, hy447⟩ : ∃ y_ : List ByteArray, y_ = (t415.drop ((ji81) : Int).toNat) := ⟨_, rfl⟩
         replace H : ((laws_skTexts.f kj5 t429 y447).bind fun t451 => (if t451 = true then (if t428 = t414 then ((impl_FopFirst.f kj5 t426 t427 t428 t429 t432).bind fun t452 => (if t452 = t423 then (some (t432 == t419)) else (some false))) else (some false)) else (some false))) = some r := by first | (rw [hy447]; with_reducible exact H) | (have H2_ := (Option.bind_some _ _).symm.trans H; rw [hy447]; with_reducible exact H2_) | (have H2_ := (Option.bind_some _ _).symm.trans H; with_reducible exact H2_) | with_reducible exact H | (rw [hy447]; exact H) | exact H
         have Ny447 := Aside0.mk hy447
         clear hy447
         replace H := Option.bind_eq_some_iff.mp H
         obtain ⟨t451, A840, H⟩ := H
         replace H : (if t451 = true then (if t428 = t414 then ((impl_FopFirst.f kj5 t426 t427 t428 t429 t432).bind fun t452 => (if t452 = t423 then (some (t432 == t419)) else (some false))) else (some false)) else (some false)) = some r := H
         have A84 := Aside0.mk A840
         clear A840
         by_cases c85 : t451 = true
         ·subst c85
          have H1 : (if t428 = t414 then ((impl_FopFirst.f kj5 t426 t427 t428 t429 t432).bind fun t452 => (if t452 = t423 then (some (t432 == t419)) else (some false))) else (some false)) = some r := by rw [if_pos rfl] at H; exact H
          clear H
          have H := H1
          clear H1
          by_cases c86 : t428 = t414
          ·rw [if_pos c86] at H
           have c86b0 : (t428 == t414) = true := beq_iff_eq.mpr c86
           have c86b1 : (t428 != t414) = false := bne_eq_false_iff_eq.mpr c86
           clear c86
           replace H := Option.bind_eq_some_iff.mp H
           obtain ⟨t452, A870, H⟩ := H
           replace H : (if t452 = t423 then (some (t432 == t419)) else (some false)) = some r := H
           have A87 := Aside0.mk A870
           clear A870
           by_cases c88 : t452 = t423
           ·rw [if_pos c88] at H
            have c88b0 : (t452 == t423) = true := beq_iff_eq.mpr c88
            have c88b1 : (t452 != t423) = false := bne_eq_false_iff_eq.mpr c88
            clear c88
            obtain rfl := Option.some.inj H
            have hnb89 := NB424_425.out
            have hnc89 := NB425_424.out
            have hnb90 := NB424_434.out
            have hnc90 := NB434_424.out
            have hnb91 := NB424_443.out
            have hnc91 := NB443_424.out
            have hcz92_0 : wc.cell? ⟨gb424, 0, none⟩ = some (.int .i64 t412) := bc BK424 0
            have hcz92_1 : wc.cell? ⟨gb424, 1, none⟩ = some (.int .i64 t413) := bc BK424 1
            have hcz92_2 : wc.cell? ⟨gb424, 2, none⟩ = some (.int .i64 t414) := bc BK424 2
            have hcz92_3 : wc.cell? ⟨gb424, 3, none⟩ = some (.slice Ao12 t415.length co12) := bc BK424 3
            have hcz92_4 : wc.cell? ⟨gb424, 4, none⟩ = some (.bool t418) := bc BK424 4
            have hfz92_0 := blk_frozen BK424.out 0
            have hfz92_1 := blk_frozen BK424.out 1
            have hfz92_2 := blk_frozen BK424.out 2
            have hfz92_3 := blk_frozen BK424.out 3
            have hfz92_4 := blk_frozen BK424.out 4
            have hnb93 := NB434_425.out
            have hnc93 := NB425_434.out
            have hnb94 := NB434_443.out
            have hnc94 := NB443_434.out
            have hcz95_0 : wc.cell? ⟨gb434, 0, none⟩ = some (.int .i64 t426) := bc BK434 0
            have hcz95_1 : wc.cell? ⟨gb434, 1, none⟩ = some (.int .i64 t427) := bc BK434 1
            have hcz95_2 : wc.cell? ⟨gb434, 2, none⟩ = some (.int .i64 t428) := bc BK434 2
            have hcz95_3 : wc.cell? ⟨gb434, 3, none⟩ = some (.slice Ao19 t429.length co19) := bc BK434 3
            have hcz95_4 : wc.cell? ⟨gb434, 4, none⟩ = some (.bool t432) := bc BK434 4
            have hfz95_0 := blk_frozen BK434.out 0
            have hfz95_1 := blk_frozen BK434.out 1
            have hfz95_2 := blk_frozen BK434.out 2
            have hfz95_3 := blk_frozen BK434.out 3
            have hfz95_4 := blk_frozen BK434.out 4
            try go_wp2
            have n0_ := m_ (Kd.R_drew HO_425003.out)
            have n1_ := m_ (Kd.R_drew HO_435003.out)
            have n2_ := m_ (Kd.R_drew HO_444003.out)
            have n3_ := m_ (blk_drew BK424.out)
            have n4_ := m_ (blk_drew BK425.out)
            have n5_ := m_ (blk_drew BK434.out)
            have n6_ := m_ (blk_drew BK443.out)
            have n7_ := m_ (below_drew1 HB.out)
            clear HO_425003
            clear HO_435003
            clear HO_444003
            clear BK424
            clear BK425
            clear BK434
            clear BK443
            clear HB
            have HO_425003 := n0_
            have HO_435003 := n1_
            have HO_444003 := n2_
            have BK424 := n3_
            have BK425 := n4_
            have BK434 := n5_
            have BK443 := n6_
            have HB := n7_
            clear n0_ n1_ n2_ n3_ n4_ n5_ n6_ n7_
            have q97 : ((ji81) : Int) ≤ ((t415.length : Int) : Int) := of_decide_eq_true (by first | (with_reducible assumption) | assumption)
            obtain ⟨i097, hi097, _, hsz97, _⟩ := info_parts info9
            have hroom97 : t415.length ≤ co12 := (Kd.R_reads' HO_425003.out).2.1
            have hC97 : Kd.C Kd.string _ Ao12 t415.length t415 := (Kd.R_reads' HO_425003.out).2.2
            have q097 : (0 : Int) ≤ ((ji81) : Int) := of_decide_eq_true (by first | (with_reducible assumption) | assumption)
            have hcut97 := cut_from (P := Try.prog) 23 9 .i64 Try.underlying23 hi097 1 hsz97 Ao12 t415.length co12 (ji81) q097 q97
            have hr97 := Kd.C_drop (m := ((ji81) : Int).toNat) (c := co12) hC97 (by omega) hroom97
            obtain ⟨A97, hA97⟩ : ∃ A1, A1 = (if co12 = ((ji81) : Int).toNat then Ao12 else (Ao12 : Option Addr).map (·.add (((ji81) : Int).toNat * 1))) := ⟨_, rfl⟩
            obtain ⟨c97, hc97⟩ : ∃ c1, c1 = co12 - ((ji81) : Int).toNat := ⟨_, rfl⟩
            have hy97 : y447.length = t415.length - ((ji81) : Int).toNat := (by rw [Ny447.out, List.length_drop] <;> omega)
            rw [show (t415).drop ((ji81) : Int).toNat = y447 from Ny447.out.symm] at hr97
            replace hr97 : Kd.C Kd.string _ A97 y447.length y447 := (by rw [hA97]; exact hr97)
            rw [← hy97, ← hA97, ← hc97] at hcut97
            have HR450 := Aside0.mk hr97
            have HC450 := m_ (show y447.length ≤ c97 from by rw [hy97, hc97]; exact Nat.sub_le_sub_right hroom97 _)
            clear hr97 hC97 hroom97 hi097 hsz97 hc97
            have KY97 := Aside0.mk hy97
            have KA97 := Aside0.mk hA97
            clear hy97 hA97
            have KL97 := m_ (show ((ji81) : Int).toNat ≤ t415.length from by omega)
            replace q97 := eq_true q97
            refine start_ (n := 33) (S := fun w' => w'.cell? ⟨gb434, 0, none⟩ = some (.int .i64 t426) ∧ w'.cell? ⟨gb434, 1, none⟩ = some (.int .i64 t427) ∧ w'.cell? ⟨gb434, 2, none⟩ = some (.int .i64 t428) ∧ w'.cell? ⟨gb434, 3, none⟩ = some (.slice Ao19 t429.length co19) ∧ w'.cell? ⟨gb434, 4, none⟩ = some (.bool t432) ∧ w'.cell? ⟨gb424, 0, none⟩ = some (.int .i64 t412) ∧ w'.cell? ⟨gb424, 1, none⟩ = some (.int .i64 t413) ∧ w'.cell? ⟨gb424, 2, none⟩ = some (.int .i64 t414) ∧ w'.cell? ⟨gb424, 3, none⟩ = some (.slice Ao12 t415.length co12) ∧ w'.cell? ⟨gb424, 4, none⟩ = some (.bool t418) ∧ w'.cell? ⟨gb425, 0, none⟩ = some (.bool t419) ∧ w'.cell? ⟨gb425, 1, none⟩ = some (.bool t420) ∧ w'.cell? ⟨gb425, 2, none⟩ = some (.bool t421) ∧ w'.cell? ⟨gb425, 3, none⟩ = some (.int .i64 t422) ∧ w'.cell? ⟨gb425, 4, none⟩ = some (.int .i64 t423)) (ds := []) #[false, false, false, false, false, false, false, false, false, false, false, false, false, false, false, false, false, false, false, false, false, false, false, false, false, false, false, false, false, false, false, false, false] (by kernel_rfl) rfl rfl ⟨bc BK434 0, bc BK434 1, bc BK434 2, bc BK434 3, bc BK434 4, bc BK424 0, bc BK424 1, bc BK424 2, bc BK424 3, bc BK424 4, bc BK425 0, bc BK425 1, bc BK425 2, bc BK425 3, bc BK425 4⟩ (fun hHeld => ?_); refine with_tabW laws_FnFopHear.tab11 laws_FnFopHear.bits11 (fun HT_ HW_ => ?_)
            generalize wc.drew = w96 at HO_425003 HO_435003 HO_444003 BK424 BK425 BK434 BK443 HB HR450 hHeld ⊢
            refine pu 0 64 HT_ (h := ?_)
            refine pu 1 65 HT_ (h := ?_)
            refine pu 2 66 HT_ (h := ?_)
            refine pu 3 67 HT_ (h := ?_)
            refine pu 5 69 HT_ (h := ?_)
            refine pu 7 71 HT_ (h := ?_)
            refine take_ (i := 4) (N := some 68) (v := ?_) (a' := ?_) #[true, true, true, true, true, true, false, true, false, false, false, false, false, false, false, false, false, false, false, false, false, false, false, false, false, false, false, false, false, false, false, false, false] rfl rfl (take_ofW HT_.out HW_.out (by kernel_rfl)) (fun _ _ _ h => h) (Or.inl ⟨by rfl, ?_⟩) hHeld ?_ ?_
            rotate_left
            ·rintro w' ⟨s0, s1, s2, s3, s4, s5, s6, s7, s8, s9, s10, s11, s12, s13, s14⟩
             go_simp
             with_reducible rfl
            rotate_left
            ·simp only [Act.put, List.setIfInBounds_toArray, List.set_cons_zero, List.set_cons_succ, i64_w, i32_w]
             rfl
            refine take_ (i := 6) (N := some 70) (v := ?_) (a' := ?_) #[true, true, true, true, true, true, true, true, false, false, false, false, false, false, false, false, false, false, false, false, false, false, false, false, false, false, false, false, false, false, false, false, false] rfl rfl (take_ofW HT_.out HW_.out (by kernel_rfl)) (fun _ _ _ h => h) (Or.inl ⟨by rfl, ?_⟩) hHeld ?_ ?_
            rotate_left
            ·rintro w' ⟨s0, s1, s2, s3, s4, s5, s6, s7, s8, s9, s10, s11, s12, s13, s14⟩
             go_simp
             with_reducible rfl
            rotate_left
            ·simp only [Act.put, List.setIfInBounds_toArray, List.set_cons_zero, List.set_cons_succ, i64_w, i32_w]
             rfl
            refine pu 8 72 HT_ (h := ?_)
            refine one_ (i := 9) (N := some 73) #[true, true, true, true, true, true, true, true, true, true, false, false, false, false, false, false, false, false, false, false, false, false, false, false, false, false, false, false, false, false, false, false, false] rfl rfl (one_of HT_.out (by kernel_rfl)) (by decide) (fun K hK => ?_)
            refine goes_ Try.func18 (by kernel_rfl) rfl #[.slice Ao19 t429.length co19, .slice A97 y447.length c97] (by rfl) rfl rfl gl_ ?_
            with_reducible refine (laws_skTexts.calls kj5 _ _ t429 _ _ y447 true _ ?side1 ?side2 ?side3 ?side4 A84.out).mono ?_
            (case side1 => exact cN (Kd.R_reads' HO_435003.out).2.2)
            (case side2 => exact (Kd.R_reads' HO_435003.out).2.1)
            (case side3 => repeat (first | exact (by repeat (first | (with_reducible exact HR450.out) | (with_reducible refine Kd.C_alloc ?_ _) | (with_reducible refine Kd.C_drewN ?_ _) | (with_reducible refine Kd.C_drew ?_) | exact HR450.out)) | (with_reducible refine Kd.C_alloc ?_ _) | (with_reducible refine Kd.C_drewN ?_ _) | (with_reducible refine Kd.C_drew ?_)))
            (case side4 => exact HC450.out)
            rintro e w' ⟨rfl, ⟨nd, rfl⟩⟩
            refine ⟨_, rfl, ?_⟩
            refine hK.out _ _ ⟨bc BK434 0, bc BK434 1, bc BK434 2, bc BK434 3, bc BK434 4, bc BK424 0, bc BK424 1, bc BK424 2, bc BK424 3, bc BK424 4, bc BK425 0, bc BK425 1, bc BK425 2, bc BK425 3, bc BK425 4⟩ (fun hHeld => ?_)
            clear hK K
            refine np (h := ?_)
            refine pu 10 74 HT_ (h := ?_)
            refine pu 11 75 HT_ (h := ?_)
            refine pu 12 76 HT_ (h := ?_)
            refine pu 14 78 HT_ (h := ?_)
            refine take_ (i := 13) (N := some 77) (v := ?_) (a' := ?_) #[true, true, true, true, true, true, true, true, true, true, true, true, true, true, true, false, false, false, false, false, false, false, false, false, false, false, false, false, false, false, false, false, false] rfl rfl (take_ofW HT_.out HW_.out (by kernel_rfl)) (fun _ _ _ h => h) (Or.inl ⟨by rfl, ?_⟩) hHeld ?_ ?_
            rotate_left
            ·rintro w' ⟨s0, s1, s2, s3, s4, s5, s6, s7, s8, s9, s10, s11, s12, s13, s14⟩
             go_simp
             with_reducible rfl
            rotate_left
            ·simp only [Act.put, List.setIfInBounds_toArray, List.set_cons_zero, List.set_cons_succ, i64_w, i32_w]
             rfl
            refine take_ (i := 15) (N := some 79) (v := ?_) (a' := ?_) #[true, true, true, true, true, true, true, true, true, true, true, true, true, true, true, true, false, false, false, false, false, false, false, false, false, false, false, false, false, false, false, false, false] rfl rfl (take_ofW HT_.out HW_.out (by kernel_rfl)) (fun _ _ _ h => h) (Or.inl ⟨by rfl, ?_⟩) hHeld ?_ ?_
            rotate_left
            ·rintro w' ⟨s0, s1, s2, s3, s4, s5, s6, s7, s8, s9, s10, s11, s12, s13, s14⟩
             go_simp
             with_reducible rfl
            rotate_left
            ·simp only [Act.put, List.setIfInBounds_toArray, List.set_cons_zero, List.set_cons_succ, i64_w, i32_w]
             rfl
            refine pu 16 80 HT_ (h := ?_)
            refine pu 17 81 HT_ (h := ?_)
            refine pu 18 82 HT_ (h := ?_)
            refine pu 21 85 HT_ (h := ?_)
            refine take_ (i := 19) (N := some 83) (v := ?_) (a' := ?_) #[true, true, true, true, true, true, true, true, true, true, true, true, true, true, true, true, true, true, true, true, false, true, false, false, false, false, false, false, false, false, false, false, false] rfl rfl (take_ofW HT_.out HW_.out (by kernel_rfl)) (fun _ _ _ h => h) (Or.inl ⟨by rfl, ?_⟩) hHeld ?_ ?_
            rotate_left
            ·rintro w' ⟨s0, s1, s2, s3, s4, s5, s6, s7, s8, s9, s10, s11, s12, s13, s14⟩
             go_simp
             with_reducible rfl
            rotate_left
            ·simp only [Act.put, List.setIfInBounds_toArray, List.set_cons_zero, List.set_cons_succ, i64_w, i32_w]
             rfl
            refine take_ (i := 22) (N := some 86) (v := ?_) (a' := ?_) #[true, true, true, true, true, true, true, true, true, true, true, true, true, true, true, true, true, true, true, true, false, true, true, false, false, false, false, false, false, false, false, false, false] rfl rfl (take_ofW HT_.out HW_.out (by kernel_rfl)) (fun _ _ _ h => h) (Or.inl ⟨by rfl, ?_⟩) hHeld ?_ ?_
            rotate_left
            ·rintro w' ⟨s0, s1, s2, s3, s4, s5, s6, s7, s8, s9, s10, s11, s12, s13, s14⟩
             go_simp
             with_reducible rfl
            rotate_left
            ·simp only [Act.put, List.setIfInBounds_toArray, List.set_cons_zero, List.set_cons_succ, i64_w, i32_w]
             rfl
            refine one_ (i := 20) (N := some 84) #[true, true, true, true, true, true, true, true, true, true, true, true, true, true, true, true, true, true, true, true, true, true, true, false, false, false, false, false, false, false, false, false, false] rfl rfl (one_of HT_.out (by kernel_rfl)) (by decide) (fun K hK => ?_)
            refine goes_ Try.func14 (by kernel_rfl) rfl #[.agg #[.int .i64 t426, .int .i64 t427, .int .i64 t428, .slice Ao19 t429.length co19, .bool t432]] (by rfl) rfl rfl gl_ ?_
            with_reducible refine (impl_FopFirst.calls kj5 t426 t427 t428 _ _ t429 t432 t452 _ ?side1 ?side2 A87.out).mono ?_
            (case side1 => exact cN (Kd.R_reads' HO_435003.out).2.2)
            (case side2 => exact (Kd.R_reads' HO_435003.out).2.1)
            rintro e w98 ⟨rfl, hb⟩
            refine ⟨_, rfl, ?_⟩
            have n0_ := m_ (Kd.R_below (rN HO_425003.out) hb)
            have n1_ := m_ (Kd.R_below (rN HO_435003.out) hb)
            have n2_ := m_ (Kd.R_below (rN HO_444003.out) hb)
            have n3_ := m_ (blk_below (kN BK424.out) hb)
            have n4_ := m_ (blk_below (kN BK425.out) hb)
            have n5_ := m_ (blk_below (kN BK434.out) hb)
            have n6_ := m_ (blk_below (kN BK443.out) hb)
            have n7_ := m_ (Kd.C_below (by repeat (first | (with_reducible exact HR450.out) | (with_reducible refine Kd.C_alloc ?_ _) | (with_reducible refine Kd.C_drewN ?_ _) | (with_reducible refine Kd.C_drew ?_) | exact HR450.out)) hb)
            have n8_ := m_ (below_step (bN HB.out) hb)
            clear HO_425003
            clear HO_435003
            clear HO_444003
            clear BK424
            clear BK425
            clear BK434
            clear BK443
            clear HR450
            clear HB
            have HO_425003 := n0_
            have HO_435003 := n1_
            have HO_444003 := n2_
            have BK424 := n3_
            have BK425 := n4_
            have BK434 := n5_
            have BK443 := n6_
            have HR450 := n7_
            have HB := n8_
            clear n0_ n1_ n2_ n3_ n4_ n5_ n6_ n7_ n8_
            (try clear hb)
            (try clear hb2)
            (try clear hk)
            (try clear hi)
            refine hK.out _ _ ⟨bc BK434 0, bc BK434 1, bc BK434 2, bc BK434 3, bc BK434 4, bc BK424 0, bc BK424 1, bc BK424 2, bc BK424 3, bc BK424 4, bc BK425 0, bc BK425 1, bc BK425 2, bc BK425 3, bc BK425 4⟩ (fun hHeld => ?_)
            clear hK K
            refine np (h := ?_)
            refine pu 23 87 HT_ (h := ?_)
            refine pu 24 88 HT_ (h := ?_)
            refine pu 25 89 HT_ (h := ?_)
            refine pu 26 90 HT_ (h := ?_)
            refine pu 28 92 HT_ (h := ?_)
            refine take_ (i := 27) (N := some 91) (v := ?_) (a' := ?_) #[true, true, true, true, true, true, true, true, true, true, true, true, true, true, true, true, true, true, true, true, true, true, true, true, true, true, true, true, true, false, false, false, false] rfl rfl (take_ofW HT_.out HW_.out (by kernel_rfl)) (fun _ _ _ h => h) (Or.inl ⟨by rfl, ?_⟩) hHeld ?_ ?_
            rotate_left
            ·rintro w' ⟨s0, s1, s2, s3, s4, s5, s6, s7, s8, s9, s10, s11, s12, s13, s14⟩
             go_simp
             with_reducible rfl
            rotate_left
            ·simp only [Act.put, List.setIfInBounds_toArray, List.set_cons_zero, List.set_cons_succ, i64_w, i32_w]
             rfl
            refine take_ (i := 29) (N := some 93) (v := ?_) (a' := ?_) #[true, true, true, true, true, true, true, true, true, true, true, true, true, true, true, true, true, true, true, true, true, true, true, true, true, true, true, true, true, true, false, false, false] rfl rfl (take_ofW HT_.out HW_.out (by kernel_rfl)) (fun _ _ _ h => h) (Or.inl ⟨by rfl, ?_⟩) hHeld ?_ ?_
            rotate_left
            ·rintro w' ⟨s0, s1, s2, s3, s4, s5, s6, s7, s8, s9, s10, s11, s12, s13, s14⟩
             go_simp
             with_reducible rfl
            rotate_left
            ·simp only [Act.put, List.setIfInBounds_toArray, List.set_cons_zero, List.set_cons_succ, i64_w, i32_w]
             rfl
            refine pu 30 94 HT_ (h := ?_)
            refine pu 31 95 HT_ (h := ?_)
            refine pu 32 2 HT_ (h := ?_)
            refine done_ (done_of HT_.out (by kernel_rfl)) ?_
            try go_wp2
            go_ret
            exact ⟨by first | rfl | (simp [errW_none, errW_some] <;> rfl) | (simp only [← hji81]; first | rfl | (simp [errW_none, errW_some] <;> rfl)) | (simp [*, errW_none, errW_some] <;> rfl), by repeat (first | (with_reducible first | exact HB.out | apply below_alloc | apply pw_below_drewN | apply below_drew1 | refine below_set ?_ GE424.out | refine below_set ?_ GE425.out | refine below_set ?_ GE434.out | refine below_set ?_ GE443.out) | exact HB.out)⟩
           ·rw [if_neg c88] at H
            have c88b0 : (t452 == t423) = false := beq_eq_false_iff_ne.mpr c88
            have c88b1 : (t452 != t423) = true := bne_iff_ne.mpr c88
            obtain rfl := Option.some.inj H
            have hnb99 := NB424_425.out
            have hnc99 := NB425_424.out
            have hnb100 := NB424_434.out
            have hnc100 := NB434_424.out
            have hnb101 := NB424_443.out
            have hnc101 := NB443_424.out
            have hcz102_0 : wc.cell? ⟨gb424, 0, none⟩ = some (.int .i64 t412) := bc BK424 0
            have hcz102_1 : wc.cell? ⟨gb424, 1, none⟩ = some (.int .i64 t413) := bc BK424 1
            have hcz102_2 : wc.cell? ⟨gb424, 2, none⟩ = some (.int .i64 t414) := bc BK424 2
            have hcz102_3 : wc.cell? ⟨gb424, 3, none⟩ = some (.slice Ao12 t415.length co12) := bc BK424 3
            have hcz102_4 : wc.cell? ⟨gb424, 4, none⟩ = some (.bool t418) := bc BK424 4
            have hfz102_0 := blk_frozen BK424.out 0
            have hfz102_1 := blk_frozen BK424.out 1
            have hfz102_2 := blk_frozen BK424.out 2
            have hfz102_3 := blk_frozen BK424.out 3
            have hfz102_4 := blk_frozen BK424.out 4
            have hnb103 := NB434_425.out
            have hnc103 := NB425_434.out
            have hnb104 := NB434_443.out
            have hnc104 := NB443_434.out
            have hcz105_0 : wc.cell? ⟨gb434, 0, none⟩ = some (.int .i64 t426) := bc BK434 0
            have hcz105_1 : wc.cell? ⟨gb434, 1, none⟩ = some (.int .i64 t427) := bc BK434 1
            have hcz105_2 : wc.cell? ⟨gb434, 2, none⟩ = some (.int .i64 t428) := bc BK434 2
            have hcz105_3 : wc.cell? ⟨gb434, 3, none⟩ = some (.slice Ao19 t429.length co19) := bc BK434 3
            have hcz105_4 : wc.cell? ⟨gb434, 4, none⟩ = some (.bool t432) := bc BK434 4
            have hfz105_0 := blk_frozen BK434.out 0
            have hfz105_1 := blk_frozen BK434.out 1
            have hfz105_2 := blk_frozen BK434.out 2
            have hfz105_3 := blk_frozen BK434.out 3
            have hfz105_4 := blk_frozen BK434.out 4
            try go_wp2
            have n0_ := m_ (Kd.R_drew HO_425003.out)
            have n1_ := m_ (Kd.R_drew HO_435003.out)
            have n2_ := m_ (Kd.R_drew HO_444003.out)
            have n3_ := m_ (blk_drew BK424.out)
            have n4_ := m_ (blk_drew BK425.out)
            have n5_ := m_ (blk_drew BK434.out)
            have n6_ := m_ (blk_drew BK443.out)
            have n7_ := m_ (below_drew1 HB.out)
            clear HO_425003
            clear HO_435003
            clear HO_444003
            clear BK424
            clear BK425
            clear BK434
            clear BK443
            clear HB
            have HO_425003 := n0_
            have HO_435003 := n1_
            have HO_444003 := n2_
            have BK424 := n3_
            have BK425 := n4_
            have BK434 := n5_
            have BK443 := n6_
            have HB := n7_
            clear n0_ n1_ n2_ n3_ n4_ n5_ n6_ n7_
            have q107 : ((ji81) : Int) ≤ ((t415.length : Int) : Int) := of_decide_eq_true (by first | (with_reducible assumption) | assumption)
            obtain ⟨i0107, hi0107, _, hsz107, _⟩ := info_parts info9
            have hroom107 : t415.length ≤ co12 := (Kd.R_reads' HO_425003.out).2.1
            have hC107 : Kd.C Kd.string _ Ao12 t415.length t415 := (Kd.R_reads' HO_425003.out).2.2
            have q0107 : (0 : Int) ≤ ((ji81) : Int) := of_decide_eq_true (by first | (with_reducible assumption) | assumption)
            have hcut107 := cut_from (P := Try.prog) 23 9 .i64 Try.underlying23 hi0107 1 hsz107 Ao12 t415.length co12 (ji81) q0107 q107
            have hr107 := Kd.C_drop (m := ((ji81) : Int).toNat) (c := co12) hC107 (by omega) hroom107
            obtain ⟨A107, hA107⟩ : ∃ A1, A1 = (if co12 = ((ji81) : Int).toNat then Ao12 else (Ao12 : Option Addr).map (·.add (((ji81) : Int).toNat * 1))) := ⟨_, rfl⟩
            obtain ⟨c107, hc107⟩ : ∃ c1, c1 = co12 - ((ji81) : Int).toNat := ⟨_, rfl⟩
            have hy107 : y447.length = t415.length - ((ji81) : Int).toNat := (by rw [Ny447.out, List.length_drop] <;> omega)
            rw [show (t415).drop ((ji81) : Int).toNat = y447 from Ny447.out.symm] at hr107
            replace hr107 : Kd.C Kd.string _ A107 y447.length y447 := (by rw [hA107]; exact hr107)
            rw [← hy107, ← hA107, ← hc107] at hcut107
            have HR450 := Aside0.mk hr107
            have HC450 := m_ (show y447.length ≤ c107 from by rw [hy107, hc107]; exact Nat.sub_le_sub_right hroom107 _)
            clear hr107 hC107 hroom107 hi0107 hsz107 hc107
            have KY107 := Aside0.mk hy107
            have KA107 := Aside0.mk hA107
            clear hy107 hA107
            have KL107 := m_ (show ((ji81) : Int).toNat ≤ t415.length from by omega)
            replace q107 := eq_true q107
            refine start_ (n := 33) (S := fun w' => w'.cell? ⟨gb434, 0, none⟩ = some (.int .i64 t426) ∧ w'.cell? ⟨gb434, 1, none⟩ = some (.int .i64 t427) ∧ w'.cell? ⟨gb434, 2, none⟩ = some (.int .i64 t428) ∧ w'.cell? ⟨gb434, 3, none⟩ = some (.slice Ao19 t429.length co19) ∧ w'.cell? ⟨gb434, 4, none⟩ = some (.bool t432) ∧ w'.cell? ⟨gb424, 0, none⟩ = some (.int .i64 t412) ∧ w'.cell? ⟨gb424, 1, none⟩ = some (.int .i64 t413) ∧ w'.cell? ⟨gb424, 2, none⟩ = some (.int .i64 t414) ∧ w'.cell? ⟨gb424, 3, none⟩ = some (.slice Ao12 t415.length co12) ∧ w'.cell? ⟨gb424, 4, none⟩ = some (.bool t418) ∧ w'.cell? ⟨gb425, 0, none⟩ = some (.bool t419) ∧ w'.cell? ⟨gb425, 1, none⟩ = some (.bool t420) ∧ w'.cell? ⟨gb425, 2, none⟩ = some (.bool t421) ∧ w'.cell? ⟨gb425, 3, none⟩ = some (.int .i64 t422) ∧ w'.cell? ⟨gb425, 4, none⟩ = some (.int .i64 t423)) (ds := []) #[false, false, false, false, false, false, false, false, false, false, false, false, false, false, false, false, false, false, false, false, false, false, false, false, false, false, false, false, false, false, false, false, false] (by kernel_rfl) rfl rfl ⟨bc BK434 0, bc BK434 1, bc BK434 2, bc BK434 3, bc BK434 4, bc BK424 0, bc BK424 1, bc BK424 2, bc BK424 3, bc BK424 4, bc BK425 0, bc BK425 1, bc BK425 2, bc BK425 3, bc BK425 4⟩ (fun hHeld => ?_); refine with_tabW laws_FnFopHear.tab11 laws_FnFopHear.bits11 (fun HT_ HW_ => ?_)
            generalize wc.drew = w106 at HO_425003 HO_435003 HO_444003 BK424 BK425 BK434 BK443 HB HR450 hHeld ⊢
            refine pu 0 64 HT_ (h := ?_)
            refine pu 1 65 HT_ (h := ?_)
            refine pu 2 66 HT_ (h := ?_)
            refine pu 3 67 HT_ (h := ?_)
            refine pu 5 69 HT_ (h := ?_)
            refine pu 7 71 HT_ (h := ?_)
            refine take_ (i := 4) (N := some 68) (v := ?_) (a' := ?_) #[true, true, true, true, true, true, false, true, false, false, false, false, false, false, false, false, false, false, false, false, false, false, false, false, false, false, false, false, false, false, false, false, false] rfl rfl (take_ofW HT_.out HW_.out (by kernel_rfl)) (fun _ _ _ h => h) (Or.inl ⟨by rfl, ?_⟩) hHeld ?_ ?_
            rotate_left
            ·rintro w' ⟨s0, s1, s2, s3, s4, s5, s6, s7, s8, s9, s10, s11, s12, s13, s14⟩
             go_simp
             with_reducible rfl
            rotate_left
            ·simp only [Act.put, List.setIfInBounds_toArray, List.set_cons_zero, List.set_cons_succ, i64_w, i32_w]
             rfl
            refine take_ (i := 6) (N := some 70) (v := ?_) (a' := ?_) #[true, true, true, true, true, true, true, true, false, false, false, false, false, false, false, false, false, false, false, false, false, false, false, false, false, false, false, false, false, false, false, false, false] rfl rfl (take_ofW HT_.out HW_.out (by kernel_rfl)) (fun _ _ _ h => h) (Or.inl ⟨by rfl, ?_⟩) hHeld ?_ ?_
            rotate_left
            ·rintro w' ⟨s0, s1, s2, s3, s4, s5, s6, s7, s8, s9, s10, s11, s12, s13, s14⟩
             go_simp
             with_reducible rfl
            rotate_left
            ·simp only [Act.put, List.setIfInBounds_toArray, List.set_cons_zero, List.set_cons_succ, i64_w, i32_w]
             rfl
            refine pu 8 72 HT_ (h := ?_)
            refine one_ (i := 9) (N := some 73) #[true, true, true, true, true, true, true, true, true, true, false, false, false, false, false, false, false, false, false, false, false, false, false, false, false, false, false, false, false, false, false, false, false] rfl rfl (one_of HT_.out (by kernel_rfl)) (by decide) (fun K hK => ?_)
            refine goes_ Try.func18 (by kernel_rfl) rfl #[.slice Ao19 t429.length co19, .slice A107 y447.length c107] (by rfl) rfl rfl gl_ ?_
            with_reducible refine (laws_skTexts.calls kj5 _ _ t429 _ _ y447 true _ ?side1 ?side2 ?side3 ?side4 A84.out).mono ?_
            (case side1 => exact cN (Kd.R_reads' HO_435003.out).2.2)
            (case side2 => exact (Kd.R_reads' HO_435003.out).2.1)
            (case side3 => repeat (first | exact (by repeat (first | (with_reducible exact HR450.out) | (with_reducible refine Kd.C_alloc ?_ _) | (with_reducible refine Kd.C_drewN ?_ _) | (with_reducible refine Kd.C_drew ?_) | exact HR450.out)) | (with_reducible refine Kd.C_alloc ?_ _) | (with_reducible refine Kd.C_drewN ?_ _) | (with_reducible refine Kd.C_drew ?_)))
            (case side4 => exact HC450.out)
            rintro e w' ⟨rfl, ⟨nd, rfl⟩⟩
            refine ⟨_, rfl, ?_⟩
            refine hK.out _ _ ⟨bc BK434 0, bc BK434 1, bc BK434 2, bc BK434 3, bc BK434 4, bc BK424 0, bc BK424 1, bc BK424 2, bc BK424 3, bc BK424 4, bc BK425 0, bc BK425 1, bc BK425 2, bc BK425 3, bc BK425 4⟩ (fun hHeld => ?_)
            clear hK K
            refine np (h := ?_)
            refine pu 10 74 HT_ (h := ?_)
            refine pu 11 75 HT_ (h := ?_)
            refine pu 12 76 HT_ (h := ?_)
            refine pu 14 78 HT_ (h := ?_)
            refine take_ (i := 13) (N := some 77) (v := ?_) (a' := ?_) #[true, true, true, true, true, true, true, true, true, true, true, true, true, true, true, false, false, false, false, false, false, false, false, false, false, false, false, false, false, false, false, false, false] rfl rfl (take_ofW HT_.out HW_.out (by kernel_rfl)) (fun _ _ _ h => h) (Or.inl ⟨by rfl, ?_⟩) hHeld ?_ ?_
            rotate_left
            ·rintro w' ⟨s0, s1, s2, s3, s4, s5, s6, s7, s8, s9, s10, s11, s12, s13, s14⟩
             go_simp
             with_reducible rfl
            rotate_left
            ·simp only [Act.put, List.setIfInBounds_toArray, List.set_cons_zero, List.set_cons_succ, i64_w, i32_w]
             rfl
            refine take_ (i := 15) (N := some 79) (v := ?_) (a' := ?_) #[true, true, true, true, true, true, true, true, true, true, true, true, true, true, true, true, false, false, false, false, false, false, false, false, false, false, false, false, false, false, false, false, false] rfl rfl (take_ofW HT_.out HW_.out (by kernel_rfl)) (fun _ _ _ h => h) (Or.inl ⟨by rfl, ?_⟩) hHeld ?_ ?_
            rotate_left
            ·rintro w' ⟨s0, s1, s2, s3, s4, s5, s6, s7, s8, s9, s10, s11, s12, s13, s14⟩
             go_simp
             with_reducible rfl
            rotate_left
            ·simp only [Act.put, List.setIfInBounds_toArray, List.set_cons_zero, List.set_cons_succ, i64_w, i32_w]
             rfl
            refine pu 16 80 HT_ (h := ?_)
            refine pu 17 81 HT_ (h := ?_)
            refine pu 18 82 HT_ (h := ?_)
            refine pu 21 85 HT_ (h := ?_)
            refine take_ (i := 19) (N := some 83) (v := ?_) (a' := ?_) #[true, true, true, true, true, true, true, true, true, true, true, true, true, true, true, true, true, true, true, true, false, true, false, false, false, false, false, false, false, false, false, false, false] rfl rfl (take_ofW HT_.out HW_.out (by kernel_rfl)) (fun _ _ _ h => h) (Or.inl ⟨by rfl, ?_⟩) hHeld ?_ ?_
            rotate_left
            ·rintro w' ⟨s0, s1, s2, s3, s4, s5, s6, s7, s8, s9, s10, s11, s12, s13, s14⟩
             go_simp
             with_reducible rfl
            rotate_left
            ·simp only [Act.put, List.setIfInBounds_toArray, List.set_cons_zero, List.set_cons_succ, i64_w, i32_w]
             rfl
            refine take_ (i := 22) (N := some 86) (v := ?_) (a' := ?_) #[true, true, true, true, true, true, true, true, true, true, true, true, true, true, true, true, true, true, true, true, false, true, true, false, false, false, false, false, false, false, false, false, false] rfl rfl (take_ofW HT_.out HW_.out (by kernel_rfl)) (fun _ _ _ h => h) (Or.inl ⟨by rfl, ?_⟩) hHeld ?_ ?_
            rotate_left
            ·rintro w' ⟨s0, s1, s2, s3, s4, s5, s6, s7, s8, s9, s10, s11, s12, s13, s14⟩
             go_simp
             with_reducible rfl
            rotate_left
            ·simp only [Act.put, List.setIfInBounds_toArray, List.set_cons_zero, List.set_cons_succ, i64_w, i32_w]
             rfl
            refine one_ (i := 20) (N := some 84) #[true, true, true, true, true, true, true, true, true, true, true, true, true, true, true, true, true, true, true, true, true, true, true, false, false, false, false, false, false, false, false, false, false] rfl rfl (one_of HT_.out (by kernel_rfl)) (by decide) (fun K hK => ?_)
            refine goes_ Try.func14 (by kernel_rfl) rfl #[.agg #[.int .i64 t426, .int .i64 t427, .int .i64 t428, .slice Ao19 t429.length co19, .bool t432]] (by rfl) rfl rfl gl_ ?_
            with_reducible refine (impl_FopFirst.calls kj5 t426 t427 t428 _ _ t429 t432 t452 _ ?side1 ?side2 A87.out).mono ?_
            (case side1 => exact cN (Kd.R_reads' HO_435003.out).2.2)
            (case side2 => exact (Kd.R_reads' HO_435003.out).2.1)
            rintro e w108 ⟨rfl, hb⟩
            refine ⟨_, rfl, ?_⟩
            have n0_ := m_ (Kd.R_below (rN HO_425003.out) hb)
            have n1_ := m_ (Kd.R_below (rN HO_435003.out) hb)
            have n2_ := m_ (Kd.R_below (rN HO_444003.out) hb)
            have n3_ := m_ (blk_below (kN BK424.out) hb)
            have n4_ := m_ (blk_below (kN BK425.out) hb)
            have n5_ := m_ (blk_below (kN BK434.out) hb)
            have n6_ := m_ (blk_below (kN BK443.out) hb)
            have n7_ := m_ (Kd.C_below (by repeat (first | (with_reducible exact HR450.out) | (with_reducible refine Kd.C_alloc ?_ _) | (with_reducible refine Kd.C_drewN ?_ _) | (with_reducible refine Kd.C_drew ?_) | exact HR450.out)) hb)
            have n8_ := m_ (below_step (bN HB.out) hb)
            clear HO_425003
            clear HO_435003
            clear HO_444003
            clear BK424
            clear BK425
            clear BK434
            clear BK443
            clear HR450
            clear HB
            have HO_425003 := n0_
            have HO_435003 := n1_
            have HO_444003 := n2_
            have BK424 := n3_
            have BK425 := n4_
            have BK434 := n5_
            have BK443 := n6_
            have HR450 := n7_
            have HB := n8_
            clear n0_ n1_ n2_ n3_ n4_ n5_ n6_ n7_ n8_
            (try clear hb)
            (try clear hb2)
            (try clear hk)
            (try clear hi)
            refine hK.out _ _ ⟨bc BK434 0, bc BK434 1, bc BK434 2, bc BK434 3, bc BK434 4, bc BK424 0, bc BK424 1, bc BK424 2, bc BK424 3, bc BK424 4, bc BK425 0, bc BK425 1, bc BK425 2, bc BK425 3, bc BK425 4⟩ (fun hHeld => ?_)
            clear hK K
            refine np (h := ?_)
            refine pu 23 87 HT_ (h := ?_)
            refine pu 24 88 HT_ (h := ?_)
            refine pu 25 89 HT_ (h := ?_)
            refine pv 26 90 HT_ (h := ?_)
            refine pv 27 91 HT_ (h := ?_)
            refine pv 28 92 HT_ (h := ?_)
            refine pv 29 93 HT_ (h := ?_)
            refine pv 30 94 HT_ (h := ?_)
            refine pu 31 95 HT_ (h := ?_)
            refine pu 32 2 HT_ (h := ?_)
            refine done_ (done_of HT_.out (by kernel_rfl)) ?_
            try go_wp2
            go_ret
            exact ⟨by first | rfl | (simp [errW_none, errW_some] <;> rfl) | (simp only [← hji81]; first | rfl | (simp [errW_none, errW_some] <;> rfl)) | (simp [*, errW_none, errW_some] <;> rfl), by repeat (first | (with_reducible first | exact HB.out | apply below_alloc | apply pw_below_drewN | apply below_drew1 | refine below_set ?_ GE424.out | refine below_set ?_ GE425.out | refine below_set ?_ GE434.out | refine below_set ?_ GE443.out) | exact HB.out)⟩
          ·rw [if_neg c86] at H
           have c86b0 : (t428 == t414) = false := beq_eq_false_iff_ne.mpr c86
           have c86b1 : (t428 != t414) = true := bne_iff_ne.mpr c86
           obtain rfl := Option.some.inj H
           have hnb109 := NB424_425.out
           have hnc109 := NB425_424.out
           have hnb110 := NB424_434.out
           have hnc110 := NB434_424.out
           have hnb111 := NB424_443.out
           have hnc111 := NB443_424.out
           have hcz112_0 : wc.cell? ⟨gb424, 0, none⟩ = some (.int .i64 t412) := bc BK424 0
           have hcz112_1 : wc.cell? ⟨gb424, 1, none⟩ = some (.int .i64 t413) := bc BK424 1
           have hcz112_2 : wc.cell? ⟨gb424, 2, none⟩ = some (.int .i64 t414) := bc BK424 2
           have hcz112_3 : wc.cell? ⟨gb424, 3, none⟩ = some (.slice Ao12 t415.length co12) := bc BK424 3
           have hcz112_4 : wc.cell? ⟨gb424, 4, none⟩ = some (.bool t418) := bc BK424 4
           have hfz112_0 := blk_frozen BK424.out 0
           have hfz112_1 := blk_frozen BK424.out 1
           have hfz112_2 := blk_frozen BK424.out 2
           have hfz112_3 := blk_frozen BK424.out 3
           have hfz112_4 := blk_frozen BK424.out 4
           have hnb113 := NB434_425.out
           have hnc113 := NB425_434.out
           have hnb114 := NB434_443.out
           have hnc114 := NB443_434.out
           have hcz115_0 : wc.cell? ⟨gb434, 0, none⟩ = some (.int .i64 t426) := bc BK434 0
           have hcz115_1 : wc.cell? ⟨gb434, 1, none⟩ = some (.int .i64 t427) := bc BK434 1
           have hcz115_2 : wc.cell? ⟨gb434, 2, none⟩ = some (.int .i64 t428) := bc BK434 2
           have hcz115_3 : wc.cell? ⟨gb434, 3, none⟩ = some (.slice Ao19 t429.length co19) := bc BK434 3
           have hcz115_4 : wc.cell? ⟨gb434, 4, none⟩ = some (.bool t432) := bc BK434 4
           have hfz115_0 := blk_frozen BK434.out 0
           have hfz115_1 := blk_frozen BK434.out 1
           have hfz115_2 := blk_frozen BK434.out 2
           have hfz115_3 := blk_frozen BK434.out 3
           have hfz115_4 := blk_frozen BK434.out 4
           try go_wp2
           have n0_ := m_ (Kd.R_drew HO_425003.out)
           have n1_ := m_ (Kd.R_drew HO_435003.out)
           have n2_ := m_ (Kd.R_drew HO_444003.out)
           have n3_ := m_ (blk_drew BK424.out)
           have n4_ := m_ (blk_drew BK425.out)
           have n5_ := m_ (blk_drew BK434.out)
           have n6_ := m_ (blk_drew BK443.out)
           have n7_ := m_ (below_drew1 HB.out)
           clear HO_425003
           clear HO_435003
           clear HO_444003
           clear BK424
           clear BK425
           clear BK434
           clear BK443
           clear HB
           have HO_425003 := n0_
           have HO_435003 := n1_
           have HO_444003 := n2_
           have BK424 := n3_
           have BK425 := n4_
           have BK434 := n5_
           have BK443 := n6_
           have HB := n7_
           clear n0_ n1_ n2_ n3_ n4_ n5_ n6_ n7_
           have q117 : ((ji81) : Int) ≤ ((t415.length : Int) : Int) := of_decide_eq_true (by first | (with_reducible assumption) | assumption)
           obtain ⟨i0117, hi0117, _, hsz117, _⟩ := info_parts info9
           have hroom117 : t415.length ≤ co12 := (Kd.R_reads' HO_425003.out).2.1
           have hC117 : Kd.C Kd.string _ Ao12 t415.length t415 := (Kd.R_reads' HO_425003.out).2.2
           have q0117 : (0 : Int) ≤ ((ji81) : Int) := of_decide_eq_true (by first | (with_reducible assumption) | assumption)
           have hcut117 := cut_from (P := Try.prog) 23 9 .i64 Try.underlying23 hi0117 1 hsz117 Ao12 t415.length co12 (ji81) q0117 q117
           have hr117 := Kd.C_drop (m := ((ji81) : Int).toNat) (c := co12) hC117 (by omega) hroom117
           obtain ⟨A117, hA117⟩ : ∃ A1, A1 = (if co12 = ((ji81) : Int).toNat then Ao12 else (Ao12 : Option Addr).map (·.add (((ji81) : Int).toNat * 1))) := ⟨_, rfl⟩
           obtain ⟨c117, hc117⟩ : ∃ c1, c1 = co12 - ((ji81) : Int).toNat := ⟨_, rfl⟩
           have hy117 : y447.length = t415.length - ((ji81) : Int).toNat := (by rw [Ny447.out, List.length_drop] <;> omega)
           rw [show (t415).drop ((ji81) : Int).toNat = y447 from Ny447.out.symm] at hr117
           replace hr117 : Kd.C Kd.string _ A117 y447.length y447 := (by rw [hA117]; exact hr117)
           rw [← hy117, ← hA117, ← hc117] at hcut117
           have HR450 := Aside0.mk hr117
           have HC450 := m_ (show y447.length ≤ c117 from by rw [hy117, hc117]; exact Nat.sub_le_sub_right hroom117 _)
           clear hr117 hC117 hroom117 hi0117 hsz117 hc117
           have KY117 := Aside0.mk hy117
           have KA117 := Aside0.mk hA117
           clear hy117 hA117
           have KL117 := m_ (show ((ji81) : Int).toNat ≤ t415.length from by omega)
           replace q117 := eq_true q117
           refine start_ (n := 33) (S := fun w' => w'.cell? ⟨gb434, 0, none⟩ = some (.int .i64 t426) ∧ w'.cell? ⟨gb434, 1, none⟩ = some (.int .i64 t427) ∧ w'.cell? ⟨gb434, 2, none⟩ = some (.int .i64 t428) ∧ w'.cell? ⟨gb434, 3, none⟩ = some (.slice Ao19 t429.length co19) ∧ w'.cell? ⟨gb434, 4, none⟩ = some (.bool t432) ∧ w'.cell? ⟨gb424, 0, none⟩ = some (.int .i64 t412) ∧ w'.cell? ⟨gb424, 1, none⟩ = some (.int .i64 t413) ∧ w'.cell? ⟨gb424, 2, none⟩ = some (.int .i64 t414) ∧ w'.cell? ⟨gb424, 3, none⟩ = some (.slice Ao12 t415.length co12) ∧ w'.cell? ⟨gb424, 4, none⟩ = some (.bool t418)) (ds := []) #[false, false, false, false, false, false, false, false, false, false, false, false, false, false, false, false, false, false, false, false, false, false, false, false, false, false, false, false, false, false, false, false, false] (by kernel_rfl) rfl rfl ⟨bc BK434 0, bc BK434 1, bc BK434 2, bc BK434 3, bc BK434 4, bc BK424 0, bc BK424 1, bc BK424 2, bc BK424 3, bc BK424 4⟩ (fun hHeld => ?_); refine with_tabW laws_FnFopHear.tab11 laws_FnFopHear.bits11 (fun HT_ HW_ => ?_)
           generalize wc.drew = w116 at HO_425003 HO_435003 HO_444003 BK424 BK425 BK434 BK443 HB HR450 hHeld ⊢
           refine pu 0 64 HT_ (h := ?_)
           refine pu 1 65 HT_ (h := ?_)
           refine pu 2 66 HT_ (h := ?_)
           refine pu 3 67 HT_ (h := ?_)
           refine pu 5 69 HT_ (h := ?_)
           refine pu 7 71 HT_ (h := ?_)
           refine take_ (i := 4) (N := some 68) (v := ?_) (a' := ?_) #[true, true, true, true, true, true, false, true, false, false, false, false, false, false, false, false, false, false, false, false, false, false, false, false, false, false, false, false, false, false, false, false, false] rfl rfl (take_ofW HT_.out HW_.out (by kernel_rfl)) (fun _ _ _ h => h) (Or.inl ⟨by rfl, ?_⟩) hHeld ?_ ?_
           rotate_left
           ·rintro w' ⟨s0, s1, s2, s3, s4, s5, s6, s7, s8, s9⟩
            go_simp
            with_reducible rfl
           rotate_left
           ·simp only [Act.put, List.setIfInBounds_toArray, List.set_cons_zero, List.set_cons_succ, i64_w, i32_w]
            rfl
           refine take_ (i := 6) (N := some 70) (v := ?_) (a' := ?_) #[true, true, true, true, true, true, true, true, false, false, false, false, false, false, false, false, false, false, false, false, false, false, false, false, false, false, false, false, false, false, false, false, false] rfl rfl (take_ofW HT_.out HW_.out (by kernel_rfl)) (fun _ _ _ h => h) (Or.inl ⟨by rfl, ?_⟩) hHeld ?_ ?_
           rotate_left
           ·rintro w' ⟨s0, s1, s2, s3, s4, s5, s6, s7, s8, s9⟩
            go_simp
            with_reducible rfl
           rotate_left
           ·simp only [Act.put, List.setIfInBounds_toArray, List.set_cons_zero, List.set_cons_succ, i64_w, i32_w]
            rfl
           refine pu 8 72 HT_ (h := ?_)
           refine one_ (i := 9) (N := some 73) #[true, true, true, true, true, true, true, true, true, true, false, false, false, false, false, false, false, false, false, false, false, false, false, false, false, false, false, false, false, false, false, false, false] rfl rfl (one_of HT_.out (by kernel_rfl)) (by decide) (fun K hK => ?_)
           refine goes_ Try.func18 (by kernel_rfl) rfl #[.slice Ao19 t429.length co19, .slice A117 y447.length c117] (by rfl) rfl rfl gl_ ?_
           with_reducible refine (laws_skTexts.calls kj5 _ _ t429 _ _ y447 true _ ?side1 ?side2 ?side3 ?side4 A84.out).mono ?_
           (case side1 => exact cN (Kd.R_reads' HO_435003.out).2.2)
           (case side2 => exact (Kd.R_reads' HO_435003.out).2.1)
           (case side3 => repeat (first | exact (by repeat (first | (with_reducible exact HR450.out) | (with_reducible refine Kd.C_alloc ?_ _) | (with_reducible refine Kd.C_drewN ?_ _) | (with_reducible refine Kd.C_drew ?_) | exact HR450.out)) | (with_reducible refine Kd.C_alloc ?_ _) | (with_reducible refine Kd.C_drewN ?_ _) | (with_reducible refine Kd.C_drew ?_)))
           (case side4 => exact HC450.out)
           rintro e w' ⟨rfl, ⟨nd, rfl⟩⟩
           refine ⟨_, rfl, ?_⟩
           refine hK.out _ _ ⟨bc BK434 0, bc BK434 1, bc BK434 2, bc BK434 3, bc BK434 4, bc BK424 0, bc BK424 1, bc BK424 2, bc BK424 3, bc BK424 4⟩ (fun hHeld => ?_)
           clear hK K
           refine np (h := ?_)
           refine pu 10 74 HT_ (h := ?_)
           refine pu 11 75 HT_ (h := ?_)
           refine pu 12 76 HT_ (h := ?_)
           refine pu 14 78 HT_ (h := ?_)
           refine take_ (i := 13) (N := some 77) (v := ?_) (a' := ?_) #[true, true, true, true, true, true, true, true, true, true, true, true, true, true, true, false, false, false, false, false, false, false, false, false, false, false, false, false, false, false, false, false, false] rfl rfl (take_ofW HT_.out HW_.out (by kernel_rfl)) (fun _ _ _ h => h) (Or.inl ⟨by rfl, ?_⟩) hHeld ?_ ?_
           rotate_left
           ·rintro w' ⟨s0, s1, s2, s3, s4, s5, s6, s7, s8, s9⟩
            go_simp
            with_reducible rfl
           rotate_left
           ·simp only [Act.put, List.setIfInBounds_toArray, List.set_cons_zero, List.set_cons_succ, i64_w, i32_w]
            rfl
           refine take_ (i := 15) (N := some 79) (v := ?_) (a' := ?_) #[true, true, true, true, true, true, true, true, true, true, true, true, true, true, true, true, false, false, false, false, false, false, false, false, false, false, false, false, false, false, false, false, false] rfl rfl (take_ofW HT_.out HW_.out (by kernel_rfl)) (fun _ _ _ h => h) (Or.inl ⟨by rfl, ?_⟩) hHeld ?_ ?_
           rotate_left
           ·rintro w' ⟨s0, s1, s2, s3, s4, s5, s6, s7, s8, s9⟩
            go_simp
            with_reducible rfl
           rotate_left
           ·simp only [Act.put, List.setIfInBounds_toArray, List.set_cons_zero, List.set_cons_succ, i64_w, i32_w]
            rfl
           refine pu 16 80 HT_ (h := ?_)
           refine pu 17 81 HT_ (h := ?_)
           refine pu 18 82 HT_ (h := ?_)
           refine pv 19 83 HT_ (h := ?_)
           refine pv 20 84 HT_ (h := ?_)
           refine pv 21 85 HT_ (h := ?_)
           refine pv 22 86 HT_ (h := ?_)
           refine pv 23 87 HT_ (h := ?_)
           refine pu 24 88 HT_ (h := ?_)
           refine pu 25 89 HT_ (h := ?_)
           refine pv 26 90 HT_ (h := ?_)
           refine pv 27 91 HT_ (h := ?_)
           refine pv 28 92 HT_ (h := ?_)
           refine pv 29 93 HT_ (h := ?_)
           refine pv 30 94 HT_ (h := ?_)
           refine pu 31 95 HT_ (h := ?_)
           refine pu 32 2 HT_ (h := ?_)
           refine done_ (done_of HT_.out (by kernel_rfl)) ?_
           try go_wp2
           go_ret
           exact ⟨by first | rfl | (simp [errW_none, errW_some] <;> rfl) | (simp only [← hji81]; first | rfl | (simp [errW_none, errW_some] <;> rfl)) | (simp [*, errW_none, errW_some] <;> rfl), by repeat (first | (with_reducible first | exact HB.out | apply below_alloc | apply pw_below_drewN | apply below_drew1 | refine below_set ?_ GE424.out | refine below_set ?_ GE425.out | refine below_set ?_ GE434.out | refine below_set ?_ GE443.out) | exact HB.out)⟩
         ·replace c85 := Bool.eq_false_iff.mpr c85
          subst c85
          have H1 : (some false) = some r := by rw [if_neg (show ¬ (false = true) by decide)] at H; exact H
          clear H
          have H := H1
          clear H1
          obtain rfl := Option.some.inj H
          have hnb118 := NB424_425.out
          have hnc118 := NB425_424.out
          have hnb119 := NB424_434.out
          have hnc119 := NB434_424.out
          have hnb120 := NB424_443.out
          have hnc120 := NB443_424.out
          have hcz121_0 : wc.cell? ⟨gb424, 0, none⟩ = some (.int .i64 t412) := bc BK424 0
          have hcz121_1 : wc.cell? ⟨gb424, 1, none⟩ = some (.int .i64 t413) := bc BK424 1
          have hcz121_2 : wc.cell? ⟨gb424, 2, none⟩ = some (.int .i64 t414) := bc BK424 2
          have hcz121_3 : wc.cell? ⟨gb424, 3, none⟩ = some (.slice Ao12 t415.length co12) := bc BK424 3
          have hcz121_4 : wc.cell? ⟨gb424, 4, none⟩ = some (.bool t418) := bc BK424 4
          have hfz121_0 := blk_frozen BK424.out 0
          have hfz121_1 := blk_frozen BK424.out 1
          have hfz121_2 := blk_frozen BK424.out 2
          have hfz121_3 := blk_frozen BK424.out 3
          have hfz121_4 := blk_frozen BK424.out 4
          have hnb122 := NB434_425.out
          have hnc122 := NB425_434.out
          have hnb123 := NB434_443.out
          have hnc123 := NB443_434.out
          have hcz124_0 : wc.cell? ⟨gb434, 0, none⟩ = some (.int .i64 t426) := bc BK434 0
          have hcz124_1 : wc.cell? ⟨gb434, 1, none⟩ = some (.int .i64 t427) := bc BK434 1
          have hcz124_2 : wc.cell? ⟨gb434, 2, none⟩ = some (.int .i64 t428) := bc BK434 2
          have hcz124_3 : wc.cell? ⟨gb434, 3, none⟩ = some (.slice Ao19 t429.length co19) := bc BK434 3
          have hcz124_4 : wc.cell? ⟨gb434, 4, none⟩ = some (.bool t432) := bc BK434 4
          have hfz124_0 := blk_frozen BK434.out 0
          have hfz124_1 := blk_frozen BK434.out 1
          have hfz124_2 := blk_frozen BK434.out 2
          have hfz124_3 := blk_frozen BK434.out 3
          have hfz124_4 := blk_frozen BK434.out 4
          try go_wp2
          have n0_ := m_ (Kd.R_drew HO_425003.out)
          have n1_ := m_ (Kd.R_drew HO_435003.out)
          have n2_ := m_ (Kd.R_drew HO_444003.out)
          have n3_ := m_ (blk_drew BK424.out)
          have n4_ := m_ (blk_drew BK425.out)
          have n5_ := m_ (blk_drew BK434.out)
          have n6_ := m_ (blk_drew BK443.out)
          have n7_ := m_ (below_drew1 HB.out)
          clear HO_425003
          clear HO_435003
          clear HO_444003
          clear BK424
          clear BK425
          clear BK434
          clear BK443
          clear HB
          have HO_425003 := n0_
          have HO_435003 := n1_
          have HO_444003 := n2_
          have BK424 := n3_
          have BK425 := n4_
          have BK434 := n5_
          have BK443 := n6_
          have HB := n7_
          clear n0_ n1_ n2_ n3_ n4_ n5_ n6_ n7_
          have q126 : ((ji81) : Int) ≤ ((t415.length : Int) : Int) := of_decide_eq_true (by first | (with_reducible assumption) | assumption)
          obtain ⟨i0126, hi0126, _, hsz126, _⟩ := info_parts info9
          have hroom126 : t415.length ≤ co12 := (Kd.R_reads' HO_425003.out).2.1
          have hC126 : Kd.C Kd.string _ Ao12 t415.length t415 := (Kd.R_reads' HO_425003.out).2.2
          have q0126 : (0 : Int) ≤ ((ji81) : Int) := of_decide_eq_true (by first | (with_reducible assumption) | assumption)
          have hcut126 := cut_from (P := Try.prog) 23 9 .i64 Try.underlying23 hi0126 1 hsz126 Ao12 t415.length co12 (ji81) q0126 q126
          have hr126 := Kd.C_drop (m := ((ji81) : Int).toNat) (c := co12) hC126 (by omega) hroom126
          obtain ⟨A126, hA126⟩ : ∃ A1, A1 = (if co12 = ((ji81) : Int).toNat then Ao12 else (Ao12 : Option Addr).map (·.add (((ji81) : Int).toNat * 1))) := ⟨_, rfl⟩
          obtain ⟨c126, hc126⟩ : ∃ c1, c1 = co12 - ((ji81) : Int).toNat := ⟨_, rfl⟩
          have hy126 : y447.length = t415.length - ((ji81) : Int).toNat := (by rw [Ny447.out, List.length_drop] <;> omega)
          rw [show (t415).drop ((ji81) : Int).toNat = y447 from Ny447.out.symm] at hr126
          replace hr126 : Kd.C Kd.string _ A126 y447.length y447 := (by rw [hA126]; exact hr126)
          rw [← hy126, ← hA126, ← hc126] at hcut126
          have HR450 := Aside0.mk hr126
          have HC450 := m_ (show y447.length ≤ c126 from by rw [hy126, hc126]; exact Nat.sub_le_sub_right hroom126 _)
          clear hr126 hC126 hroom126 hi0126 hsz126 hc126
          have KY126 := Aside0.mk hy126
          have KA126 := Aside0.mk hA126
          clear hy126 hA126
          have KL126 := m_ (show ((ji81) : Int).toNat ≤ t415.length from by omega)
          replace q126 := eq_true q126
          refine start_ (n := 33) (S := fun w' => w'.cell? ⟨gb434, 0, none⟩ = some (.int .i64 t426) ∧ w'.cell? ⟨gb434, 1, none⟩ = some (.int .i64 t427) ∧ w'.cell? ⟨gb434, 2, none⟩ = some (.int .i64 t428) ∧ w'.cell? ⟨gb434, 3, none⟩ = some (.slice Ao19 t429.length co19) ∧ w'.cell? ⟨gb434, 4, none⟩ = some (.bool t432) ∧ w'.cell? ⟨gb424, 0, none⟩ = some (.int .i64 t412) ∧ w'.cell? ⟨gb424, 1, none⟩ = some (.int .i64 t413) ∧ w'.cell? ⟨gb424, 2, none⟩ = some (.int .i64 t414) ∧ w'.cell? ⟨gb424, 3, none⟩ = some (.slice Ao12 t415.length co12) ∧ w'.cell? ⟨gb424, 4, none⟩ = some (.bool t418)) (ds := []) #[false, false, false, false, false, false, false, false, false, false, false, false, false, false, false, false, false, false, false, false, false, false, false, false, false, false, false, false, false, false, false, false, false] (by kernel_rfl) rfl rfl ⟨bc BK434 0, bc BK434 1, bc BK434 2, bc BK434 3, bc BK434 4, bc BK424 0, bc BK424 1, bc BK424 2, bc BK424 3, bc BK424 4⟩ (fun hHeld => ?_); refine with_tabW laws_FnFopHear.tab11 laws_FnFopHear.bits11 (fun HT_ HW_ => ?_)
          generalize wc.drew = w125 at HO_425003 HO_435003 HO_444003 BK424 BK425 BK434 BK443 HB HR450 hHeld ⊢
          refine pu 0 64 HT_ (h := ?_)
          refine pu 1 65 HT_ (h := ?_)
          refine pu 2 66 HT_ (h := ?_)
          refine pu 3 67 HT_ (h := ?_)
          refine pu 5 69 HT_ (h := ?_)
          refine pu 7 71 HT_ (h := ?_)
          refine take_ (i := 4) (N := some 68) (v := ?_) (a' := ?_) #[true, true, true, true, true, true, false, true, false, false, false, false, false, false, false, false, false, false, false, false, false, false, false, false, false, false, false, false, false, false, false, false, false] rfl rfl (take_ofW HT_.out HW_.out (by kernel_rfl)) (fun _ _ _ h => h) (Or.inl ⟨by rfl, ?_⟩) hHeld ?_ ?_
          rotate_left
          ·rintro w' ⟨s0, s1, s2, s3, s4, s5, s6, s7, s8, s9⟩
           go_simp
           with_reducible rfl
          rotate_left
          ·simp only [Act.put, List.setIfInBounds_toArray, List.set_cons_zero, List.set_cons_succ, i64_w, i32_w]
           rfl
          refine take_ (i := 6) (N := some 70) (v := ?_) (a' := ?_) #[true, true, true, true, true, true, true, true, false, false, false, false, false, false, false, false, false, false, false, false, false, false, false, false, false, false, false, false, false, false, false, false, false] rfl rfl (take_ofW HT_.out HW_.out (by kernel_rfl)) (fun _ _ _ h => h) (Or.inl ⟨by rfl, ?_⟩) hHeld ?_ ?_
          rotate_left
          ·rintro w' ⟨s0, s1, s2, s3, s4, s5, s6, s7, s8, s9⟩
           go_simp
           with_reducible rfl
          rotate_left
          ·simp only [Act.put, List.setIfInBounds_toArray, List.set_cons_zero, List.set_cons_succ, i64_w, i32_w]
           rfl
          refine pu 8 72 HT_ (h := ?_)
          refine one_ (i := 9) (N := some 73) #[true, true, true, true, true, true, true, true, true, true, false, false, false, false, false, false, false, false, false, false, false, false, false, false, false, false, false, false, false, false, false, false, false] rfl rfl (one_of HT_.out (by kernel_rfl)) (by decide) (fun K hK => ?_)
          refine goes_ Try.func18 (by kernel_rfl) rfl #[.slice Ao19 t429.length co19, .slice A126 y447.length c126] (by rfl) rfl rfl gl_ ?_
          with_reducible refine (laws_skTexts.calls kj5 _ _ t429 _ _ y447 false _ ?side1 ?side2 ?side3 ?side4 A84.out).mono ?_
          (case side1 => exact cN (Kd.R_reads' HO_435003.out).2.2)
          (case side2 => exact (Kd.R_reads' HO_435003.out).2.1)
          (case side3 => repeat (first | exact (by repeat (first | (with_reducible exact HR450.out) | (with_reducible refine Kd.C_alloc ?_ _) | (with_reducible refine Kd.C_drewN ?_ _) | (with_reducible refine Kd.C_drew ?_) | exact HR450.out)) | (with_reducible refine Kd.C_alloc ?_ _) | (with_reducible refine Kd.C_drewN ?_ _) | (with_reducible refine Kd.C_drew ?_)))
          (case side4 => exact HC450.out)
          rintro e w' ⟨rfl, ⟨nd, rfl⟩⟩
          refine ⟨_, rfl, ?_⟩
          refine hK.out _ _ ⟨bc BK434 0, bc BK434 1, bc BK434 2, bc BK434 3, bc BK434 4, bc BK424 0, bc BK424 1, bc BK424 2, bc BK424 3, bc BK424 4⟩ (fun hHeld => ?_)
          clear hK K
          refine np (h := ?_)
          refine pu 10 74 HT_ (h := ?_)
          refine pu 11 75 HT_ (h := ?_)
          refine pv 12 76 HT_ (h := ?_)
          refine pv 13 77 HT_ (h := ?_)
          refine pv 14 78 HT_ (h := ?_)
          refine pv 15 79 HT_ (h := ?_)
          refine pv 16 80 HT_ (h := ?_)
          refine pu 17 81 HT_ (h := ?_)
          refine pu 18 82 HT_ (h := ?_)
          refine pv 19 83 HT_ (h := ?_)
          refine pv 20 84 HT_ (h := ?_)
          refine pv 21 85 HT_ (h := ?_)
          refine pv 22 86 HT_ (h := ?_)
          refine pv 23 87 HT_ (h := ?_)
          refine pu 24 88 HT_ (h := ?_)
          refine pu 25 89 HT_ (h := ?_)
          refine pv 26 90 HT_ (h := ?_)
          refine pv 27 91 HT_ (h := ?_)
          refine pv 28 92 HT_ (h := ?_)
          refine pv 29 93 HT_ (h := ?_)
          refine pv 30 94 HT_ (h := ?_)
          refine pu 31 95 HT_ (h := ?_)
          refine pu 32 2 HT_ (h := ?_)
          refine done_ (done_of HT_.out (by kernel_rfl)) ?_
          try go_wp2
          go_ret
          exact ⟨by first | rfl | (simp [errW_none, errW_some] <;> rfl) | (simp only [← hji81]; first | rfl | (simp [errW_none, errW_some] <;> rfl)) | (simp [*, errW_none, errW_some] <;> rfl), by repeat (first | (with_reducible first | exact HB.out | apply below_alloc | apply pw_below_drewN | apply below_drew1 | refine below_set ?_ GE424.out | refine below_set ?_ GE425.out | refine below_set ?_ GE434.out | refine below_set ?_ GE443.out) | exact HB.out)⟩
        ·rw [if_neg c83] at H
         exact absurd H (by simp)
       ·rw [if_neg c82] at H
        exact absurd H (by simp)
      ·rw [if_neg c80] at H
       have c80b0 : decide (0 ≤ (wrap64 ((t415.length : Int) - (t429.length : Int)))) = false := decide_eq_false c80
       clear c80
       obtain rfl := Option.some.inj H
       have hnb127 := NB424_425.out
       have hnc127 := NB425_424.out
       have hnb128 := NB424_434.out
       have hnc128 := NB434_424.out
       have hnb129 := NB424_443.out
       have hnc129 := NB443_424.out
       have hcz130_0 : wc.cell? ⟨gb424, 0, none⟩ = some (.int .i64 t412) := bc BK424 0
       have hcz130_1 : wc.cell? ⟨gb424, 1, none⟩ = some (.int .i64 t413) := bc BK424 1
       have hcz130_2 : wc.cell? ⟨gb424, 2, none⟩ = some (.int .i64 t414) := bc BK424 2
       have hcz130_3 : wc.cell? ⟨gb424, 3, none⟩ = some (.slice Ao12 t415.length co12) := bc BK424 3
       have hcz130_4 : wc.cell? ⟨gb424, 4, none⟩ = some (.bool t418) := bc BK424 4
       have hfz130_0 := blk_frozen BK424.out 0
       have hfz130_1 := blk_frozen BK424.out 1
       have hfz130_2 := blk_frozen BK424.out 2
       have hfz130_3 := blk_frozen BK424.out 3
       have hfz130_4 := blk_frozen BK424.out 4
       have hnb131 := NB434_425.out
       have hnc131 := NB425_434.out
       have hnb132 := NB434_443.out
       have hnc132 := NB443_434.out
       have hcz133_0 : wc.cell? ⟨gb434, 0, none⟩ = some (.int .i64 t426) := bc BK434 0
       have hcz133_1 : wc.cell? ⟨gb434, 1, none⟩ = some (.int .i64 t427) := bc BK434 1
       have hcz133_2 : wc.cell? ⟨gb434, 2, none⟩ = some (.int .i64 t428) := bc BK434 2
       have hcz133_3 : wc.cell? ⟨gb434, 3, none⟩ = some (.slice Ao19 t429.length co19) := bc BK434 3
       have hcz133_4 : wc.cell? ⟨gb434, 4, none⟩ = some (.bool t432) := bc BK434 4
       have hfz133_0 := blk_frozen BK434.out 0
       have hfz133_1 := blk_frozen BK434.out 1
       have hfz133_2 := blk_frozen BK434.out 2
       have hfz133_3 := blk_frozen BK434.out 3
       have hfz133_4 := blk_frozen BK434.out 4
       try go_wp2
       have n0_ := m_ (Kd.R_drew HO_425003.out)
       have n1_ := m_ (Kd.R_drew HO_435003.out)
       have n2_ := m_ (Kd.R_drew HO_444003.out)
       have n3_ := m_ (blk_drew BK424.out)
       have n4_ := m_ (blk_drew BK425.out)
       have n5_ := m_ (blk_drew BK434.out)
       have n6_ := m_ (blk_drew BK443.out)
       have n7_ := m_ (below_drew1 HB.out)
       clear HO_425003
       clear HO_435003
       clear HO_444003
       clear BK424
       clear BK425
       clear BK434
       clear BK443
       clear HB
       have HO_425003 := n0_
       have HO_435003 := n1_
       have HO_444003 := n2_
       have BK424 := n3_
       have BK425 := n4_
       have BK434 := n5_
       have BK443 := n6_
       have HB := n7_
       clear n0_ n1_ n2_ n3_ n4_ n5_ n6_ n7_
       refine start_ (n := 33) (S := fun w' => True) (ds := []) #[false, false, false, false, false, false, false, false, false, false, false, false, false, false, false, false, false, false, false, false, false, false, false, false, false, false, false, false, false, false, false, false, false] (by kernel_rfl) rfl rfl trivial (fun hHeld => ?_); refine with_tabW laws_FnFopHear.tab11 laws_FnFopHear.bits11 (fun HT_ HW_ => ?_)
       generalize wc.drew = w134 at HO_425003 HO_435003 HO_444003 BK424 BK425 BK434 BK443 HB hHeld ⊢
       refine pu 0 64 HT_ (h := ?_)
       refine pu 1 65 HT_ (h := ?_)
       refine pu 2 66 HT_ (h := ?_)
       refine pv 3 67 HT_ (h := ?_)
       refine pv 4 68 HT_ (h := ?_)
       refine pv 5 69 HT_ (h := ?_)
       refine pv 6 70 HT_ (h := ?_)
       refine pv 7 71 HT_ (h := ?_)
       refine pv 8 72 HT_ (h := ?_)
       refine pv 9 73 HT_ (h := ?_)
       refine pu 10 74 HT_ (h := ?_)
       refine pu 11 75 HT_ (h := ?_)
       refine pv 12 76 HT_ (h := ?_)
       refine pv 13 77 HT_ (h := ?_)
       refine pv 14 78 HT_ (h := ?_)
       refine pv 15 79 HT_ (h := ?_)
       refine pv 16 80 HT_ (h := ?_)
       refine pu 17 81 HT_ (h := ?_)
       refine pu 18 82 HT_ (h := ?_)
       refine pv 19 83 HT_ (h := ?_)
       refine pv 20 84 HT_ (h := ?_)
       refine pv 21 85 HT_ (h := ?_)
       refine pv 22 86 HT_ (h := ?_)
       refine pv 23 87 HT_ (h := ?_)
       refine pu 24 88 HT_ (h := ?_)
       refine pu 25 89 HT_ (h := ?_)
       refine pv 26 90 HT_ (h := ?_)
       refine pv 27 91 HT_ (h := ?_)
       refine pv 28 92 HT_ (h := ?_)
       refine pv 29 93 HT_ (h := ?_)
       refine pv 30 94 HT_ (h := ?_)
       refine pu 31 95 HT_ (h := ?_)
       refine pu 32 2 HT_ (h := ?_)
       refine done_ (done_of HT_.out (by kernel_rfl)) ?_
       try go_wp2
       go_ret
       exact ⟨by first | rfl | (simp [errW_none, errW_some] <;> rfl) | (simp [*, errW_none, errW_some] <;> rfl), by repeat (first | (with_reducible first | exact HB.out | apply below_alloc | apply pw_below_drewN | apply below_drew1 | refine below_set ?_ GE424.out | refine below_set ?_ GE425.out | refine below_set ?_ GE434.out | refine below_set ?_ GE443.out) | exact HB.out)⟩
     ·replace c79 := Bool.eq_false_iff.mpr c79
      subst c79
      have H1 : ((laws_skFop.f kj5 t426 t427 t428 t429 t432 t412 t413 t414 t415 t418).bind fun t453 => (some t453)) = some r := by rw [if_neg (show ¬ (false = true) by decide)] at H; exact H
      clear H
      have H := H1
      clear H1
      replace H := Option.bind_eq_some_iff.mp H
      obtain ⟨t453, A1350, H⟩ := H
      replace H : (some t453) = some r := H
      have A135 := Aside0.mk A1350
      clear A1350
      obtain rfl := Option.some.inj H
      have hnb136 := NB434_424.out
      have hnc136 := NB424_434.out
      have hnb137 := NB434_425.out
      have hnc137 := NB425_434.out
      have hnb138 := NB434_443.out
      have hnc138 := NB443_434.out
      have hcz139_0 : wc.cell? ⟨gb434, 0, none⟩ = some (.int .i64 t426) := bc BK434 0
      have hcz139_1 : wc.cell? ⟨gb434, 1, none⟩ = some (.int .i64 t427) := bc BK434 1
      have hcz139_2 : wc.cell? ⟨gb434, 2, none⟩ = some (.int .i64 t428) := bc BK434 2
      have hcz139_3 : wc.cell? ⟨gb434, 3, none⟩ = some (.slice Ao19 t429.length co19) := bc BK434 3
      have hcz139_4 : wc.cell? ⟨gb434, 4, none⟩ = some (.bool t432) := bc BK434 4
      have hfz139_0 := blk_frozen BK434.out 0
      have hfz139_1 := blk_frozen BK434.out 1
      have hfz139_2 := blk_frozen BK434.out 2
      have hfz139_3 := blk_frozen BK434.out 3
      have hfz139_4 := blk_frozen BK434.out 4
      have hnb140 := NB424_425.out
      have hnc140 := NB425_424.out
      have hnb141 := NB424_443.out
      have hnc141 := NB443_424.out
      have hcz142_0 : wc.cell? ⟨gb424, 0, none⟩ = some (.int .i64 t412) := bc BK424 0
      have hcz142_1 : wc.cell? ⟨gb424, 1, none⟩ = some (.int .i64 t413) := bc BK424 1
      have hcz142_2 : wc.cell? ⟨gb424, 2, none⟩ = some (.int .i64 t414) := bc BK424 2
      have hcz142_3 : wc.cell? ⟨gb424, 3, none⟩ = some (.slice Ao12 t415.length co12) := bc BK424 3
      have hcz142_4 : wc.cell? ⟨gb424, 4, none⟩ = some (.bool t418) := bc BK424 4
      have hfz142_0 := blk_frozen BK424.out 0
      have hfz142_1 := blk_frozen BK424.out 1
      have hfz142_2 := blk_frozen BK424.out 2
      have hfz142_3 := blk_frozen BK424.out 3
      have hfz142_4 := blk_frozen BK424.out 4
      go_wp2_with (first | ((with_reducible refine gate_callee (f := 10) rfl ?_); refine goesL_ (some 56) rfl rfl Try.func10 (by kernel_rfl) rfl #[.agg #[.int .i64 t426, .int .i64 t427, .int .i64 t428, .slice Ao19 t429.length co19, .bool t432], .agg #[.int .i64 t412, .int .i64 t413, .int .i64 t414, .slice Ao12 t415.length co12, .bool t418]] rfl gl_ ?_; (with_reducible refine (laws_skFop.calls kj5 t426 t427 t428 _ _ t429 t432 t412 t413 t414 _ _ t415 t418 t453 _ ?side1 ?side2 ?side3 ?side4 A135.out).mono ?_); (case side1 => exact cN (Kd.R_reads' HO_435003.out).2.2); (case side2 => exact (Kd.R_reads' HO_435003.out).2.1); (case side3 => exact cN (Kd.R_reads' HO_425003.out).2.2); (case side4 => exact (Kd.R_reads' HO_425003.out).2.1); rintro e w143 ⟨rfl, hb⟩; refine ⟨_, rfl, ?_⟩; have n0_ := m_ (Kd.R_below (rN HO_425003.out) hb); have n1_ := m_ (Kd.R_below (rN HO_435003.out) hb); have n2_ := m_ (Kd.R_below (rN HO_444003.out) hb); have n3_ := m_ (blk_below (kN BK424.out) hb); have n4_ := m_ (blk_below (kN BK425.out) hb); have n5_ := m_ (blk_below (kN BK434.out) hb); have n6_ := m_ (blk_below (kN BK443.out) hb); have n7_ := m_ (below_step (bN HB.out) hb); clear HO_425003; clear HO_435003; clear HO_444003; clear BK424; clear BK425; clear BK434; clear BK443; clear HB; have HO_425003 := n0_; have HO_435003 := n1_; have HO_444003 := n2_; have BK424 := n3_; have BK425 := n4_; have BK434 := n5_; have BK443 := n6_; have HB := n7_; clear n0_ n1_ n2_ n3_ n4_ n5_ n6_ n7_; (try clear hb); (try clear hb2); (try clear hk); (try clear hi)))
      go_ret
      exact ⟨by first | rfl | (simp [errW_none, errW_some] <;> rfl) | (simp [*, errW_none, errW_some] <;> rfl), by repeat (first | (with_reducible first | exact HB.out | apply below_alloc | apply pw_below_drewN | apply below_drew1 | refine below_set ?_ GE424.out | refine below_set ?_ GE425.out | refine below_set ?_ GE434.out | refine below_set ?_ GE443.out) | exact HB.out)⟩

/-- THE ONE PURE STATEMENT of laws_FnFopHear: yours. -/
def laws_FnFopHear.Pure : Prop := ∀ (l0 : List Int), l0.length ≤ maxLen → l0.length * 1 ≤ 140737488351232 → (∀ x ∈ l0, (Lit.int .u8 x).wf = true) → ∃ k, laws_FnFopHear.f k l0 = some true
theorem laws_FnFopHear.walk (P : laws_FnFopHear.Pure) (a0 : Option Addr) (len0 cap0 : Nat) (z0 : List Int) (w : World) (w0 : (a0 = none ∧ len0 = 0 ∧ cap0 = 0 ∧ z0 = []) ∨ ∃ x, a0 = some x ∧ len0 ≤ cap0 ∧ cap0 ≤ maxLen ∧ z0.length = cap0 ∧ (∀ i, i < z0.length → w.cell? (x.add i) = some (.int .u8 (z0.getD i 0))) ∧ ∀ n ∈ z0, (Lit.int .u8 n).wf = true) (y0 : len0 * 1 ≤ 140737488351232) :
  Calls Try.prog 4 #[.slice a0 len0 cap0] w fun e w' => e = .returned (.bool true) ∧ Below w.heap.size w w' := by
 obtain ⟨l0, rfl, hr0, hm0, hw0, hc0⟩ := ReadsInt.ofRowC w0
 obtain ⟨k, h⟩ := P l0 hm0 y0 hw0
 refine (laws_FnFopHear.calls k _ _ l0 true w (Kd.C_of_reads (d := (0 : Int)) (h1 := fun _ => rfl) hr0) hc0 h).mono ?_
 rintro e w' ⟨rfl, hd⟩
 exact ⟨rfl, hd⟩

end Go.Proofs.Ytnlhaiihbcdmoaa.P
