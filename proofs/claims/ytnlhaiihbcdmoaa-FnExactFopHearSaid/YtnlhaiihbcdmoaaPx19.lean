/- The machine side of these statements, function by function: what each Go function answers (as a Lean function), and that it does. Written by a program (mp.py) for this claim. -/
import Derived.Test.YtnlhaiihbcdmoaaPx0
import Derived.Test.YtnlhaiihbcdmoaaPx11
import Derived.Test.YtnlhaiihbcdmoaaPx12
import Derived.Test.YtnlhaiihbcdmoaaPx13
import Derived.Test.YtnlhaiihbcdmoaaPx18
namespace Go.Proofs.Ytnlhaiihbcdmoaa.P
open Go.RowKit Go.Proofs.YtnlhaiihbcdmoaaW.PrintWords Go.Proofs.YtnlhaiihbcdmoaaW.PrintLast Go.Proofs.YtnlhaiihbcdmoaaW.PrintMore
attribute [local go_sem] max2_int min2_int max_two min_two max_three min_three max_four min_four   -- for this text's walks alone
set_option linter.unusedVariables false
set_option linter.unusedSimpArgs false

/-! ### laws_FnExactFopHear: function 5 -/
mutual
def laws_FnExactFopHear.j0 : Nat → Bool → Bool → Bool → Int → Int → Int → List ByteArray → Bool → Bool → Bool → Bool → Int → Int → Int → Int → Int → List ByteArray → Bool → Int → Int → Int → List ByteArray → Bool → Int → Int → Int → List ByteArray → Bool → Option (Bool)
 | 0, _, _, _, _, _, _, _, _, _, _, _, _, _, _, _, _, _, _, _, _, _, _, _, _, _, _, _, _ => none
 | k + 1, x7, x10, x46, x489000, x489001, x489002, x489003, x489004, x490000, x490001, x490002, x490003, x490004, x512000, x512001, x512002, x512003, x512004, x520000, x520001, x520002, x520003, x520004, x534000, x534001, x534002, x534003, x534004 => if x46 = true then (some false) else ((laws_toFop.f k x489000 x489001 x489002 x489003 x489004).bind fun bt535 => ((laws_eqFop.f k x520000 x520001 x520002 x520003 x520004 bt535.1 bt535.2.1 bt535.2.2.1 bt535.2.2.2.1 bt535.2.2.2.2).bind fun t542 => (if t542 = true then ((laws_markFop.f k x520000 x520001 x520002 x520003 x520004 1).bind fun bt543 => (if bt543.1 < 0 then (laws_FnExactFopHear.j1 k x7 true x489000 x489001 x489002 x489003 x489004 x490000 x490001 x490002 x490003 x490004 x512000 x512001 x512002 x512003 x512004 x534000 x534001 x534002 x534003 x534004) else ((laws_eqFop.f k x534000 x534001 x534002 x534003 x534004 x512000 x512001 x512002 x512003 x512004).bind fun t545 => (if t545 = true then (laws_FnExactFopHear.j1 k x7 (x10 != x7) x489000 x489001 x489002 x489003 x489004 x490000 x490001 x490002 x490003 x490004 x512000 x512001 x512002 x512003 x512004 x534000 x534001 x534002 x534003 x534004) else (laws_FnExactFopHear.j1 k x7 true x489000 x489001 x489002 x489003 x489004 x490000 x490001 x490002 x490003 x490004 x512000 x512001 x512002 x512003 x512004 x534000 x534001 x534002 x534003 x534004))))) else (some false))))
def laws_FnExactFopHear.j1 : Nat → Bool → Bool → Int → Int → Int → List ByteArray → Bool → Bool → Bool → Bool → Int → Int → Int → Int → Int → List ByteArray → Bool → Int → Int → Int → List ByteArray → Bool → Option (Bool)
 | 0, _, _, _, _, _, _, _, _, _, _, _, _, _, _, _, _, _, _, _, _, _, _ => none
 | k + 1, x7, x67, x489000, x489001, x489002, x489003, x489004, x490000, x490001, x490002, x490003, x490004, x512000, x512001, x512002, x512003, x512004, x534000, x534001, x534002, x534003, x534004 => if x67 = true then (some false) else ((laws_markFop.f k x534000 x534001 x534002 x534003 x534004 1).bind fun bt546 => ((laws_heldFop.f k x534000 x534001 x534002 bt546.2 x534004 1).bind fun t548 => (if t548 < 0 then (some false) else (if t548 = bt546.1 then ((laws_toFop.f k x489000 x489001 x489002 x489003 x489004).bind fun bt549 => ((laws_toFarm.f x490000 x490001 x490002 x490003 x490004).bind fun bt556 => ((impl_FopHear.f k bt549.1 bt549.2.1 bt549.2.2.1 bt549.2.2.2.1 bt549.2.2.2.2 bt556.1 bt556.2.1 bt556.2.2.1 bt556.2.2.2.1 bt556.2.2.2.2).bind fun bt561 => ((laws_eqFop.f k bt561.1 bt561.2.1 bt561.2.2.1 bt561.2.2.2.1 bt561.2.2.2.2.1 x512000 x512001 x512002 x512003 x512004).bind fun t570 => (if t570 = true then (laws_FnExactFopHear.j2 k bt546.1 (bt561.2.2.2.2.2 != x7) x534000 x534001 x534002 bt546.2 x534004) else (laws_FnExactFopHear.j2 k bt546.1 true x534000 x534001 x534002 bt546.2 x534004)))))) else (some false)))))
def laws_FnExactFopHear.j2 : Nat → Int → Bool → Int → Int → Int → List ByteArray → Bool → Option (Bool)
 | 0, _, _, _, _, _, _, _ => none
 | k + 1, x12, x95, x534000, x534001, x534002, x534003, x534004 => if x95 = true then (some false) else ((laws_heldFop.f k x534000 x534001 x534002 x534003 x534004 1).bind fun t571 => (if t571 < 0 then (some false) else (if t571 = x12 then (some true) else (some false))))
end
def laws_FnExactFopHear.f (k : Nat) (a0_0 : Int) (a0_1 : Int) (a0_2 : Int) (l0_3 : List ByteArray) (a0_4 : Bool) (a1_0 : Bool) (a1_1 : Bool) (a1_2 : Bool) (a1_3 : Int) (a1_4 : Int) : Option (Bool) := (laws_szFop.f k a0_0 a0_1 a0_2 l0_3 a0_4 1048576).bind fun t490 => (if t490 < 0 then (some true) else ((laws_toFop.f k a0_0 a0_1 a0_2 l0_3 a0_4).bind fun bt491 => ((laws_toFarm.f a1_0 a1_1 a1_2 a1_3 a1_4).bind fun bt498 => ((spec_FopHear.f k bt491.1 bt491.2.1 bt491.2.2.1 bt491.2.2.2.1 bt491.2.2.2.2 bt498.1 bt498.2.1 bt498.2.2.1 bt498.2.2.2.1 bt498.2.2.2.2).bind fun bt503 => ((laws_toFop.f k a0_0 a0_1 a0_2 l0_3 a0_4).bind fun bt512 => ((laws_toFarm.f a1_0 a1_1 a1_2 a1_3 a1_4).bind fun bt520 => ((impl_FopHear.f k bt512.1 bt512.2.1 bt512.2.2.1 bt512.2.2.2.1 bt512.2.2.2.2 bt520.1 bt520.2.1 bt520.2.2.1 bt520.2.2.2.1 bt520.2.2.2.2).bind fun bt525 => ((laws_eqFop.f k bt525.1 bt525.2.1 bt525.2.2.1 bt525.2.2.2.1 bt525.2.2.2.2.1 bt503.1 bt503.2.1 bt503.2.2.1 bt503.2.2.2.1 bt503.2.2.2.2.1).bind fun t534 => (if t534 = true then (laws_FnExactFopHear.j0 k bt503.2.2.2.2.2 bt525.2.2.2.2.2 (bt525.2.2.2.2.2 != bt503.2.2.2.2.2) a0_0 a0_1 a0_2 l0_3 a0_4 a1_0 a1_1 a1_2 a1_3 a1_4 bt503.1 bt503.2.1 bt503.2.2.1 bt503.2.2.2.1 bt503.2.2.2.2.1 bt512.1 bt512.2.1 bt512.2.2.1 bt512.2.2.2.1 bt512.2.2.2.2 bt525.1 bt525.2.1 bt525.2.2.1 bt525.2.2.2.1 bt525.2.2.2.2.1) else (laws_FnExactFopHear.j0 k bt503.2.2.2.2.2 bt525.2.2.2.2.2 true a0_0 a0_1 a0_2 l0_3 a0_4 a1_0 a1_1 a1_2 a1_3 a1_4 bt503.1 bt503.2.1 bt503.2.2.1 bt503.2.2.2.1 bt503.2.2.2.2.1 bt512.1 bt512.2.1 bt512.2.2.1 bt512.2.2.2.1 bt512.2.2.2.2 bt525.1 bt525.2.1 bt525.2.2.1 bt525.2.2.2.1 bt525.2.2.2.2.1))))))))))
theorem laws_FnExactFopHear.mono_l : ∀ k, (∀ y0 y1 y2 y3 y4 y5 y6 y7 y8 y9 y10 y11 y12 y13 y14 y15 y16 y17 y18 y19 y20 y21 y22 y23 y24 y25 y26 y27, LeO (laws_FnExactFopHear.j0 k y0 y1 y2 y3 y4 y5 y6 y7 y8 y9 y10 y11 y12 y13 y14 y15 y16 y17 y18 y19 y20 y21 y22 y23 y24 y25 y26 y27) (laws_FnExactFopHear.j0 (k + 1) y0 y1 y2 y3 y4 y5 y6 y7 y8 y9 y10 y11 y12 y13 y14 y15 y16 y17 y18 y19 y20 y21 y22 y23 y24 y25 y26 y27)) ∧ (∀ y0 y1 y2 y3 y4 y5 y6 y7 y8 y9 y10 y11 y12 y13 y14 y15 y16 y17 y18 y19 y20 y21, LeO (laws_FnExactFopHear.j1 k y0 y1 y2 y3 y4 y5 y6 y7 y8 y9 y10 y11 y12 y13 y14 y15 y16 y17 y18 y19 y20 y21) (laws_FnExactFopHear.j1 (k + 1) y0 y1 y2 y3 y4 y5 y6 y7 y8 y9 y10 y11 y12 y13 y14 y15 y16 y17 y18 y19 y20 y21)) ∧ (∀ y0 y1 y2 y3 y4 y5 y6, LeO (laws_FnExactFopHear.j2 k y0 y1 y2 y3 y4 y5 y6) (laws_FnExactFopHear.j2 (k + 1) y0 y1 y2 y3 y4 y5 y6))
 | 0 => ⟨fun _ _ _ _ _ _ _ _ _ _ _ _ _ _ _ _ _ _ _ _ _ _ _ _ _ _ _ _ r h => by simp [laws_FnExactFopHear.j0] at h, fun _ _ _ _ _ _ _ _ _ _ _ _ _ _ _ _ _ _ _ _ _ _ r h => by simp [laws_FnExactFopHear.j1] at h, fun _ _ _ _ _ _ _ r h => by simp [laws_FnExactFopHear.j2] at h⟩
 | k + 1 => by
  obtain ⟨ih0, ih1, ih2⟩ := laws_FnExactFopHear.mono_l k
  refine ⟨?_, ?_, ?_⟩
  ·intro y0 y1 y2 y3 y4 y5 y6 y7 y8 y9 y10 y11 y12 y13 y14 y15 y16 y17 y18 y19 y20 y21 y22 y23 y24 y25 y26 y27
   unfold laws_FnExactFopHear.j0
   repeat' first
   | (with_reducible exact ih0 _ _ _ _ _ _ _ _ _ _ _ _ _ _ _ _ _ _ _ _ _ _ _ _ _ _ _ _)
   | (with_reducible exact ih1 _ _ _ _ _ _ _ _ _ _ _ _ _ _ _ _ _ _ _ _ _ _)
   | (with_reducible exact ih2 _ _ _ _ _ _ _)
   | (with_reducible exact impl_FopHear.mono _ _ _ _ _ _ _ _ _ _ _)
   | (with_reducible exact laws_eqFop.mono _ _ _ _ _ _ _ _ _ _ _)
   | (with_reducible exact laws_heldFop.mono _ _ _ _ _ _ _)
   | (with_reducible exact laws_markFop.mono _ _ _ _ _ _ _)
   | (with_reducible exact laws_szFop.mono _ _ _ _ _ _ _)
   | (with_reducible exact laws_toFop.mono _ _ _ _ _ _)
   | (with_reducible exact spec_FopHear.mono _ _ _ _ _ _ _ _ _ _ _)
   | (with_reducible exact LeO.refl _)
   | (with_reducible exact LeO.none _)
   | (with_reducible refine LeO.ite ?_ ?_)
   | (with_reducible refine LeO.bind ?_ (fun _ => ?_))
   | exact ih0 _ _ _ _ _ _ _ _ _ _ _ _ _ _ _ _ _ _ _ _ _ _ _ _ _ _ _ _
   | exact ih1 _ _ _ _ _ _ _ _ _ _ _ _ _ _ _ _ _ _ _ _ _ _
   | exact ih2 _ _ _ _ _ _ _
   | exact impl_FopHear.mono _ _ _ _ _ _ _ _ _ _ _
   | exact laws_eqFop.mono _ _ _ _ _ _ _ _ _ _ _
   | exact laws_heldFop.mono _ _ _ _ _ _ _
   | exact laws_markFop.mono _ _ _ _ _ _ _
   | exact laws_szFop.mono _ _ _ _ _ _ _
   | exact laws_toFop.mono _ _ _ _ _ _
   | exact spec_FopHear.mono _ _ _ _ _ _ _ _ _ _ _
   | exact LeO.none _
   | refine LeO.ite ?_ ?_
   | refine LeO.bind ?_ (fun _ => ?_)
  ·intro y0 y1 y2 y3 y4 y5 y6 y7 y8 y9 y10 y11 y12 y13 y14 y15 y16 y17 y18 y19 y20 y21
   unfold laws_FnExactFopHear.j1
   repeat' first
   | (with_reducible exact ih0 _ _ _ _ _ _ _ _ _ _ _ _ _ _ _ _ _ _ _ _ _ _ _ _ _ _ _ _)
   | (with_reducible exact ih1 _ _ _ _ _ _ _ _ _ _ _ _ _ _ _ _ _ _ _ _ _ _)
   | (with_reducible exact ih2 _ _ _ _ _ _ _)
   | (with_reducible exact impl_FopHear.mono _ _ _ _ _ _ _ _ _ _ _)
   | (with_reducible exact laws_eqFop.mono _ _ _ _ _ _ _ _ _ _ _)
   | (with_reducible exact laws_heldFop.mono _ _ _ _ _ _ _)
   | (with_reducible exact laws_markFop.mono _ _ _ _ _ _ _)
   | (with_reducible exact laws_szFop.mono _ _ _ _ _ _ _)
   | (with_reducible exact laws_toFop.mono _ _ _ _ _ _)
   | (with_reducible exact spec_FopHear.mono _ _ _ _ _ _ _ _ _ _ _)
   | (with_reducible exact LeO.refl _)
   | (with_reducible exact LeO.none _)
   | (with_reducible refine LeO.ite ?_ ?_)
   | (with_reducible refine LeO.bind ?_ (fun _ => ?_))
   | exact ih0 _ _ _ _ _ _ _ _ _ _ _ _ _ _ _ _ _ _ _ _ _ _ _ _ _ _ _ _
   | exact ih1 _ _ _ _ _ _ _ _ _ _ _ _ _ _ _ _ _ _ _ _ _ _
   | exact ih2 _ _ _ _ _ _ _
   | exact impl_FopHear.mono _ _ _ _ _ _ _ _ _ _ _
   | exact laws_eqFop.mono _ _ _ _ _ _ _ _ _ _ _
   | exact laws_heldFop.mono _ _ _ _ _ _ _
   | exact laws_markFop.mono _ _ _ _ _ _ _
   | exact laws_szFop.mono _ _ _ _ _ _ _
   | exact laws_toFop.mono _ _ _ _ _ _
   | exact spec_FopHear.mono _ _ _ _ _ _ _ _ _ _ _
   | exact LeO.none _
   | refine LeO.ite ?_ ?_
   | refine LeO.bind ?_ (fun _ => ?_)
  ·intro y0 y1 y2 y3 y4 y5 y6
   unfold laws_FnExactFopHear.j2
   repeat' first
   | (with_reducible exact ih0 _ _ _ _ _ _ _ _ _ _ _ _ _ _ _ _ _ _ _ _ _ _ _ _ _ _ _ _)
   | (with_reducible exact ih1 _ _ _ _ _ _ _ _ _ _ _ _ _ _ _ _ _ _ _ _ _ _)
   | (with_reducible exact ih2 _ _ _ _ _ _ _)
   | (with_reducible exact impl_FopHear.mono _ _ _ _ _ _ _ _ _ _ _)
   | (with_reducible exact laws_eqFop.mono _ _ _ _ _ _ _ _ _ _ _)
   | (with_reducible exact laws_heldFop.mono _ _ _ _ _ _ _)
   | (with_reducible exact laws_markFop.mono _ _ _ _ _ _ _)
   | (with_reducible exact laws_szFop.mono _ _ _ _ _ _ _)
   | (with_reducible exact laws_toFop.mono _ _ _ _ _ _)
   | (with_reducible exact spec_FopHear.mono _ _ _ _ _ _ _ _ _ _ _)
   | (with_reducible exact LeO.refl _)
   | (with_reducible exact LeO.none _)
   | (with_reducible refine LeO.ite ?_ ?_)
   | (with_reducible refine LeO.bind ?_ (fun _ => ?_))
   | exact ih0 _ _ _ _ _ _ _ _ _ _ _ _ _ _ _ _ _ _ _ _ _ _ _ _ _ _ _ _
   | exact ih1 _ _ _ _ _ _ _ _ _ _ _ _ _ _ _ _ _ _ _ _ _ _
   | exact ih2 _ _ _ _ _ _ _
   | exact impl_FopHear.mono _ _ _ _ _ _ _ _ _ _ _
   | exact laws_eqFop.mono _ _ _ _ _ _ _ _ _ _ _
   | exact laws_heldFop.mono _ _ _ _ _ _ _
   | exact laws_markFop.mono _ _ _ _ _ _ _
   | exact laws_szFop.mono _ _ _ _ _ _ _
   | exact laws_toFop.mono _ _ _ _ _ _
   | exact spec_FopHear.mono _ _ _ _ _ _ _ _ _ _ _
   | exact LeO.none _
   | refine LeO.ite ?_ ?_
   | refine LeO.bind ?_ (fun _ => ?_)
theorem laws_FnExactFopHear.mono : ∀ a0 a1 a2 a3 a4 a5 a6 a7 a8 a9 k, LeO (laws_FnExactFopHear.f k a0 a1 a2 a3 a4 a5 a6 a7 a8 a9) (laws_FnExactFopHear.f (k + 1) a0 a1 a2 a3 a4 a5 a6 a7 a8 a9) := by
 intro a0 a1 a2 a3 a4 a5 a6 a7 a8 a9 k
 obtain ⟨ih0, ih1, ih2⟩ := laws_FnExactFopHear.mono_l k
 unfold laws_FnExactFopHear.f
 repeat' first
   | (with_reducible exact ih0 _ _ _ _ _ _ _ _ _ _ _ _ _ _ _ _ _ _ _ _ _ _ _ _ _ _ _ _)
   | (with_reducible exact ih1 _ _ _ _ _ _ _ _ _ _ _ _ _ _ _ _ _ _ _ _ _ _)
   | (with_reducible exact ih2 _ _ _ _ _ _ _)
   | (with_reducible exact impl_FopHear.mono _ _ _ _ _ _ _ _ _ _ _)
   | (with_reducible exact laws_eqFop.mono _ _ _ _ _ _ _ _ _ _ _)
   | (with_reducible exact laws_heldFop.mono _ _ _ _ _ _ _)
   | (with_reducible exact laws_markFop.mono _ _ _ _ _ _ _)
   | (with_reducible exact laws_szFop.mono _ _ _ _ _ _ _)
   | (with_reducible exact laws_toFop.mono _ _ _ _ _ _)
   | (with_reducible exact spec_FopHear.mono _ _ _ _ _ _ _ _ _ _ _)
   | (with_reducible exact LeO.refl _)
   | (with_reducible exact LeO.none _)
   | (with_reducible refine LeO.ite ?_ ?_)
   | (with_reducible refine LeO.bind ?_ (fun _ => ?_))
   | exact ih0 _ _ _ _ _ _ _ _ _ _ _ _ _ _ _ _ _ _ _ _ _ _ _ _ _ _ _ _
   | exact ih1 _ _ _ _ _ _ _ _ _ _ _ _ _ _ _ _ _ _ _ _ _ _
   | exact ih2 _ _ _ _ _ _ _
   | exact impl_FopHear.mono _ _ _ _ _ _ _ _ _ _ _
   | exact laws_eqFop.mono _ _ _ _ _ _ _ _ _ _ _
   | exact laws_heldFop.mono _ _ _ _ _ _ _
   | exact laws_markFop.mono _ _ _ _ _ _ _
   | exact laws_szFop.mono _ _ _ _ _ _ _
   | exact laws_toFop.mono _ _ _ _ _ _
   | exact spec_FopHear.mono _ _ _ _ _ _ _ _ _ _ _
   | exact LeO.none _
   | refine LeO.ite ?_ ?_
   | refine LeO.bind ?_ (fun _ => ?_)
def laws_FnExactFopHear.T5 : Bool × List (List Nat × List Nat) := (true, [([], []), ([0], [0]), ([], []), ([2, 1], [2]), ([1, 3, 3], [1, 3]), ([4], [4]), ([5], [5]), ([5], [5]), ([], []), ([8, 6, 4, 0, 1, 2, 3, 4, 5, 6, 8], [6, 8]), ([7, 9, 0, 1, 2, 3, 4, 5, 6, 7, 8, 9], [7])])
def laws_FnExactFopHear.B5 : List Nat := [0, 1, 0, 7, 15, 31, 63, 63, 0, 383, 1023]
theorem laws_FnExactFopHear.tab5 : rtab .any (opsOf Try.f5 5) = laws_FnExactFopHear.T5 := by kernel_rfl
theorem laws_FnExactFopHear.bits5 : waitsOk laws_FnExactFopHear.T5.2 laws_FnExactFopHear.B5 = true := by kernel_rfl
def laws_FnExactFopHear.T7 : Bool × List (List Nat × List Nat) := (true, [([], []), ([], []), ([1], [1]), ([0, 2, 2], [0, 2]), ([3], [3]), ([4], [4]), ([4], [4]), ([], []), ([7, 5, 3, 0, 1, 2, 3, 4, 5, 7], [5, 7]), ([6, 8, 0, 1, 2, 3, 4, 5, 6, 7, 8], [6])])
def laws_FnExactFopHear.B7 : List Nat := [0, 0, 2, 7, 15, 31, 31, 0, 191, 511]
theorem laws_FnExactFopHear.tab7 : rtab .any (opsOf Try.f5 7) = laws_FnExactFopHear.T7 := by kernel_rfl
theorem laws_FnExactFopHear.bits7 : waitsOk laws_FnExactFopHear.T7.2 laws_FnExactFopHear.B7 = true := by kernel_rfl
def laws_FnExactFopHear.T24 : Bool × List (List Nat × List Nat) := (true, [([], []), ([0], [0]), ([], []), ([2, 1], [2]), ([1, 3, 3], [1, 3]), ([4], [4]), ([5], [5]), ([5], [5]), ([], []), ([8, 6, 4, 0, 1, 2, 3, 4, 5, 6, 8], [6, 8]), ([7, 9, 0, 1, 2, 3, 4, 5, 6, 7, 8, 9], [7])])
def laws_FnExactFopHear.B24 : List Nat := [0, 1, 0, 7, 15, 31, 63, 63, 0, 383, 1023]
theorem laws_FnExactFopHear.tab24 : rtab .any (opsOf Try.f5 24) = laws_FnExactFopHear.T24 := by kernel_rfl
theorem laws_FnExactFopHear.bits24 : waitsOk laws_FnExactFopHear.T24.2 laws_FnExactFopHear.B24 = true := by kernel_rfl
set_option maxHeartbeats 8000000 in
set_option maxRecDepth 100000 in
theorem laws_FnExactFopHear.calls (k : Nat) (a0_0 : Int) (a0_1 : Int) (a0_2 : Int) (A0_3 : Option Addr) (c0_3 : Nat) (l0_3 : List ByteArray) (a0_4 : Bool) (a1_0 : Bool) (a1_1 : Bool) (a1_2 : Bool) (a1_3 : Int) (a1_4 : Int) (r : Bool) (w : World) (hr0_3 : Kd.C Kd.string w A0_3 l0_3.length l0_3) (hc0_3 : l0_3.length ≤ c0_3) (h : laws_FnExactFopHear.f k a0_0 a0_1 a0_2 l0_3 a0_4 a1_0 a1_1 a1_2 a1_3 a1_4 = some r) :
  Calls Try.prog 5 #[.agg #[.int .i64 a0_0, .int .i64 a0_1, .int .i64 a0_2, .slice A0_3 l0_3.length c0_3, .bool a0_4], .agg #[.bool a1_0, .bool a1_1, .bool a1_2, .int .i64 a1_3, .int .i64 a1_4]] w fun e w' => e = .returned (.bool r) ∧ Below w.heap.size w w' := by
 have hu45 := Try.underlying45
 have hu46 := Try.underlying46
 have hu25 := Try.underlying25
 have HR0_3 := Aside0.mk hr0_3
 have HC0_3 := Aside0.mk hc0_3
 clear hr0_3 hc0_3
 have HB := m_ (Below.refl w.heap.size w)
 have H : ((laws_szFop.f k a0_0 a0_1 a0_2 l0_3 a0_4 1048576).bind fun t490 => (if t490 < 0 then (some true) else ((laws_toFop.f k a0_0 a0_1 a0_2 l0_3 a0_4).bind fun bt491 => ((laws_toFarm.f a1_0 a1_1 a1_2 a1_3 a1_4).bind fun bt498 => ((spec_FopHear.f k bt491.1 bt491.2.1 bt491.2.2.1 bt491.2.2.2.1 bt491.2.2.2.2 bt498.1 bt498.2.1 bt498.2.2.1 bt498.2.2.2.1 bt498.2.2.2.2).bind fun bt503 => ((laws_toFop.f k a0_0 a0_1 a0_2 l0_3 a0_4).bind fun bt512 => ((laws_toFarm.f a1_0 a1_1 a1_2 a1_3 a1_4).bind fun bt520 => ((impl_FopHear.f k bt512.1 bt512.2.1 bt512.2.2.1 bt512.2.2.2.1 bt512.2.2.2.2 bt520.1 bt520.2.1 bt520.2.2.1 bt520.2.2.2.1 bt520.2.2.2.2).bind fun bt525 => ((laws_eqFop.f k bt525.1 bt525.2.1 bt525.2.2.1 bt525.2.2.2.1 bt525.2.2.2.2.1 bt503.1 bt503.2.1 bt503.2.2.1 bt503.2.2.2.1 bt503.2.2.2.2.1).bind fun t534 => (if t534 = true then (laws_FnExactFopHear.j0 k bt503.2.2.2.2.2 bt525.2.2.2.2.2 (bt525.2.2.2.2.2 != bt503.2.2.2.2.2) a0_0 a0_1 a0_2 l0_3 a0_4 a1_0 a1_1 a1_2 a1_3 a1_4 bt503.1 bt503.2.1 bt503.2.2.1 bt503.2.2.2.1 bt503.2.2.2.2.1 bt512.1 bt512.2.1 bt512.2.2.1 bt512.2.2.2.1 bt512.2.2.2.2 bt525.1 bt525.2.1 bt525.2.2.1 bt525.2.2.2.1 bt525.2.2.2.2.1) else (laws_FnExactFopHear.j0 k bt503.2.2.2.2.2 bt525.2.2.2.2.2 true a0_0 a0_1 a0_2 l0_3 a0_4 a1_0 a1_1 a1_2 a1_3 a1_4 bt503.1 bt503.2.1 bt503.2.2.1 bt503.2.2.2.1 bt503.2.2.2.2.1 bt512.1 bt512.2.1 bt512.2.2.1 bt512.2.2.2.1 bt512.2.2.2.2 bt525.1 bt525.2.1 bt525.2.2.1 bt525.2.2.2.1 bt525.2.2.2.2.1))))))))))) = some r := h
 clear h
 replace H := Option.bind_eq_some_iff.mp H
 obtain ⟨t490, A30, H⟩ := H
 replace H : (if t490 < 0 then (some true) else ((laws_toFop.f k a0_0 a0_1 a0_2 l0_3 a0_4).bind fun bt491 => ((laws_toFarm.f a1_0 a1_1 a1_2 a1_3 a1_4).bind fun bt498 => ((spec_FopHear.f k bt491.1 bt491.2.1 bt491.2.2.1 bt491.2.2.2.1 bt491.2.2.2.2 bt498.1 bt498.2.1 bt498.2.2.1 bt498.2.2.2.1 bt498.2.2.2.2).bind fun bt503 => ((laws_toFop.f k a0_0 a0_1 a0_2 l0_3 a0_4).bind fun bt512 => ((laws_toFarm.f a1_0 a1_1 a1_2 a1_3 a1_4).bind fun bt520 => ((impl_FopHear.f k bt512.1 bt512.2.1 bt512.2.2.1 bt512.2.2.2.1 bt512.2.2.2.2 bt520.1 bt520.2.1 bt520.2.2.1 bt520.2.2.2.1 bt520.2.2.2.2).bind fun bt525 => ((laws_eqFop.f k bt525.1 bt525.2.1 bt525.2.2.1 bt525.2.2.2.1 bt525.2.2.2.2.1 bt503.1 bt503.2.1 bt503.2.2.1 bt503.2.2.2.1 bt503.2.2.2.2.1).bind fun t534 => (if t534 = true then (laws_FnExactFopHear.j0 k bt503.2.2.2.2.2 bt525.2.2.2.2.2 (bt525.2.2.2.2.2 != bt503.2.2.2.2.2) a0_0 a0_1 a0_2 l0_3 a0_4 a1_0 a1_1 a1_2 a1_3 a1_4 bt503.1 bt503.2.1 bt503.2.2.1 bt503.2.2.2.1 bt503.2.2.2.2.1 bt512.1 bt512.2.1 bt512.2.2.1 bt512.2.2.2.1 bt512.2.2.2.2 bt525.1 bt525.2.1 bt525.2.2.1 bt525.2.2.2.1 bt525.2.2.2.2.1) else (laws_FnExactFopHear.j0 k bt503.2.2.2.2.2 bt525.2.2.2.2.2 true a0_0 a0_1 a0_2 l0_3 a0_4 a1_0 a1_1 a1_2 a1_3 a1_4 bt503.1 bt503.2.1 bt503.2.2.1 bt503.2.2.2.1 bt503.2.2.2.2.1 bt512.1 bt512.2.1 bt512.2.2.1 bt512.2.2.2.1 bt512.2.2.2.2 bt525.1 bt525.2.1 bt525.2.2.1 bt525.2.2.2.1 bt525.2.2.2.2.1)))))))))) = some r := H
 have A3 := Aside0.mk A30
 clear A30
 by_cases c4 : t490 < 0
 ·rw [if_pos c4] at H
  have c4b0 : decide (t490 < 0) = true := decide_eq_true c4
  clear c4
  obtain rfl := Option.some.inj H
  go_enter Try.func5, Try.ntmps5
  go_wp2_with (first | ((with_reducible refine gate_dst (N := 2) rfl ?_); refine box_event ?hg (N := 2) ?hd (cs := #[.int .i64 a0_0, .int .i64 a0_1, .int .i64 a0_2, .slice A0_3 l0_3.length c0_3, .bool a0_4]) (t := 45) ?hr ?_; (case hd => rfl); (case hg => rfl); (case hr => first | (go_simp; done) | (go_simp; rfl)); intro gb488 hg w5 hbox hb; have n0_ := m_ (below_step (bN HB.out) hb); have n1_ := m_ (hbox); have n2_ := m_ ((by rw [hg]; exact (below_size (bN HB.out)) : w.heap.size ≤ gb488)); have n3_ := m_ ((by rw [hg]; exact (below_size (bN HB.out)) : w.heap.size ≤ gb488)); clear HB; have HB := n0_; have BK488 := n1_; have GW488 := n2_; have GE488 := n3_; clear n0_ n1_ n2_ n3_; clear hb hbox hg) | ((with_reducible refine gate_dst (N := 3) rfl ?_); refine box_event ?hg (N := 3) ?hd (cs := #[.bool a1_0, .bool a1_1, .bool a1_2, .int .i64 a1_3, .int .i64 a1_4]) (t := 46) ?hr ?_; (case hd => rfl); (case hg => rfl); (case hr => first | (go_simp; done) | (go_simp; rfl)); intro gb489 hg w6 hbox hb; have n0_ := m_ (blk_below (kN BK488.out) hb); have n1_ := m_ (below_step (bN HB.out) hb); have n2_ := m_ (hbox); have n3_ := m_ ((by rw [hg]; exact (below_size (bN HB.out)) : w.heap.size ≤ gb489)); have n4_ := m_ ((by rw [hg]; exact (below_size (bN HB.out)) : w.heap.size ≤ gb489)); have n5_ := m_ (nL hg BK488.out); have n6_ := m_ (nG hg BK488.out); clear BK488; clear HB; have BK488 := n0_; have HB := n1_; have BK489 := n2_; have GW489 := n3_; have GE489 := n4_; have NB488_489 := n5_; have NB489_488 := n6_; clear n0_ n1_ n2_ n3_ n4_ n5_ n6_; clear hb hbox hg; have hnb7 := NB488_489.out; have hnc7 := NB489_488.out; have hcz8_0 : w6.cell? ⟨gb488, 0, none⟩ = some (.int .i64 a0_0) := bc BK488 0; have hcz8_1 : w6.cell? ⟨gb488, 1, none⟩ = some (.int .i64 a0_1) := bc BK488 1; have hcz8_2 : w6.cell? ⟨gb488, 2, none⟩ = some (.int .i64 a0_2) := bc BK488 2; have hcz8_3 : w6.cell? ⟨gb488, 3, none⟩ = some (.slice A0_3 l0_3.length c0_3) := bc BK488 3; have hcz8_4 : w6.cell? ⟨gb488, 4, none⟩ = some (.bool a0_4) := bc BK488 4; have hfz8_0 := blk_frozen BK488.out 0; have hfz8_1 := blk_frozen BK488.out 1; have hfz8_2 := blk_frozen BK488.out 2; have hfz8_3 := blk_frozen BK488.out 3; have hfz8_4 := blk_frozen BK488.out 4) | ((with_reducible refine gate_callee (f := 19) rfl ?_); refine goesL_ (some 18) rfl rfl Try.func19 (by kernel_rfl) rfl #[.agg #[.int .i64 a0_0, .int .i64 a0_1, .int .i64 a0_2, .slice A0_3 l0_3.length c0_3, .bool a0_4], .int .i64 1048576] rfl gl_ ?_; (with_reducible refine (laws_szFop.calls k a0_0 a0_1 a0_2 _ _ l0_3 a0_4 1048576 t490 _ ?side1 ?side2 A3.out).mono ?_); (case side1 => exact cN (Kd.C_below HR0_3.out HB.out)); (case side2 => exact HC0_3.out); rintro e w9 ⟨rfl, hb⟩; refine ⟨_, rfl, ?_⟩; have n0_ := m_ (blk_below (kN BK488.out) hb); have n1_ := m_ (blk_below (kN BK489.out) hb); have n2_ := m_ (below_step (bN HB.out) hb); clear BK488; clear BK489; clear HB; have BK488 := n0_; have BK489 := n1_; have HB := n2_; clear n0_ n1_ n2_; (try clear hb); (try clear hb2); (try clear hk); (try clear hi)))
  go_ret
  exact ⟨by first | rfl | (simp [errW_none, errW_some] <;> rfl) | (simp [*, errW_none, errW_some] <;> rfl), by repeat (first | (with_reducible first | exact HB.out | apply below_alloc | apply pw_below_drewN | apply below_drew1 | refine below_set ?_ GE488.out | refine below_set ?_ GE489.out) | exact HB.out)⟩
 ·rw [if_neg c4] at H
  have c4b0 : decide (t490 < 0) = false := decide_eq_false c4
  clear c4
  replace H := Option.bind_eq_some_iff.mp H
  obtain ⟨⟨t491, t492, t493, t494, t497⟩, A100, H⟩ := H
  replace H : ((laws_toFarm.f a1_0 a1_1 a1_2 a1_3 a1_4).bind fun bt498 => ((spec_FopHear.f k t491 t492 t493 t494 t497 bt498.1 bt498.2.1 bt498.2.2.1 bt498.2.2.2.1 bt498.2.2.2.2).bind fun bt503 => ((laws_toFop.f k a0_0 a0_1 a0_2 l0_3 a0_4).bind fun bt512 => ((laws_toFarm.f a1_0 a1_1 a1_2 a1_3 a1_4).bind fun bt520 => ((impl_FopHear.f k bt512.1 bt512.2.1 bt512.2.2.1 bt512.2.2.2.1 bt512.2.2.2.2 bt520.1 bt520.2.1 bt520.2.2.1 bt520.2.2.2.1 bt520.2.2.2.2).bind fun bt525 => ((laws_eqFop.f k bt525.1 bt525.2.1 bt525.2.2.1 bt525.2.2.2.1 bt525.2.2.2.2.1 bt503.1 bt503.2.1 bt503.2.2.1 bt503.2.2.2.1 bt503.2.2.2.2.1).bind fun t534 => (if t534 = true then (laws_FnExactFopHear.j0 k bt503.2.2.2.2.2 bt525.2.2.2.2.2 (bt525.2.2.2.2.2 != bt503.2.2.2.2.2) a0_0 a0_1 a0_2 l0_3 a0_4 a1_0 a1_1 a1_2 a1_3 a1_4 bt503.1 bt503.2.1 bt503.2.2.1 bt503.2.2.2.1 bt503.2.2.2.2.1 bt512.1 bt512.2.1 bt512.2.2.1 bt512.2.2.2.1 bt512.2.2.2.2 bt525.1 bt525.2.1 bt525.2.2.1 bt525.2.2.2.1 bt525.2.2.2.2.1) else (laws_FnExactFopHear.j0 k bt503.2.2.2.2.2 bt525.2.2.2.2.2 true a0_0 a0_1 a0_2 l0_3 a0_4 a1_0 a1_1 a1_2 a1_3 a1_4 bt503.1 bt503.2.1 bt503.2.2.1 bt503.2.2.2.1 bt503.2.2.2.2.1 bt512.1 bt512.2.1 bt512.2.2.1 bt512.2.2.2.1 bt512.2.2.2.2 bt525.1 bt525.2.1 bt525.2.2.1 bt525.2.2.2.1 bt525.2.2.2.2.1)))))))) = some r := H
  have A10 := Aside0.mk A100
  clear A100
  replace H := Option.bind_eq_some_iff.mp H
  obtain ⟨⟨t498, t499, t500, t501, t502⟩, A110, H⟩ := H
  replace H : ((spec_FopHear.f k t491 t492 t493 t494 t497 t498 t499 t500 t501 t502).bind fun bt503 => ((laws_toFop.f k a0_0 a0_1 a0_2 l0_3 a0_4).bind fun bt512 => ((laws_toFarm.f a1_0 a1_1 a1_2 a1_3 a1_4).bind fun bt520 => ((impl_FopHear.f k bt512.1 bt512.2.1 bt512.2.2.1 bt512.2.2.2.1 bt512.2.2.2.2 bt520.1 bt520.2.1 bt520.2.2.1 bt520.2.2.2.1 bt520.2.2.2.2).bind fun bt525 => ((laws_eqFop.f k bt525.1 bt525.2.1 bt525.2.2.1 bt525.2.2.2.1 bt525.2.2.2.2.1 bt503.1 bt503.2.1 bt503.2.2.1 bt503.2.2.2.1 bt503.2.2.2.2.1).bind fun t534 => (if t534 = true then (laws_FnExactFopHear.j0 k bt503.2.2.2.2.2 bt525.2.2.2.2.2 (bt525.2.2.2.2.2 != bt503.2.2.2.2.2) a0_0 a0_1 a0_2 l0_3 a0_4 a1_0 a1_1 a1_2 a1_3 a1_4 bt503.1 bt503.2.1 bt503.2.2.1 bt503.2.2.2.1 bt503.2.2.2.2.1 bt512.1 bt512.2.1 bt512.2.2.1 bt512.2.2.2.1 bt512.2.2.2.2 bt525.1 bt525.2.1 bt525.2.2.1 bt525.2.2.2.1 bt525.2.2.2.2.1) else (laws_FnExactFopHear.j0 k bt503.2.2.2.2.2 bt525.2.2.2.2.2 true a0_0 a0_1 a0_2 l0_3 a0_4 a1_0 a1_1 a1_2 a1_3 a1_4 bt503.1 bt503.2.1 bt503.2.2.1 bt503.2.2.2.1 bt503.2.2.2.2.1 bt512.1 bt512.2.1 bt512.2.2.1 bt512.2.2.2.1 bt512.2.2.2.2 bt525.1 bt525.2.1 bt525.2.2.1 bt525.2.2.2.1 bt525.2.2.2.2.1))))))) = some r := H
  have A11 := Aside0.mk A110
  clear A110
  replace H := Option.bind_eq_some_iff.mp H
  obtain ⟨⟨t503, t504, t505, t506, t509, t510⟩, A120, H⟩ := H
  replace H : ((laws_toFop.f k a0_0 a0_1 a0_2 l0_3 a0_4).bind fun bt512 => ((laws_toFarm.f a1_0 a1_1 a1_2 a1_3 a1_4).bind fun bt520 => ((impl_FopHear.f k bt512.1 bt512.2.1 bt512.2.2.1 bt512.2.2.2.1 bt512.2.2.2.2 bt520.1 bt520.2.1 bt520.2.2.1 bt520.2.2.2.1 bt520.2.2.2.2).bind fun bt525 => ((laws_eqFop.f k bt525.1 bt525.2.1 bt525.2.2.1 bt525.2.2.2.1 bt525.2.2.2.2.1 t503 t504 t505 t506 t509).bind fun t534 => (if t534 = true then (laws_FnExactFopHear.j0 k t510 bt525.2.2.2.2.2 (bt525.2.2.2.2.2 != t510) a0_0 a0_1 a0_2 l0_3 a0_4 a1_0 a1_1 a1_2 a1_3 a1_4 t503 t504 t505 t506 t509 bt512.1 bt512.2.1 bt512.2.2.1 bt512.2.2.2.1 bt512.2.2.2.2 bt525.1 bt525.2.1 bt525.2.2.1 bt525.2.2.2.1 bt525.2.2.2.2.1) else (laws_FnExactFopHear.j0 k t510 bt525.2.2.2.2.2 true a0_0 a0_1 a0_2 l0_3 a0_4 a1_0 a1_1 a1_2 a1_3 a1_4 t503 t504 t505 t506 t509 bt512.1 bt512.2.1 bt512.2.2.1 bt512.2.2.2.1 bt512.2.2.2.2 bt525.1 bt525.2.1 bt525.2.2.1 bt525.2.2.2.1 bt525.2.2.2.2.1)))))) = some r := H
  have A12 := Aside0.mk A120
  clear A120
  replace H := Option.bind_eq_some_iff.mp H
  obtain ⟨⟨t512, t513, t514, t515, t518⟩, A130, H⟩ := H
  replace H : ((laws_toFarm.f a1_0 a1_1 a1_2 a1_3 a1_4).bind fun bt520 => ((impl_FopHear.f k t512 t513 t514 t515 t518 bt520.1 bt520.2.1 bt520.2.2.1 bt520.2.2.2.1 bt520.2.2.2.2).bind fun bt525 => ((laws_eqFop.f k bt525.1 bt525.2.1 bt525.2.2.1 bt525.2.2.2.1 bt525.2.2.2.2.1 t503 t504 t505 t506 t509).bind fun t534 => (if t534 = true then (laws_FnExactFopHear.j0 k t510 bt525.2.2.2.2.2 (bt525.2.2.2.2.2 != t510) a0_0 a0_1 a0_2 l0_3 a0_4 a1_0 a1_1 a1_2 a1_3 a1_4 t503 t504 t505 t506 t509 t512 t513 t514 t515 t518 bt525.1 bt525.2.1 bt525.2.2.1 bt525.2.2.2.1 bt525.2.2.2.2.1) else (laws_FnExactFopHear.j0 k t510 bt525.2.2.2.2.2 true a0_0 a0_1 a0_2 l0_3 a0_4 a1_0 a1_1 a1_2 a1_3 a1_4 t503 t504 t505 t506 t509 t512 t513 t514 t515 t518 bt525.1 bt525.2.1 bt525.2.2.1 bt525.2.2.2.1 bt525.2.2.2.2.1))))) = some r := H
  have A13 := Aside0.mk A130
  clear A130
  replace H := Option.bind_eq_some_iff.mp H
  obtain ⟨⟨t520, t521, t522, t523, t524⟩, A140, H⟩ := H
  replace H : ((impl_FopHear.f k t512 t513 t514 t515 t518 t520 t521 t522 t523 t524).bind fun bt525 => ((laws_eqFop.f k bt525.1 bt525.2.1 bt525.2.2.1 bt525.2.2.2.1 bt525.2.2.2.2.1 t503 t504 t505 t506 t509).bind fun t534 => (if t534 = true then (laws_FnExactFopHear.j0 k t510 bt525.2.2.2.2.2 (bt525.2.2.2.2.2 != t510) a0_0 a0_1 a0_2 l0_3 a0_4 a1_0 a1_1 a1_2 a1_3 a1_4 t503 t504 t505 t506 t509 t512 t513 t514 t515 t518 bt525.1 bt525.2.1 bt525.2.2.1 bt525.2.2.2.1 bt525.2.2.2.2.1) else (laws_FnExactFopHear.j0 k t510 bt525.2.2.2.2.2 true a0_0 a0_1 a0_2 l0_3 a0_4 a1_0 a1_1 a1_2 a1_3 a1_4 t503 t504 t505 t506 t509 t512 t513 t514 t515 t518 bt525.1 bt525.2.1 bt525.2.2.1 bt525.2.2.2.1 bt525.2.2.2.2.1)))) = some r := H
  have A14 := Aside0.mk A140
  clear A140
  replace H := Option.bind_eq_some_iff.mp H
  obtain ⟨⟨t525, t526, t527, t528, t531, t532⟩, A150, H⟩ := H
  replace H : ((laws_eqFop.f k t525 t526 t527 t528 t531 t503 t504 t505 t506 t509).bind fun t534 => (if t534 = true then (laws_FnExactFopHear.j0 k t510 t532 (t532 != t510) a0_0 a0_1 a0_2 l0_3 a0_4 a1_0 a1_1 a1_2 a1_3 a1_4 t503 t504 t505 t506 t509 t512 t513 t514 t515 t518 t525 t526 t527 t528 t531) else (laws_FnExactFopHear.j0 k t510 t532 true a0_0 a0_1 a0_2 l0_3 a0_4 a1_0 a1_1 a1_2 a1_3 a1_4 t503 t504 t505 t506 t509 t512 t513 t514 t515 t518 t525 t526 t527 t528 t531))) = some r := H
  have A15 := Aside0.mk A150
  clear A150
  have HC16 := Aside0.mk H
  clear H
  go_enter Try.func5, Try.ntmps5
  try go_wp2_with (first | ((with_reducible refine gate_dst (N := 2) rfl ?_); refine box_event ?hg (N := 2) ?hd (cs := #[.int .i64 a0_0, .int .i64 a0_1, .int .i64 a0_2, .slice A0_3 l0_3.length c0_3, .bool a0_4]) (t := 45) ?hr ?_; (case hd => rfl); (case hg => rfl); (case hr => first | (go_simp; done) | (go_simp; rfl)); intro gb488 hg w17 hbox hb; have n0_ := m_ (below_step (bN HB.out) hb); have n1_ := m_ (hbox); have n2_ := m_ ((by rw [hg]; exact (below_size (bN HB.out)) : w.heap.size ≤ gb488)); have n3_ := m_ ((by rw [hg]; exact (below_size (bN HB.out)) : w.heap.size ≤ gb488)); clear HB; have HB := n0_; have BK488 := n1_; have GW488 := n2_; have GE488 := n3_; clear n0_ n1_ n2_ n3_; clear hb hbox hg) | ((with_reducible refine gate_dst (N := 3) rfl ?_); refine box_event ?hg (N := 3) ?hd (cs := #[.bool a1_0, .bool a1_1, .bool a1_2, .int .i64 a1_3, .int .i64 a1_4]) (t := 46) ?hr ?_; (case hd => rfl); (case hg => rfl); (case hr => first | (go_simp; done) | (go_simp; rfl)); intro gb489 hg w18 hbox hb; have n0_ := m_ (blk_below (kN BK488.out) hb); have n1_ := m_ (below_step (bN HB.out) hb); have n2_ := m_ (hbox); have n3_ := m_ ((by rw [hg]; exact (below_size (bN HB.out)) : w.heap.size ≤ gb489)); have n4_ := m_ ((by rw [hg]; exact (below_size (bN HB.out)) : w.heap.size ≤ gb489)); have n5_ := m_ (nL hg BK488.out); have n6_ := m_ (nG hg BK488.out); clear BK488; clear HB; have BK488 := n0_; have HB := n1_; have BK489 := n2_; have GW489 := n3_; have GE489 := n4_; have NB488_489 := n5_; have NB489_488 := n6_; clear n0_ n1_ n2_ n3_ n4_ n5_ n6_; clear hb hbox hg; have hnb19 := NB488_489.out; have hnc19 := NB489_488.out; have hcz20_0 : w18.cell? ⟨gb488, 0, none⟩ = some (.int .i64 a0_0) := bc BK488 0; have hcz20_1 : w18.cell? ⟨gb488, 1, none⟩ = some (.int .i64 a0_1) := bc BK488 1; have hcz20_2 : w18.cell? ⟨gb488, 2, none⟩ = some (.int .i64 a0_2) := bc BK488 2; have hcz20_3 : w18.cell? ⟨gb488, 3, none⟩ = some (.slice A0_3 l0_3.length c0_3) := bc BK488 3; have hcz20_4 : w18.cell? ⟨gb488, 4, none⟩ = some (.bool a0_4) := bc BK488 4; have hfz20_0 := blk_frozen BK488.out 0; have hfz20_1 := blk_frozen BK488.out 1; have hfz20_2 := blk_frozen BK488.out 2; have hfz20_3 := blk_frozen BK488.out 3; have hfz20_4 := blk_frozen BK488.out 4) | ((with_reducible refine gate_callee (f := 19) rfl ?_); refine goesL_ (some 18) rfl rfl Try.func19 (by kernel_rfl) rfl #[.agg #[.int .i64 a0_0, .int .i64 a0_1, .int .i64 a0_2, .slice A0_3 l0_3.length c0_3, .bool a0_4], .int .i64 1048576] rfl gl_ ?_; (with_reducible refine (laws_szFop.calls k a0_0 a0_1 a0_2 _ _ l0_3 a0_4 1048576 t490 _ ?side1 ?side2 A3.out).mono ?_); (case side1 => exact cN (Kd.C_below HR0_3.out HB.out)); (case side2 => exact HC0_3.out); rintro e w21 ⟨rfl, hb⟩; refine ⟨_, rfl, ?_⟩; have n0_ := m_ (blk_below (kN BK488.out) hb); have n1_ := m_ (blk_below (kN BK489.out) hb); have n2_ := m_ (below_step (bN HB.out) hb); clear BK488; clear BK489; clear HB; have BK488 := n0_; have BK489 := n1_; have HB := n2_; clear n0_ n1_ n2_; (try clear hb); (try clear hb2); (try clear hk); (try clear hi)))
  have n0_ := m_ (blk_drew BK488.out)
  have n1_ := m_ (blk_drew BK489.out)
  have n2_ := m_ (below_drew1 HB.out)
  clear BK488
  clear BK489
  clear HB
  have BK488 := n0_
  have BK489 := n1_
  have HB := n2_
  clear n0_ n1_ n2_
  refine start_ (n := 11) (S := fun w' => w'.cell? ⟨gb488, 0, none⟩ = some (.int .i64 a0_0) ∧ w'.cell? ⟨gb488, 1, none⟩ = some (.int .i64 a0_1) ∧ w'.cell? ⟨gb488, 2, none⟩ = some (.int .i64 a0_2) ∧ w'.cell? ⟨gb488, 3, none⟩ = some (.slice A0_3 l0_3.length c0_3) ∧ w'.cell? ⟨gb488, 4, none⟩ = some (.bool a0_4) ∧ w'.cell? ⟨gb489, 0, none⟩ = some (.bool a1_0) ∧ w'.cell? ⟨gb489, 1, none⟩ = some (.bool a1_1) ∧ w'.cell? ⟨gb489, 2, none⟩ = some (.bool a1_2) ∧ w'.cell? ⟨gb489, 3, none⟩ = some (.int .i64 a1_3) ∧ w'.cell? ⟨gb489, 4, none⟩ = some (.int .i64 a1_4)) (ds := []) #[false, false, false, false, false, false, false, false, false, false, false] (by kernel_rfl) rfl rfl ⟨bc BK488 0, bc BK488 1, bc BK488 2, bc BK488 3, bc BK488 4, bc BK489 0, bc BK489 1, bc BK489 2, bc BK489 3, bc BK489 4⟩ (fun hHeld => ?_); refine with_tabW laws_FnExactFopHear.tab5 laws_FnExactFopHear.bits5 (fun HT_ HW_ => ?_)
  generalize w21.drew = w22 at BK488 BK489 HB hHeld ⊢
  refine take_ (i := 0) (N := some 22) (v := ?_) (a' := ?_) #[true, false, false, false, false, false, false, false, false, false, false] rfl rfl (take_ofW HT_.out HW_.out (by kernel_rfl)) (fun _ _ _ h => h) (Or.inl ⟨by rfl, ?_⟩) hHeld ?_ ?_
  rotate_left
  ·rintro w' ⟨s0, s1, s2, s3, s4, s5, s6, s7, s8, s9⟩
   go_simp
   with_reducible rfl
  rotate_left
  ·simp only [Act.put, List.setIfInBounds_toArray, List.set_cons_zero, List.set_cons_succ, i64_w, i32_w]
   rfl
  refine take_ (i := 2) (N := some 24) (v := ?_) (a' := ?_) #[true, false, true, false, false, false, false, false, false, false, false] rfl rfl (take_ofW HT_.out HW_.out (by kernel_rfl)) (fun _ _ _ h => h) (Or.inl ⟨by rfl, ?_⟩) hHeld ?_ ?_
  rotate_left
  ·rintro w' ⟨s0, s1, s2, s3, s4, s5, s6, s7, s8, s9⟩
   go_simp
   with_reducible rfl
  rotate_left
  ·simp only [Act.put, List.setIfInBounds_toArray, List.set_cons_zero, List.set_cons_succ, i64_w, i32_w]
   rfl
  refine join_ (σ := Value × Value × Nat) 2 #[true, true, true, true, true, true, true, true, true, false, false] (fun s_ => [(23, .agg #[.int .i64 t491, .int .i64 t492, .int .i64 t493, s_.1, .bool t497]), (25, .agg #[.bool t498, .bool t499, .bool t500, .int .i64 t501, .int .i64 t502]), (26, .tuple #[.agg #[.int .i64 t503, .int .i64 t504, .int .i64 t505, s_.2.1, .bool t509], .bool t510]), (6, .pointer (some ⟨s_.2.2, 0, none⟩)), (21, .tuple #[.agg #[.int .i64 t503, .int .i64 t504, .int .i64 t505, s_.2.1, .bool t509], .bool t510]), (27, .agg #[.int .i64 t503, .int .i64 t504, .int .i64 t505, s_.2.1, .bool t509]), (28, .bool t510)]) (fun s_ w' => (w'.cell? ⟨gb488, 0, none⟩ = some (.int .i64 a0_0) ∧ w'.cell? ⟨gb488, 1, none⟩ = some (.int .i64 a0_1) ∧ w'.cell? ⟨gb488, 2, none⟩ = some (.int .i64 a0_2) ∧ w'.cell? ⟨gb488, 3, none⟩ = some (.slice A0_3 l0_3.length c0_3) ∧ w'.cell? ⟨gb488, 4, none⟩ = some (.bool a0_4) ∧ w'.cell? ⟨gb489, 0, none⟩ = some (.bool a1_0) ∧ w'.cell? ⟨gb489, 1, none⟩ = some (.bool a1_1) ∧ w'.cell? ⟨gb489, 2, none⟩ = some (.bool a1_2) ∧ w'.cell? ⟨gb489, 3, none⟩ = some (.int .i64 a1_3) ∧ w'.cell? ⟨gb489, 4, none⟩ = some (.int .i64 a1_4)) ∧ (Kd.R Kd.string 9 w' w.heap.size (fun k_ => some k_ ≠ (s_.2.1 : Value).ownBlock) s_.1 t494) ∧ (Kd.R Kd.string 9 w' w.heap.size (fun k_ => some k_ ≠ (s_.1 : Value).ownBlock) s_.2.1 t506) ∧ (w'.heap[gb488]? = some (.cells #[.int .i64 a0_0, .int .i64 a0_1, .int .i64 a0_2, .slice A0_3 l0_3.length c0_3, .bool a0_4] 45 (0, 0))) ∧ (w'.heap[gb489]? = some (.cells #[.bool a1_0, .bool a1_1, .bool a1_2, .int .i64 a1_3, .int .i64 a1_4] 46 (0, 0))) ∧ (w'.heap[s_.2.2]? = some (.cells #[.int .i64 0, .int .i64 0, .int .i64 0, .slice none 0 0, .bool false] 25 (0, 0))) ∧ (w.heap.size ≤ s_.2.2) ∧ (w.heap.size ≤ s_.2.2) ∧ (gb488 ≠ s_.2.2) ∧ (s_.2.2 ≠ gb488) ∧ (gb489 ≠ s_.2.2) ∧ (s_.2.2 ≠ gb489) ∧ (Below w.heap.size w w')) ?_ ?_
  rotate_left
  ·intro hCont
   refine two_ (i := 1) (j := 8) (Ni := some 23) (Nj := some 6) #[true, true, true, false, false, false, false, false, false, false, false] #[true, false, true, false, false, false, false, false, true, false, false] rfl rfl rfl rfl (two_of HT_.out (by kernel_rfl)) (by decide) (by decide) (fun K hK => ?_) (fun K hK => ?_)
   ·skip
    refine goes_ Try.func20 (by kernel_rfl) rfl #[.agg #[.int .i64 a0_0, .int .i64 a0_1, .int .i64 a0_2, .slice A0_3 l0_3.length c0_3, .bool a0_4]] (by rfl) rfl rfl gl_ ?_
    with_reducible refine (laws_toFop.calls k a0_0 a0_1 a0_2 _ _ l0_3 a0_4 t491 t492 t493 t494 t497 _ ?side1 ?side2 A10.out).mono ?_
    (case side1 => exact cN (Kd.C_below HR0_3.out HB.out))
    (case side2 => exact HC0_3.out)
    rintro e w23 ⟨v495, rfl, ho0, hb⟩
    refine ⟨_, rfl, ?_⟩
    have n0_ := m_ (Kd.R_lower ho0 (below_size (bN HB.out)))
    have n1_ := m_ (blk_below (kN BK488.out) hb)
    have n2_ := m_ (blk_below (kN BK489.out) hb)
    have n3_ := m_ (below_step (bN HB.out) hb)
    clear BK488
    clear BK489
    clear HB
    have HO496 := n0_
    have BK488 := n1_
    have BK489 := n2_
    have HB := n3_
    clear n0_ n1_ n2_ n3_
    (try clear hb)
    (try clear hb2)
    (try clear hk)
    (try clear hi)
    (try clear ho0)
    refine hK.out _ _ ⟨bc BK488 0, bc BK488 1, bc BK488 2, bc BK488 3, bc BK488 4, bc BK489 0, bc BK489 1, bc BK489 2, bc BK489 3, bc BK489 4⟩ (fun hHeld => ?_)
    clear hK K
    refine np (h := ?_)
    refine two_ (i := 3) (j := 8) (Ni := some 25) (Nj := some 6) #[true, true, true, true, false, false, false, false, false, false, false] #[true, true, true, false, false, false, false, false, true, false, false] rfl rfl rfl rfl (two_of HT_.out (by kernel_rfl)) (by decide) (by decide) (fun K hK => ?_) (fun K hK => ?_)
    ·skip
     refine goes_ Try.func21 (by kernel_rfl) rfl #[.agg #[.bool a1_0, .bool a1_1, .bool a1_2, .int .i64 a1_3, .int .i64 a1_4]] (by rfl) rfl rfl gl_ ?_
     with_reducible refine (laws_toFarm.calls a1_0 a1_1 a1_2 a1_3 a1_4 t498 t499 t500 t501 t502 _ A11.out).mono ?_
     rintro e w24 ⟨rfl, hb⟩
     refine ⟨_, rfl, ?_⟩
     have n0_ := m_ (Kd.R_below (rN HO496.out) hb)
     have n1_ := m_ (blk_below (kN BK488.out) hb)
     have n2_ := m_ (blk_below (kN BK489.out) hb)
     have n3_ := m_ (below_step (bN HB.out) hb)
     clear HO496
     clear BK488
     clear BK489
     clear HB
     have HO496 := n0_
     have BK488 := n1_
     have BK489 := n2_
     have HB := n3_
     clear n0_ n1_ n2_ n3_
     (try clear hb)
     (try clear hb2)
     (try clear hk)
     (try clear hi)
     obtain ⟨Ao25, co25, eo25⟩ := Kd.R_slice HO496.out
     (first | subst eo25 | (injection eo25 with f1_ f2_ f3_; have f4_ := f1_.symm; have f5_ := f3_.symm; clear f1_ f2_ f3_; subst f4_; subst f5_))
     refine hK.out _ _ ⟨bc BK488 0, bc BK488 1, bc BK488 2, bc BK488 3, bc BK488 4, bc BK489 0, bc BK489 1, bc BK489 2, bc BK489 3, bc BK489 4⟩ (fun hHeld => ?_)
     clear hK K
     refine np (h := ?_)
     refine two_ (i := 4) (j := 8) (Ni := some 26) (Nj := some 6) #[true, true, true, true, true, false, false, false, false, false, false] #[true, true, true, true, false, false, false, false, true, false, false] rfl rfl rfl rfl (two_of HT_.out (by kernel_rfl)) (by decide) (by decide) (fun K hK => ?_) (fun K hK => ?_)
     ·skip
      refine goes_ Try.func17 (by kernel_rfl) rfl #[.agg #[.int .i64 t491, .int .i64 t492, .int .i64 t493, .slice Ao25 t494.length co25, .bool t497], .agg #[.bool t498, .bool t499, .bool t500, .int .i64 t501, .int .i64 t502]] (by rfl) rfl rfl gl_ ?_
      with_reducible refine (spec_FopHear.calls k t491 t492 t493 _ _ t494 t497 t498 t499 t500 t501 t502 t503 t504 t505 t506 t509 t510 _ ?side1 ?side2 A12.out).mono ?_
      (case side1 => exact cN (Kd.R_reads' HO496.out).2.2)
      (case side2 => exact (Kd.R_reads' HO496.out).2.1)
      rintro e w26 ⟨v507, rfl, ho0, hb⟩
      refine ⟨_, rfl, ?_⟩
      have n0_ := m_ (Kd.R_elder' (rN HO496.out) (Kd.R_base ho0) hb)
      have n1_ := m_ (Kd.R_lower (Kd.R_new' ho0 (Kd.R_lt (rN HO496.out))) (below_size (bN HB.out)))
      have n2_ := m_ (blk_below (kN BK488.out) hb)
      have n3_ := m_ (blk_below (kN BK489.out) hb)
      have n4_ := m_ (below_step (bN HB.out) hb)
      clear HO496
      clear BK488
      clear BK489
      clear HB
      have HO496 := n0_
      have HO508 := n1_
      have BK488 := n2_
      have BK489 := n3_
      have HB := n4_
      clear n0_ n1_ n2_ n3_ n4_
      (try clear hb)
      (try clear hb2)
      (try clear hk)
      (try clear hi)
      (try clear ho0)
      refine hK.out _ _ ⟨bc BK488 0, bc BK488 1, bc BK488 2, bc BK488 3, bc BK488 4, bc BK489 0, bc BK489 1, bc BK489 2, bc BK489 3, bc BK489 4⟩ (fun hHeld => ?_)
      clear hK K
      refine np (h := ?_)
      refine pu 5 21 HT_ (h := ?_)
      refine pu 6 27 HT_ (h := ?_)
      refine pu 7 28 HT_ (h := ?_)
      refine one_ (i := 8) (N := some 6) #[true, true, true, true, true, true, true, true, true, false, false] rfl rfl (one_of HT_.out (by kernel_rfl)) (by decide) (fun K hK => ?_)
      refine box_step ?hg (N := 6) ?hd (cs := #[.int .i64 0, .int .i64 0, .int .i64 0, .slice none 0 0, .bool false]) (t := 25) ?hr ?_; (case hd => rfl); (case hg => rfl); (case hr => first | (go_simp; done) | (go_simp; rfl))
      intro gb511 hg w27 hbox hb
      have n0_ := m_ (Kd.R_below (rN HO496.out) hb)
      have n1_ := m_ (Kd.R_below (rN HO508.out) hb)
      have n2_ := m_ (blk_below (kN BK488.out) hb)
      have n3_ := m_ (blk_below (kN BK489.out) hb)
      have n4_ := m_ (below_step (bN HB.out) hb)
      have n5_ := m_ (hbox)
      have n6_ := m_ ((by rw [hg]; exact (below_size (bN HB.out)) : w.heap.size ≤ gb511))
      have n7_ := m_ ((by rw [hg]; exact (below_size (bN HB.out)) : w.heap.size ≤ gb511))
      have n8_ := m_ (nL hg BK488.out)
      have n9_ := m_ (nG hg BK488.out)
      have n10_ := m_ (nL hg BK489.out)
      have n11_ := m_ (nG hg BK489.out)
      clear HO496
      clear HO508
      clear BK488
      clear BK489
      clear HB
      have HO496 := n0_
      have HO508 := n1_
      have BK488 := n2_
      have BK489 := n3_
      have HB := n4_
      have BK511 := n5_
      have GW511 := n6_
      have GE511 := n7_
      have NB488_511 := n8_
      have NB511_488 := n9_
      have NB489_511 := n10_
      have NB511_489 := n11_
      clear n0_ n1_ n2_ n3_ n4_ n5_ n6_ n7_ n8_ n9_ n10_ n11_
      clear hb hbox hg
      refine hK.out _ _ ⟨bc BK488 0, bc BK488 1, bc BK488 2, bc BK488 3, bc BK488 4, bc BK489 0, bc BK489 1, bc BK489 2, bc BK489 3, bc BK489 4⟩ (fun hHeld => ?_)
      clear hK K
      refine np (h := ?_)
      exact nq (hCont (.slice Ao25 t494.length co25, v507, gb511) _ ⟨hHeld, (rN (Kd.R_mono HO496.out (fun _ hk => hk.2))), (rN (Kd.R_mono HO508.out (fun _ hk => hk.2))), (kN BK488.out), (kN BK489.out), (kN BK511.out), GW511.out, GE511.out, NB488_511.out, NB511_488.out, NB489_511.out, NB511_489.out, (bN HB.out)⟩)
     ·skip
      refine box_step ?hg (N := 6) ?hd (cs := #[.int .i64 0, .int .i64 0, .int .i64 0, .slice none 0 0, .bool false]) (t := 25) ?hr ?_; (case hd => rfl); (case hg => rfl); (case hr => first | (go_simp; done) | (go_simp; rfl))
      intro gb511 hg w25 hbox hb
      have n0_ := m_ (Kd.R_below (rN HO496.out) hb)
      have n1_ := m_ (blk_below (kN BK488.out) hb)
      have n2_ := m_ (blk_below (kN BK489.out) hb)
      have n3_ := m_ (below_step (bN HB.out) hb)
      have n4_ := m_ (hbox)
      have n5_ := m_ ((by rw [hg]; exact (below_size (bN HB.out)) : w.heap.size ≤ gb511))
      have n6_ := m_ ((by rw [hg]; exact (below_size (bN HB.out)) : w.heap.size ≤ gb511))
      have n7_ := m_ (nL hg BK488.out)
      have n8_ := m_ (nG hg BK488.out)
      have n9_ := m_ (nL hg BK489.out)
      have n10_ := m_ (nG hg BK489.out)
      clear HO496
      clear BK488
      clear BK489
      clear HB
      have HO496 := n0_
      have BK488 := n1_
      have BK489 := n2_
      have HB := n3_
      have BK511 := n4_
      have GW511 := n5_
      have GE511 := n6_
      have NB488_511 := n7_
      have NB511_488 := n8_
      have NB489_511 := n9_
      have NB511_489 := n10_
      clear n0_ n1_ n2_ n3_ n4_ n5_ n6_ n7_ n8_ n9_ n10_
      clear hb hbox hg
      obtain ⟨Ao26, co26, eo26⟩ := Kd.R_slice HO496.out
      (first | subst eo26 | (injection eo26 with f1_ f2_ f3_; have f4_ := f1_.symm; have f5_ := f3_.symm; clear f1_ f2_ f3_; subst f4_; subst f5_))
      refine hK.out _ _ ⟨bc BK488 0, bc BK488 1, bc BK488 2, bc BK488 3, bc BK488 4, bc BK489 0, bc BK489 1, bc BK489 2, bc BK489 3, bc BK489 4⟩ (fun hHeld => ?_)
      clear hK K
      refine np (h := ?_)
      refine one_ (i := 4) (N := some 26) #[true, true, true, true, true, false, false, false, true, false, false] rfl rfl (one_of HT_.out (by kernel_rfl)) (by decide) (fun K hK => ?_)
      refine goes_ Try.func17 (by kernel_rfl) rfl #[.agg #[.int .i64 t491, .int .i64 t492, .int .i64 t493, .slice Ao26 t494.length co26, .bool t497], .agg #[.bool t498, .bool t499, .bool t500, .int .i64 t501, .int .i64 t502]] (by rfl) rfl rfl gl_ ?_
      with_reducible refine (spec_FopHear.calls k t491 t492 t493 _ _ t494 t497 t498 t499 t500 t501 t502 t503 t504 t505 t506 t509 t510 _ ?side1 ?side2 A12.out).mono ?_
      (case side1 => exact cN (Kd.R_reads' HO496.out).2.2)
      (case side2 => exact (Kd.R_reads' HO496.out).2.1)
      rintro e w27 ⟨v507, rfl, ho0, hb⟩
      refine ⟨_, rfl, ?_⟩
      have n0_ := m_ (Kd.R_elder' (rN HO496.out) (Kd.R_base ho0) hb)
      have n1_ := m_ (Kd.R_lower (Kd.R_new' ho0 (Kd.R_lt (rN HO496.out))) (below_size (bN HB.out)))
      have n2_ := m_ (blk_below (kN BK488.out) hb)
      have n3_ := m_ (blk_below (kN BK489.out) hb)
      have n4_ := m_ (blk_below (kN BK511.out) hb)
      have n5_ := m_ (below_step (bN HB.out) hb)
      clear HO496
      clear BK488
      clear BK489
      clear BK511
      clear HB
      have HO496 := n0_
      have HO508 := n1_
      have BK488 := n2_
      have BK489 := n3_
      have BK511 := n4_
      have HB := n5_
      clear n0_ n1_ n2_ n3_ n4_ n5_
      (try clear hb)
      (try clear hb2)
      (try clear hk)
      (try clear hi)
      (try clear ho0)
      refine hK.out _ _ ⟨bc BK488 0, bc BK488 1, bc BK488 2, bc BK488 3, bc BK488 4, bc BK489 0, bc BK489 1, bc BK489 2, bc BK489 3, bc BK489 4⟩ (fun hHeld => ?_)
      clear hK K
      refine np (h := ?_)
      refine pu 5 21 HT_ (h := ?_)
      refine pu 6 27 HT_ (h := ?_)
      refine pu 7 28 HT_ (h := ?_)
      exact nq (hCont (.slice Ao26 t494.length co26, v507, gb511) _ ⟨hHeld, (rN (Kd.R_mono HO496.out (fun _ hk => hk.2))), (rN (Kd.R_mono HO508.out (fun _ hk => hk.2))), (kN BK488.out), (kN BK489.out), (kN BK511.out), GW511.out, GE511.out, NB488_511.out, NB511_488.out, NB489_511.out, NB511_489.out, (bN HB.out)⟩)
    ·skip
     refine box_step ?hg (N := 6) ?hd (cs := #[.int .i64 0, .int .i64 0, .int .i64 0, .slice none 0 0, .bool false]) (t := 25) ?hr ?_; (case hd => rfl); (case hg => rfl); (case hr => first | (go_simp; done) | (go_simp; rfl))
     intro gb511 hg w24 hbox hb
     have n0_ := m_ (Kd.R_below (rN HO496.out) hb)
     have n1_ := m_ (blk_below (kN BK488.out) hb)
     have n2_ := m_ (blk_below (kN BK489.out) hb)
     have n3_ := m_ (below_step (bN HB.out) hb)
     have n4_ := m_ (hbox)
     have n5_ := m_ ((by rw [hg]; exact (below_size (bN HB.out)) : w.heap.size ≤ gb511))
     have n6_ := m_ ((by rw [hg]; exact (below_size (bN HB.out)) : w.heap.size ≤ gb511))
     have n7_ := m_ (nL hg BK488.out)
     have n8_ := m_ (nG hg BK488.out)
     have n9_ := m_ (nL hg BK489.out)
     have n10_ := m_ (nG hg BK489.out)
     clear HO496
     clear BK488
     clear BK489
     clear HB
     have HO496 := n0_
     have BK488 := n1_
     have BK489 := n2_
     have HB := n3_
     have BK511 := n4_
     have GW511 := n5_
     have GE511 := n6_
     have NB488_511 := n7_
     have NB511_488 := n8_
     have NB489_511 := n9_
     have NB511_489 := n10_
     clear n0_ n1_ n2_ n3_ n4_ n5_ n6_ n7_ n8_ n9_ n10_
     clear hb hbox hg
     refine hK.out _ _ ⟨bc BK488 0, bc BK488 1, bc BK488 2, bc BK488 3, bc BK488 4, bc BK489 0, bc BK489 1, bc BK489 2, bc BK489 3, bc BK489 4⟩ (fun hHeld => ?_)
     clear hK K
     refine np (h := ?_)
     refine one_ (i := 3) (N := some 25) #[true, true, true, true, false, false, false, false, true, false, false] rfl rfl (one_of HT_.out (by kernel_rfl)) (by decide) (fun K hK => ?_)
     refine goes_ Try.func21 (by kernel_rfl) rfl #[.agg #[.bool a1_0, .bool a1_1, .bool a1_2, .int .i64 a1_3, .int .i64 a1_4]] (by rfl) rfl rfl gl_ ?_
     with_reducible refine (laws_toFarm.calls a1_0 a1_1 a1_2 a1_3 a1_4 t498 t499 t500 t501 t502 _ A11.out).mono ?_
     rintro e w25 ⟨rfl, hb⟩
     refine ⟨_, rfl, ?_⟩
     have n0_ := m_ (Kd.R_below (rN HO496.out) hb)
     have n1_ := m_ (blk_below (kN BK488.out) hb)
     have n2_ := m_ (blk_below (kN BK489.out) hb)
     have n3_ := m_ (blk_below (kN BK511.out) hb)
     have n4_ := m_ (below_step (bN HB.out) hb)
     clear HO496
     clear BK488
     clear BK489
     clear BK511
     clear HB
     have HO496 := n0_
     have BK488 := n1_
     have BK489 := n2_
     have BK511 := n3_
     have HB := n4_
     clear n0_ n1_ n2_ n3_ n4_
     (try clear hb)
     (try clear hb2)
     (try clear hk)
     (try clear hi)
     obtain ⟨Ao26, co26, eo26⟩ := Kd.R_slice HO496.out
     (first | subst eo26 | (injection eo26 with f1_ f2_ f3_; have f4_ := f1_.symm; have f5_ := f3_.symm; clear f1_ f2_ f3_; subst f4_; subst f5_))
     refine hK.out _ _ ⟨bc BK488 0, bc BK488 1, bc BK488 2, bc BK488 3, bc BK488 4, bc BK489 0, bc BK489 1, bc BK489 2, bc BK489 3, bc BK489 4⟩ (fun hHeld => ?_)
     clear hK K
     refine np (h := ?_)
     refine one_ (i := 4) (N := some 26) #[true, true, true, true, true, false, false, false, true, false, false] rfl rfl (one_of HT_.out (by kernel_rfl)) (by decide) (fun K hK => ?_)
     refine goes_ Try.func17 (by kernel_rfl) rfl #[.agg #[.int .i64 t491, .int .i64 t492, .int .i64 t493, .slice Ao26 t494.length co26, .bool t497], .agg #[.bool t498, .bool t499, .bool t500, .int .i64 t501, .int .i64 t502]] (by rfl) rfl rfl gl_ ?_
     with_reducible refine (spec_FopHear.calls k t491 t492 t493 _ _ t494 t497 t498 t499 t500 t501 t502 t503 t504 t505 t506 t509 t510 _ ?side1 ?side2 A12.out).mono ?_
     (case side1 => exact cN (Kd.R_reads' HO496.out).2.2)
     (case side2 => exact (Kd.R_reads' HO496.out).2.1)
     rintro e w27 ⟨v507, rfl, ho0, hb⟩
     refine ⟨_, rfl, ?_⟩
     have n0_ := m_ (Kd.R_elder' (rN HO496.out) (Kd.R_base ho0) hb)
     have n1_ := m_ (Kd.R_lower (Kd.R_new' ho0 (Kd.R_lt (rN HO496.out))) (below_size (bN HB.out)))
     have n2_ := m_ (blk_below (kN BK488.out) hb)
     have n3_ := m_ (blk_below (kN BK489.out) hb)
     have n4_ := m_ (blk_below (kN BK511.out) hb)
     have n5_ := m_ (below_step (bN HB.out) hb)
     clear HO496
     clear BK488
     clear BK489
     clear BK511
     clear HB
     have HO496 := n0_
     have HO508 := n1_
     have BK488 := n2_
     have BK489 := n3_
     have BK511 := n4_
     have HB := n5_
     clear n0_ n1_ n2_ n3_ n4_ n5_
     (try clear hb)
     (try clear hb2)
     (try clear hk)
     (try clear hi)
     (try clear ho0)
     refine hK.out _ _ ⟨bc BK488 0, bc BK488 1, bc BK488 2, bc BK488 3, bc BK488 4, bc BK489 0, bc BK489 1, bc BK489 2, bc BK489 3, bc BK489 4⟩ (fun hHeld => ?_)
     clear hK K
     refine np (h := ?_)
     refine pu 5 21 HT_ (h := ?_)
     refine pu 6 27 HT_ (h := ?_)
     refine pu 7 28 HT_ (h := ?_)
     exact nq (hCont (.slice Ao26 t494.length co26, v507, gb511) _ ⟨hHeld, (rN (Kd.R_mono HO496.out (fun _ hk => hk.2))), (rN (Kd.R_mono HO508.out (fun _ hk => hk.2))), (kN BK488.out), (kN BK489.out), (kN BK511.out), GW511.out, GE511.out, NB488_511.out, NB511_488.out, NB489_511.out, NB511_489.out, (bN HB.out)⟩)
   ·skip
    refine box_step ?hg (N := 6) ?hd (cs := #[.int .i64 0, .int .i64 0, .int .i64 0, .slice none 0 0, .bool false]) (t := 25) ?hr ?_; (case hd => rfl); (case hg => rfl); (case hr => first | (go_simp; done) | (go_simp; rfl))
    intro gb511 hg w23 hbox hb
    have n0_ := m_ (blk_below (kN BK488.out) hb)
    have n1_ := m_ (blk_below (kN BK489.out) hb)
    have n2_ := m_ (below_step (bN HB.out) hb)
    have n3_ := m_ (hbox)
    have n4_ := m_ ((by rw [hg]; exact (below_size (bN HB.out)) : w.heap.size ≤ gb511))
    have n5_ := m_ ((by rw [hg]; exact (below_size (bN HB.out)) : w.heap.size ≤ gb511))
    have n6_ := m_ (nL hg BK488.out)
    have n7_ := m_ (nG hg BK488.out)
    have n8_ := m_ (nL hg BK489.out)
    have n9_ := m_ (nG hg BK489.out)
    clear BK488
    clear BK489
    clear HB
    have BK488 := n0_
    have BK489 := n1_
    have HB := n2_
    have BK511 := n3_
    have GW511 := n4_
    have GE511 := n5_
    have NB488_511 := n6_
    have NB511_488 := n7_
    have NB489_511 := n8_
    have NB511_489 := n9_
    clear n0_ n1_ n2_ n3_ n4_ n5_ n6_ n7_ n8_ n9_
    clear hb hbox hg
    refine hK.out _ _ ⟨bc BK488 0, bc BK488 1, bc BK488 2, bc BK488 3, bc BK488 4, bc BK489 0, bc BK489 1, bc BK489 2, bc BK489 3, bc BK489 4⟩ (fun hHeld => ?_)
    clear hK K
    refine np (h := ?_)
    refine one_ (i := 1) (N := some 23) #[true, true, true, false, false, false, false, false, true, false, false] rfl rfl (one_of HT_.out (by kernel_rfl)) (by decide) (fun K hK => ?_)
    refine goes_ Try.func20 (by kernel_rfl) rfl #[.agg #[.int .i64 a0_0, .int .i64 a0_1, .int .i64 a0_2, .slice A0_3 l0_3.length c0_3, .bool a0_4]] (by rfl) rfl rfl gl_ ?_
    with_reducible refine (laws_toFop.calls k a0_0 a0_1 a0_2 _ _ l0_3 a0_4 t491 t492 t493 t494 t497 _ ?side1 ?side2 A10.out).mono ?_
    (case side1 => exact cN (Kd.C_below HR0_3.out HB.out))
    (case side2 => exact HC0_3.out)
    rintro e w24 ⟨v495, rfl, ho0, hb⟩
    refine ⟨_, rfl, ?_⟩
    have n0_ := m_ (Kd.R_lower ho0 (below_size (bN HB.out)))
    have n1_ := m_ (blk_below (kN BK488.out) hb)
    have n2_ := m_ (blk_below (kN BK489.out) hb)
    have n3_ := m_ (blk_below (kN BK511.out) hb)
    have n4_ := m_ (below_step (bN HB.out) hb)
    clear BK488
    clear BK489
    clear BK511
    clear HB
    have HO496 := n0_
    have BK488 := n1_
    have BK489 := n2_
    have BK511 := n3_
    have HB := n4_
    clear n0_ n1_ n2_ n3_ n4_
    (try clear hb)
    (try clear hb2)
    (try clear hk)
    (try clear hi)
    (try clear ho0)
    refine hK.out _ _ ⟨bc BK488 0, bc BK488 1, bc BK488 2, bc BK488 3, bc BK488 4, bc BK489 0, bc BK489 1, bc BK489 2, bc BK489 3, bc BK489 4⟩ (fun hHeld => ?_)
    clear hK K
    refine np (h := ?_)
    refine one_ (i := 3) (N := some 25) #[true, true, true, true, false, false, false, false, true, false, false] rfl rfl (one_of HT_.out (by kernel_rfl)) (by decide) (fun K hK => ?_)
    refine goes_ Try.func21 (by kernel_rfl) rfl #[.agg #[.bool a1_0, .bool a1_1, .bool a1_2, .int .i64 a1_3, .int .i64 a1_4]] (by rfl) rfl rfl gl_ ?_
    with_reducible refine (laws_toFarm.calls a1_0 a1_1 a1_2 a1_3 a1_4 t498 t499 t500 t501 t502 _ A11.out).mono ?_
    rintro e w25 ⟨rfl, hb⟩
    refine ⟨_, rfl, ?_⟩
    have n0_ := m_ (Kd.R_below (rN HO496.out) hb)
    have n1_ := m_ (blk_below (kN BK488.out) hb)
    have n2_ := m_ (blk_below (kN BK489.out) hb)
    have n3_ := m_ (blk_below (kN BK511.out) hb)
    have n4_ := m_ (below_step (bN HB.out) hb)
    clear HO496
    clear BK488
    clear BK489
    clear BK511
    clear HB
    have HO496 := n0_
    have BK488 := n1_
    have BK489 := n2_
    have BK511 := n3_
    have HB := n4_
    clear n0_ n1_ n2_ n3_ n4_
    (try clear hb)
    (try clear hb2)
    (try clear hk)
    (try clear hi)
    obtain ⟨Ao26, co26, eo26⟩ := Kd.R_slice HO496.out
    (first | subst eo26 | (injection eo26 with f1_ f2_ f3_; have f4_ := f1_.symm; have f5_ := f3_.symm; clear f1_ f2_ f3_; subst f4_; subst f5_))
    refine hK.out _ _ ⟨bc BK488 0, bc BK488 1, bc BK488 2, bc BK488 3, bc BK488 4, bc BK489 0, bc BK489 1, bc BK489 2, bc BK489 3, bc BK489 4⟩ (fun hHeld => ?_)
    clear hK K
    refine np (h := ?_)
    refine one_ (i := 4) (N := some 26) #[true, true, true, true, true, false, false, false, true, false, false] rfl rfl (one_of HT_.out (by kernel_rfl)) (by decide) (fun K hK => ?_)
    refine goes_ Try.func17 (by kernel_rfl) rfl #[.agg #[.int .i64 t491, .int .i64 t492, .int .i64 t493, .slice Ao26 t494.length co26, .bool t497], .agg #[.bool t498, .bool t499, .bool t500, .int .i64 t501, .int .i64 t502]] (by rfl) rfl rfl gl_ ?_
    with_reducible refine (spec_FopHear.calls k t491 t492 t493 _ _ t494 t497 t498 t499 t500 t501 t502 t503 t504 t505 t506 t509 t510 _ ?side1 ?side2 A12.out).mono ?_
    (case side1 => exact cN (Kd.R_reads' HO496.out).2.2)
    (case side2 => exact (Kd.R_reads' HO496.out).2.1)
    rintro e w27 ⟨v507, rfl, ho0, hb⟩
    refine ⟨_, rfl, ?_⟩
    have n0_ := m_ (Kd.R_elder' (rN HO496.out) (Kd.R_base ho0) hb)
    have n1_ := m_ (Kd.R_lower (Kd.R_new' ho0 (Kd.R_lt (rN HO496.out))) (below_size (bN HB.out)))
    have n2_ := m_ (blk_below (kN BK488.out) hb)
    have n3_ := m_ (blk_below (kN BK489.out) hb)
    have n4_ := m_ (blk_below (kN BK511.out) hb)
    have n5_ := m_ (below_step (bN HB.out) hb)
    clear HO496
    clear BK488
    clear BK489
    clear BK511
    clear HB
    have HO496 := n0_
    have HO508 := n1_
    have BK488 := n2_
    have BK489 := n3_
    have BK511 := n4_
    have HB := n5_
    clear n0_ n1_ n2_ n3_ n4_ n5_
    (try clear hb)
    (try clear hb2)
    (try clear hk)
    (try clear hi)
    (try clear ho0)
    refine hK.out _ _ ⟨bc BK488 0, bc BK488 1, bc BK488 2, bc BK488 3, bc BK488 4, bc BK489 0, bc BK489 1, bc BK489 2, bc BK489 3, bc BK489 4⟩ (fun hHeld => ?_)
    clear hK K
    refine np (h := ?_)
    refine pu 5 21 HT_ (h := ?_)
    refine pu 6 27 HT_ (h := ?_)
    refine pu 7 28 HT_ (h := ?_)
    exact nq (hCont (.slice Ao26 t494.length co26, v507, gb511) _ ⟨hHeld, (rN (Kd.R_mono HO496.out (fun _ hk => hk.2))), (rN (Kd.R_mono HO508.out (fun _ hk => hk.2))), (kN BK488.out), (kN BK489.out), (kN BK511.out), GW511.out, GE511.out, NB488_511.out, NB511_488.out, NB489_511.out, NB511_489.out, (bN HB.out)⟩)
  rintro ⟨v495, v507, gb511⟩ w28 ⟨hS_, h0_, h1_, h2_, h3_, h4_, h5_, h6_, h7_, h8_, h9_, h10_, h11_⟩
  have n0_ : Aside0 (Kd.R Kd.string 9 w28 w.heap.size (fun k_ => some k_ ≠ (v507 : Value).ownBlock) v495 t494) := ⟨h0_⟩
  have n1_ : Aside0 (Kd.R Kd.string 9 w28 w.heap.size (fun k_ => some k_ ≠ (v495 : Value).ownBlock) v507 t506) := ⟨h1_⟩
  have n2_ : Aside0 (w28.heap[gb488]? = some (.cells #[.int .i64 a0_0, .int .i64 a0_1, .int .i64 a0_2, .slice A0_3 l0_3.length c0_3, .bool a0_4] 45 (0, 0))) := ⟨h2_⟩
  have n3_ : Aside0 (w28.heap[gb489]? = some (.cells #[.bool a1_0, .bool a1_1, .bool a1_2, .int .i64 a1_3, .int .i64 a1_4] 46 (0, 0))) := ⟨h3_⟩
  have n4_ : Aside0 (w28.heap[gb511]? = some (.cells #[.int .i64 0, .int .i64 0, .int .i64 0, .slice none 0 0, .bool false] 25 (0, 0))) := ⟨h4_⟩
  have n5_ : Aside0 (w.heap.size ≤ gb511) := ⟨h5_⟩
  have n6_ : Aside0 (w.heap.size ≤ gb511) := ⟨h6_⟩
  have n7_ : Aside0 (gb488 ≠ gb511) := ⟨h7_⟩
  have n8_ : Aside0 (gb511 ≠ gb488) := ⟨h8_⟩
  have n9_ : Aside0 (gb489 ≠ gb511) := ⟨h9_⟩
  have n10_ : Aside0 (gb511 ≠ gb489) := ⟨h10_⟩
  have n11_ : Aside0 (Below w.heap.size w w28) := ⟨h11_⟩
  clear BK488
  clear BK489
  clear HB
  clear h0_ h1_ h2_ h3_ h4_ h5_ h6_ h7_ h8_ h9_ h10_ h11_
  have HO496 := n0_
  have HO508 := n1_
  have BK488 := n2_
  have BK489 := n3_
  have BK511 := n4_
  have GW511 := n5_
  have GE511 := n6_
  have NB488_511 := n7_
  have NB511_488 := n8_
  have NB489_511 := n9_
  have NB511_489 := n10_
  have HB := n11_
  clear n0_ n1_ n2_ n3_ n4_ n5_ n6_ n7_ n8_ n9_ n10_ n11_
  have hHeld : w28.cell? ⟨gb488, 0, none⟩ = some (.int .i64 a0_0) ∧ w28.cell? ⟨gb488, 1, none⟩ = some (.int .i64 a0_1) ∧ w28.cell? ⟨gb488, 2, none⟩ = some (.int .i64 a0_2) ∧ w28.cell? ⟨gb488, 3, none⟩ = some (.slice A0_3 l0_3.length c0_3) ∧ w28.cell? ⟨gb488, 4, none⟩ = some (.bool a0_4) ∧ w28.cell? ⟨gb489, 0, none⟩ = some (.bool a1_0) ∧ w28.cell? ⟨gb489, 1, none⟩ = some (.bool a1_1) ∧ w28.cell? ⟨gb489, 2, none⟩ = some (.bool a1_2) ∧ w28.cell? ⟨gb489, 3, none⟩ = some (.int .i64 a1_3) ∧ w28.cell? ⟨gb489, 4, none⟩ = some (.int .i64 a1_4) := hS_
  obtain ⟨Ao32, co32, eo32⟩ := Kd.R_slice HO508.out
  (first | subst eo32 | (injection eo32 with f1_ f2_ f3_; have f4_ := f1_.symm; have f5_ := f3_.symm; clear f1_ f2_ f3_; subst f4_; subst f5_))
  refine norm_ (a' := ?_) ?_ ?_
  rotate_left
  ·simp only [putAll, Act.put, List.setIfInBounds_toArray, List.set_cons_zero, List.set_cons_succ]
   rfl
  refine one_ (i := 9) (N := none) #[true, true, true, true, true, true, true, true, true, true, false] rfl rfl (one_of HT_.out (by kernel_rfl)) (by decide) (fun K hK => ?_)
  have hs29 : w28.cell? ⟨gb511, 0, none⟩ = some (.int .i64 0) := bc BK511 0
  have hfs29 := blk_frozen BK511.out 0
  have hns29_0 := NB488_511.out
  have hns29_1 := NB489_511.out
  have hms29_0 := NB511_488.out
  have hms29_1 := NB511_489.out
  have hs30 : w28.cell? ⟨gb511, 1, none⟩ = some (.int .i64 0) := bc BK511 1
  have hfs30 := blk_frozen BK511.out 1
  have hns30_0 := NB488_511.out
  have hns30_1 := NB489_511.out
  have hms30_0 := NB511_488.out
  have hms30_1 := NB511_489.out
  have hs31 : w28.cell? ⟨gb511, 2, none⟩ = some (.int .i64 0) := bc BK511 2
  have hfs31 := blk_frozen BK511.out 2
  have hns31_0 := NB488_511.out
  have hns31_1 := NB489_511.out
  have hms31_0 := NB511_488.out
  have hms31_1 := NB511_489.out
  have hs33 : w28.cell? ⟨gb511, 3, none⟩ = some (.slice none 0 0) := bc BK511 3
  have hfs33 := blk_frozen BK511.out 3
  have hns33_0 := NB488_511.out
  have hns33_1 := NB489_511.out
  have hms33_0 := NB511_488.out
  have hms33_1 := NB511_489.out
  have hs34 : w28.cell? ⟨gb511, 4, none⟩ = some (.bool false) := bc BK511 4
  have hfs34 := blk_frozen BK511.out 4
  have hns34_0 := NB488_511.out
  have hns34_1 := NB489_511.out
  have hms34_0 := NB511_488.out
  have hms34_1 := NB511_489.out
  refine skip_ (w1 := ?_) (by rfl) rfl ?_ ?_
  rotate_left
  ·go_simp
   rfl
  refine hK.out _ _ ⟨((cell_far (p := ⟨gb511, _, none⟩) NB488_511.out _).trans (((cell_far (p := ⟨gb511, _, none⟩) NB488_511.out _).trans (((cell_far (p := ⟨gb511, _, none⟩) NB488_511.out _).trans (((cell_far (p := ⟨gb511, _, none⟩) NB488_511.out _).trans (((cell_far (p := ⟨gb511, _, none⟩) NB488_511.out _).trans (hHeld.1)))))))))), ((cell_far (p := ⟨gb511, _, none⟩) NB488_511.out _).trans (((cell_far (p := ⟨gb511, _, none⟩) NB488_511.out _).trans (((cell_far (p := ⟨gb511, _, none⟩) NB488_511.out _).trans (((cell_far (p := ⟨gb511, _, none⟩) NB488_511.out _).trans (((cell_far (p := ⟨gb511, _, none⟩) NB488_511.out _).trans (hHeld.2.1)))))))))), ((cell_far (p := ⟨gb511, _, none⟩) NB488_511.out _).trans (((cell_far (p := ⟨gb511, _, none⟩) NB488_511.out _).trans (((cell_far (p := ⟨gb511, _, none⟩) NB488_511.out _).trans (((cell_far (p := ⟨gb511, _, none⟩) NB488_511.out _).trans (((cell_far (p := ⟨gb511, _, none⟩) NB488_511.out _).trans (hHeld.2.2.1)))))))))), ((cell_far (p := ⟨gb511, _, none⟩) NB488_511.out _).trans (((cell_far (p := ⟨gb511, _, none⟩) NB488_511.out _).trans (((cell_far (p := ⟨gb511, _, none⟩) NB488_511.out _).trans (((cell_far (p := ⟨gb511, _, none⟩) NB488_511.out _).trans (((cell_far (p := ⟨gb511, _, none⟩) NB488_511.out _).trans (hHeld.2.2.2.1)))))))))), ((cell_far (p := ⟨gb511, _, none⟩) NB488_511.out _).trans (((cell_far (p := ⟨gb511, _, none⟩) NB488_511.out _).trans (((cell_far (p := ⟨gb511, _, none⟩) NB488_511.out _).trans (((cell_far (p := ⟨gb511, _, none⟩) NB488_511.out _).trans (((cell_far (p := ⟨gb511, _, none⟩) NB488_511.out _).trans (hHeld.2.2.2.2.1)))))))))), ((cell_far (p := ⟨gb511, _, none⟩) NB489_511.out _).trans (((cell_far (p := ⟨gb511, _, none⟩) NB489_511.out _).trans (((cell_far (p := ⟨gb511, _, none⟩) NB489_511.out _).trans (((cell_far (p := ⟨gb511, _, none⟩) NB489_511.out _).trans (((cell_far (p := ⟨gb511, _, none⟩) NB489_511.out _).trans (hHeld.2.2.2.2.2.1)))))))))), ((cell_far (p := ⟨gb511, _, none⟩) NB489_511.out _).trans (((cell_far (p := ⟨gb511, _, none⟩) NB489_511.out _).trans (((cell_far (p := ⟨gb511, _, none⟩) NB489_511.out _).trans (((cell_far (p := ⟨gb511, _, none⟩) NB489_511.out _).trans (((cell_far (p := ⟨gb511, _, none⟩) NB489_511.out _).trans (hHeld.2.2.2.2.2.2.1)))))))))), ((cell_far (p := ⟨gb511, _, none⟩) NB489_511.out _).trans (((cell_far (p := ⟨gb511, _, none⟩) NB489_511.out _).trans (((cell_far (p := ⟨gb511, _, none⟩) NB489_511.out _).trans (((cell_far (p := ⟨gb511, _, none⟩) NB489_511.out _).trans (((cell_far (p := ⟨gb511, _, none⟩) NB489_511.out _).trans (hHeld.2.2.2.2.2.2.2.1)))))))))), ((cell_far (p := ⟨gb511, _, none⟩) NB489_511.out _).trans (((cell_far (p := ⟨gb511, _, none⟩) NB489_511.out _).trans (((cell_far (p := ⟨gb511, _, none⟩) NB489_511.out _).trans (((cell_far (p := ⟨gb511, _, none⟩) NB489_511.out _).trans (((cell_far (p := ⟨gb511, _, none⟩) NB489_511.out _).trans (hHeld.2.2.2.2.2.2.2.2.1)))))))))), ((cell_far (p := ⟨gb511, _, none⟩) NB489_511.out _).trans (((cell_far (p := ⟨gb511, _, none⟩) NB489_511.out _).trans (((cell_far (p := ⟨gb511, _, none⟩) NB489_511.out _).trans (((cell_far (p := ⟨gb511, _, none⟩) NB489_511.out _).trans (((cell_far (p := ⟨gb511, _, none⟩) NB489_511.out _).trans (hHeld.2.2.2.2.2.2.2.2.2))))))))))⟩ (fun hHeld => ?_)
  clear hK K
  refine pu 10 7 HT_ (h := ?_)
  refine done_ (done_of HT_.out (by kernel_rfl)) ?_
  have hnb35 := NB488_511.out
  have hnc35 := NB511_488.out
  have hcz36_0 : w28.cell? ⟨gb488, 0, none⟩ = some (.int .i64 a0_0) := bc BK488 0
  have hcz36_1 : w28.cell? ⟨gb488, 1, none⟩ = some (.int .i64 a0_1) := bc BK488 1
  have hcz36_2 : w28.cell? ⟨gb488, 2, none⟩ = some (.int .i64 a0_2) := bc BK488 2
  have hcz36_3 : w28.cell? ⟨gb488, 3, none⟩ = some (.slice A0_3 l0_3.length c0_3) := bc BK488 3
  have hcz36_4 : w28.cell? ⟨gb488, 4, none⟩ = some (.bool a0_4) := bc BK488 4
  have hfz36_0 := blk_frozen BK488.out 0
  have hfz36_1 := blk_frozen BK488.out 1
  have hfz36_2 := blk_frozen BK488.out 2
  have hfz36_3 := blk_frozen BK488.out 3
  have hfz36_4 := blk_frozen BK488.out 4
  try go_wp2_with (first | ((with_reducible refine gate_callee (f := 20) rfl ?_); refine goesL_ (some 30) rfl rfl Try.func20 (by kernel_rfl) rfl #[.agg #[.int .i64 a0_0, .int .i64 a0_1, .int .i64 a0_2, .slice A0_3 l0_3.length c0_3, .bool a0_4]] rfl gl_ ?_; (with_reducible refine (laws_toFop.calls k a0_0 a0_1 a0_2 _ _ l0_3 a0_4 t512 t513 t514 t515 t518 _ ?side1 ?side2 A13.out).mono ?_); (case side1 => exact Kd.C_below HR0_3.out (bN HB.out)); (case side2 => exact HC0_3.out); rintro e w37 ⟨v516, rfl, ho0, hb⟩; refine ⟨_, rfl, ?_⟩; have n0_ := m_ (Kd.R_elder' (frN (Kd.R_types HO496.out BK511.out (by decide))) (Kd.R_base ho0) hb); have n1_ := m_ (Kd.R_elder' (frN (Kd.R_types HO508.out BK511.out (by decide))) (Kd.R_base ho0) hb); have n2_ := m_ (Kd.R_lower (Kd.R_new' (Kd.R_new' ho0 (Kd.R_lt (frN (Kd.R_types HO496.out BK511.out (by decide))))) (Kd.R_lt (frN (Kd.R_types HO508.out BK511.out (by decide))))) (below_size (bN HB.out))); have n3_ := m_ (blk_below (g := gb488) (o := .cells #[.int .i64 a0_0, .int .i64 a0_1, .int .i64 a0_2, .slice A0_3 l0_3.length c0_3, .bool a0_4] 45 (0, 0)) (kF BK488.out NB488_511.out) hb); have n4_ := m_ (blk_below (g := gb489) (o := .cells #[.bool a1_0, .bool a1_1, .bool a1_2, .int .i64 a1_3, .int .i64 a1_4] 46 (0, 0)) (kF BK489.out NB489_511.out) hb); have n5_ := m_ (blk_below (g := gb511) (o := .cells #[.int .i64 t503, .int .i64 t504, .int .i64 t505, .slice Ao32 t506.length co32, .bool t509] 25 (0, 0)) (kP BK511.out) hb); have n6_ := m_ (below_step (bN HB.out) hb); clear HO496; clear HO508; clear BK488; clear BK489; clear BK511; clear HB; have HO496 := n0_; have HO508 := n1_; have HO517 := n2_; have BK488 := n3_; have BK489 := n4_; have BK511 := n5_; have HB := n6_; clear n0_ n1_ n2_ n3_ n4_ n5_ n6_; (try clear hb); (try clear hb2); (try clear hk); (try clear hi); (try clear ho0)) | ((with_reducible refine gate_dst (N := 8) rfl ?_); refine box_event ?hg (N := 8) ?hd (cs := #[.int .i64 0, .int .i64 0, .int .i64 0, .slice none 0 0, .bool false]) (t := 25) ?hr ?_; (case hd => rfl); (case hg => rfl); (case hr => first | (go_simp; done) | (go_simp; rfl)); intro gb519 hg w38 hbox hb; have n0_ := m_ (Kd.R_below (rN HO496.out) hb); have n1_ := m_ (Kd.R_below (rN HO508.out) hb); have n2_ := m_ (Kd.R_below (rN HO517.out) hb); have n3_ := m_ (blk_below (kN BK488.out) hb); have n4_ := m_ (blk_below (kN BK489.out) hb); have n5_ := m_ (blk_below (kN BK511.out) hb); have n6_ := m_ (below_step (bN HB.out) hb); have n7_ := m_ (hbox); have n8_ := m_ ((by rw [hg]; exact (below_size (bN HB.out)) : w.heap.size ≤ gb519)); have n9_ := m_ ((by rw [hg]; exact (below_size (bN HB.out)) : w.heap.size ≤ gb519)); have n10_ := m_ (nL hg BK488.out); have n11_ := m_ (nG hg BK488.out); have n12_ := m_ (nL hg BK489.out); have n13_ := m_ (nG hg BK489.out); have n14_ := m_ (nL hg BK511.out); have n15_ := m_ (nG hg BK511.out); clear HO496; clear HO508; clear HO517; clear BK488; clear BK489; clear BK511; clear HB; have HO496 := n0_; have HO508 := n1_; have HO517 := n2_; have BK488 := n3_; have BK489 := n4_; have BK511 := n5_; have HB := n6_; have BK519 := n7_; have GW519 := n8_; have GE519 := n9_; have NB488_519 := n10_; have NB519_488 := n11_; have NB489_519 := n12_; have NB519_489 := n13_; have NB511_519 := n14_; have NB519_511 := n15_; clear n0_ n1_ n2_ n3_ n4_ n5_ n6_ n7_ n8_ n9_ n10_ n11_ n12_ n13_ n14_ n15_; clear hb hbox hg; have hnb39 := NB519_488.out; have hnc39 := NB488_519.out; have hnb40 := NB519_489.out; have hnc40 := NB489_519.out; have hnb41 := NB519_511.out; have hnc41 := NB511_519.out; have hcz42_0 : w38.cell? ⟨gb519, 0, none⟩ = some (.int .i64 0) := bc BK519 0; have hcz42_1 : w38.cell? ⟨gb519, 1, none⟩ = some (.int .i64 0) := bc BK519 1; have hcz42_2 : w38.cell? ⟨gb519, 2, none⟩ = some (.int .i64 0) := bc BK519 2; have hcz42_3 : w38.cell? ⟨gb519, 3, none⟩ = some (.slice none 0 0) := bc BK519 3; have hcz42_4 : w38.cell? ⟨gb519, 4, none⟩ = some (.bool false) := bc BK519 4; have hfz42_0 := blk_frozen BK519.out 0; have hfz42_1 := blk_frozen BK519.out 1; have hfz42_2 := blk_frozen BK519.out 2; have hfz42_3 := blk_frozen BK519.out 3; have hfz42_4 := blk_frozen BK519.out 4; obtain ⟨Ao43, co43, eo43⟩ := Kd.R_slice HO517.out; subst eo43))
  have n0_ : Aside0 (Kd.R Kd.string 9 (((((w38.setCell ⟨gb519, 0, none⟩ (.int .i64 t512)).setCell ⟨gb519, 1, none⟩ (.int .i64 t513)).setCell ⟨gb519, 2, none⟩ (.int .i64 t514)).setCell ⟨gb519, 3, none⟩ (.slice Ao43 t515.length co43)).setCell ⟨gb519, 4, none⟩ (.bool t518)) w.heap.size (fun k_ => nb Ao32 t506.length co32 k_ ∧ nb Ao43 t515.length co43 k_) v495 t494) := ⟨by (with_reducible repeat (first | apply Kd.R_alloc | apply Kd.R_drewN | apply Kd.R_drew)); exact frM (Kd.R_types HO496.out BK519.out (by decide))⟩
  have n1_ : Aside0 (Kd.R Kd.string 9 (((((w38.setCell ⟨gb519, 0, none⟩ (.int .i64 t512)).setCell ⟨gb519, 1, none⟩ (.int .i64 t513)).setCell ⟨gb519, 2, none⟩ (.int .i64 t514)).setCell ⟨gb519, 3, none⟩ (.slice Ao43 t515.length co43)).setCell ⟨gb519, 4, none⟩ (.bool t518)) w.heap.size (fun k_ => some k_ ≠ (v495 : Value).ownBlock ∧ nb Ao43 t515.length co43 k_) (.slice Ao32 t506.length co32) t506) := ⟨by (with_reducible repeat (first | apply Kd.R_alloc | apply Kd.R_drewN | apply Kd.R_drew)); exact frM (Kd.R_types HO508.out BK519.out (by decide))⟩
  have n2_ : Aside0 (Kd.R Kd.string 9 (((((w38.setCell ⟨gb519, 0, none⟩ (.int .i64 t512)).setCell ⟨gb519, 1, none⟩ (.int .i64 t513)).setCell ⟨gb519, 2, none⟩ (.int .i64 t514)).setCell ⟨gb519, 3, none⟩ (.slice Ao43 t515.length co43)).setCell ⟨gb519, 4, none⟩ (.bool t518)) w.heap.size (fun k_ => some k_ ≠ (v495 : Value).ownBlock ∧ nb Ao32 t506.length co32 k_) (.slice Ao43 t515.length co43) t515) := ⟨by (with_reducible repeat (first | apply Kd.R_alloc | apply Kd.R_drewN | apply Kd.R_drew)); exact frM (Kd.R_types HO517.out BK519.out (by decide))⟩
  have n3_ : Aside0 ((((((w38.setCell ⟨gb519, 0, none⟩ (.int .i64 t512)).setCell ⟨gb519, 1, none⟩ (.int .i64 t513)).setCell ⟨gb519, 2, none⟩ (.int .i64 t514)).setCell ⟨gb519, 3, none⟩ (.slice Ao43 t515.length co43)).setCell ⟨gb519, 4, none⟩ (.bool t518)).heap[gb488]? = some (.cells #[.int .i64 a0_0, .int .i64 a0_1, .int .i64 a0_2, .slice A0_3 l0_3.length c0_3, .bool a0_4] 45 (0, 0))) := ⟨kF BK488.out NB488_519.out⟩
  have n4_ : Aside0 ((((((w38.setCell ⟨gb519, 0, none⟩ (.int .i64 t512)).setCell ⟨gb519, 1, none⟩ (.int .i64 t513)).setCell ⟨gb519, 2, none⟩ (.int .i64 t514)).setCell ⟨gb519, 3, none⟩ (.slice Ao43 t515.length co43)).setCell ⟨gb519, 4, none⟩ (.bool t518)).heap[gb489]? = some (.cells #[.bool a1_0, .bool a1_1, .bool a1_2, .int .i64 a1_3, .int .i64 a1_4] 46 (0, 0))) := ⟨kF BK489.out NB489_519.out⟩
  have n5_ : Aside0 ((((((w38.setCell ⟨gb519, 0, none⟩ (.int .i64 t512)).setCell ⟨gb519, 1, none⟩ (.int .i64 t513)).setCell ⟨gb519, 2, none⟩ (.int .i64 t514)).setCell ⟨gb519, 3, none⟩ (.slice Ao43 t515.length co43)).setCell ⟨gb519, 4, none⟩ (.bool t518)).heap[gb511]? = some (.cells #[.int .i64 t503, .int .i64 t504, .int .i64 t505, .slice Ao32 t506.length co32, .bool t509] 25 (0, 0))) := ⟨kF BK511.out NB511_519.out⟩
  have n6_ : Aside0 ((((((w38.setCell ⟨gb519, 0, none⟩ (.int .i64 t512)).setCell ⟨gb519, 1, none⟩ (.int .i64 t513)).setCell ⟨gb519, 2, none⟩ (.int .i64 t514)).setCell ⟨gb519, 3, none⟩ (.slice Ao43 t515.length co43)).setCell ⟨gb519, 4, none⟩ (.bool t518)).heap[gb519]? = some (.cells #[.int .i64 t512, .int .i64 t513, .int .i64 t514, .slice Ao43 t515.length co43, .bool t518] 25 (0, 0))) := ⟨kP BK519.out⟩
  have n7_ : Aside0 (Below w.heap.size w (((((w38.setCell ⟨gb519, 0, none⟩ (.int .i64 t512)).setCell ⟨gb519, 1, none⟩ (.int .i64 t513)).setCell ⟨gb519, 2, none⟩ (.int .i64 t514)).setCell ⟨gb519, 3, none⟩ (.slice Ao43 t515.length co43)).setCell ⟨gb519, 4, none⟩ (.bool t518))) := ⟨by repeat (first | (with_reducible first | exact HB.out | apply below_alloc | apply pw_below_drewN | apply below_drew1 | refine below_set ?_ GE488.out | refine below_set ?_ GE489.out | refine below_set ?_ GE511.out | refine below_set ?_ GE519.out) | exact HB.out)⟩
  (try clear HO496)
  (try clear HO508)
  (try clear HO517)
  (try clear BK488)
  (try clear BK489)
  (try clear BK511)
  (try clear BK519)
  (try clear HB)
  generalize (((((w38.setCell ⟨gb519, 0, none⟩ (.int .i64 t512)).setCell ⟨gb519, 1, none⟩ (.int .i64 t513)).setCell ⟨gb519, 2, none⟩ (.int .i64 t514)).setCell ⟨gb519, 3, none⟩ (.slice Ao43 t515.length co43)).setCell ⟨gb519, 4, none⟩ (.bool t518)) = w44 at n0_ n1_ n2_ n3_ n4_ n5_ n6_ n7_ ⊢
  have HO496 := n0_
  have HO508 := n1_
  have HO517 := n2_
  have BK488 := n3_
  have BK489 := n4_
  have BK511 := n5_
  have BK519 := n6_
  have HB := n7_
  clear n0_ n1_ n2_ n3_ n4_ n5_ n6_ n7_
  have n0_ := m_ (Kd.R_drew HO496.out)
  have n1_ := m_ (Kd.R_drew HO508.out)
  have n2_ := m_ (Kd.R_drew HO517.out)
  have n3_ := m_ (blk_drew BK488.out)
  have n4_ := m_ (blk_drew BK489.out)
  have n5_ := m_ (blk_drew BK511.out)
  have n6_ := m_ (blk_drew BK519.out)
  have n7_ := m_ (below_drew1 HB.out)
  clear HO496
  clear HO508
  clear HO517
  clear BK488
  clear BK489
  clear BK511
  clear BK519
  clear HB
  have HO496 := n0_
  have HO508 := n1_
  have HO517 := n2_
  have BK488 := n3_
  have BK489 := n4_
  have BK511 := n5_
  have BK519 := n6_
  have HB := n7_
  clear n0_ n1_ n2_ n3_ n4_ n5_ n6_ n7_
  refine start_ (n := 10) (S := fun w' => w'.cell? ⟨gb519, 0, none⟩ = some (.int .i64 t512) ∧ w'.cell? ⟨gb519, 1, none⟩ = some (.int .i64 t513) ∧ w'.cell? ⟨gb519, 2, none⟩ = some (.int .i64 t514) ∧ w'.cell? ⟨gb519, 3, none⟩ = some (.slice Ao43 t515.length co43) ∧ w'.cell? ⟨gb519, 4, none⟩ = some (.bool t518) ∧ w'.cell? ⟨gb489, 0, none⟩ = some (.bool a1_0) ∧ w'.cell? ⟨gb489, 1, none⟩ = some (.bool a1_1) ∧ w'.cell? ⟨gb489, 2, none⟩ = some (.bool a1_2) ∧ w'.cell? ⟨gb489, 3, none⟩ = some (.int .i64 a1_3) ∧ w'.cell? ⟨gb489, 4, none⟩ = some (.int .i64 a1_4)) (ds := []) #[false, false, false, false, false, false, false, false, false, false] (by kernel_rfl) rfl rfl ⟨bc BK519 0, bc BK519 1, bc BK519 2, bc BK519 3, bc BK519 4, bc BK489 0, bc BK489 1, bc BK489 2, bc BK489 3, bc BK489 4⟩ (fun hHeld => ?_); refine with_tabW laws_FnExactFopHear.tab7 laws_FnExactFopHear.bits7 (fun HT_ HW_ => ?_)
  generalize w44.drew = w45 at HO496 HO508 HO517 BK488 BK489 BK511 BK519 HB hHeld ⊢
  refine take_ (i := 0) (N := some 32) (v := ?_) (a' := ?_) #[true, false, false, false, false, false, false, false, false, false] rfl rfl (take_ofW HT_.out HW_.out (by kernel_rfl)) (fun _ _ _ h => h) (Or.inl ⟨by rfl, ?_⟩) hHeld ?_ ?_
  rotate_left
  ·rintro w' ⟨s0, s1, s2, s3, s4, s5, s6, s7, s8, s9⟩
   go_simp
   with_reducible rfl
  rotate_left
  ·simp only [Act.put, List.setIfInBounds_toArray, List.set_cons_zero, List.set_cons_succ, i64_w, i32_w]
   rfl
  refine take_ (i := 1) (N := some 33) (v := ?_) (a' := ?_) #[true, true, false, false, false, false, false, false, false, false] rfl rfl (take_ofW HT_.out HW_.out (by kernel_rfl)) (fun _ _ _ h => h) (Or.inl ⟨by rfl, ?_⟩) hHeld ?_ ?_
  rotate_left
  ·rintro w' ⟨s0, s1, s2, s3, s4, s5, s6, s7, s8, s9⟩
   go_simp
   with_reducible rfl
  rotate_left
  ·simp only [Act.put, List.setIfInBounds_toArray, List.set_cons_zero, List.set_cons_succ, i64_w, i32_w]
   rfl
  refine join_ (σ := Value × Nat) 2 #[true, true, true, true, true, true, true, true, false, false] (fun s_ => [(34, .agg #[.bool t520, .bool t521, .bool t522, .int .i64 t523, .int .i64 t524]), (35, .tuple #[.agg #[.int .i64 t525, .int .i64 t526, .int .i64 t527, s_.1, .bool t531], .bool t532]), (9, .pointer (some ⟨s_.2, 0, none⟩)), (31, .tuple #[.agg #[.int .i64 t525, .int .i64 t526, .int .i64 t527, s_.1, .bool t531], .bool t532]), (36, .agg #[.int .i64 t525, .int .i64 t526, .int .i64 t527, s_.1, .bool t531]), (37, .bool t532)]) (fun s_ w' => (w'.cell? ⟨gb519, 0, none⟩ = some (.int .i64 t512) ∧ w'.cell? ⟨gb519, 1, none⟩ = some (.int .i64 t513) ∧ w'.cell? ⟨gb519, 2, none⟩ = some (.int .i64 t514) ∧ w'.cell? ⟨gb519, 3, none⟩ = some (.slice Ao43 t515.length co43) ∧ w'.cell? ⟨gb519, 4, none⟩ = some (.bool t518) ∧ w'.cell? ⟨gb489, 0, none⟩ = some (.bool a1_0) ∧ w'.cell? ⟨gb489, 1, none⟩ = some (.bool a1_1) ∧ w'.cell? ⟨gb489, 2, none⟩ = some (.bool a1_2) ∧ w'.cell? ⟨gb489, 3, none⟩ = some (.int .i64 a1_3) ∧ w'.cell? ⟨gb489, 4, none⟩ = some (.int .i64 a1_4)) ∧ (Kd.R Kd.string 9 w' w.heap.size (fun k_ => nb Ao32 t506.length co32 k_ ∧ nb Ao43 t515.length co43 k_ ∧ some k_ ≠ (s_.1 : Value).ownBlock) v495 t494) ∧ (Kd.R Kd.string 9 w' w.heap.size (fun k_ => some k_ ≠ (v495 : Value).ownBlock ∧ nb Ao43 t515.length co43 k_ ∧ some k_ ≠ (s_.1 : Value).ownBlock) (.slice Ao32 t506.length co32) t506) ∧ (Kd.R Kd.string 9 w' w.heap.size (fun k_ => some k_ ≠ (v495 : Value).ownBlock ∧ nb Ao32 t506.length co32 k_ ∧ some k_ ≠ (s_.1 : Value).ownBlock) (.slice Ao43 t515.length co43) t515) ∧ (Kd.R Kd.string 9 w' w.heap.size (fun k_ => some k_ ≠ (v495 : Value).ownBlock ∧ nb Ao32 t506.length co32 k_ ∧ nb Ao43 t515.length co43 k_) s_.1 t528) ∧ (w'.heap[gb488]? = some (.cells #[.int .i64 a0_0, .int .i64 a0_1, .int .i64 a0_2, .slice A0_3 l0_3.length c0_3, .bool a0_4] 45 (0, 0))) ∧ (w'.heap[gb489]? = some (.cells #[.bool a1_0, .bool a1_1, .bool a1_2, .int .i64 a1_3, .int .i64 a1_4] 46 (0, 0))) ∧ (w'.heap[gb511]? = some (.cells #[.int .i64 t503, .int .i64 t504, .int .i64 t505, .slice Ao32 t506.length co32, .bool t509] 25 (0, 0))) ∧ (w'.heap[gb519]? = some (.cells #[.int .i64 t512, .int .i64 t513, .int .i64 t514, .slice Ao43 t515.length co43, .bool t518] 25 (0, 0))) ∧ (w'.heap[s_.2]? = some (.cells #[.int .i64 0, .int .i64 0, .int .i64 0, .slice none 0 0, .bool false] 25 (0, 0))) ∧ (w.heap.size ≤ s_.2) ∧ (w.heap.size ≤ s_.2) ∧ (gb488 ≠ s_.2) ∧ (s_.2 ≠ gb488) ∧ (gb489 ≠ s_.2) ∧ (s_.2 ≠ gb489) ∧ (gb511 ≠ s_.2) ∧ (s_.2 ≠ gb511) ∧ (gb519 ≠ s_.2) ∧ (s_.2 ≠ gb519) ∧ (Below w.heap.size w w')) ?_ ?_
  rotate_left
  ·intro hCont
   refine two_ (i := 2) (j := 7) (Ni := some 34) (Nj := some 9) #[true, true, true, false, false, false, false, false, false, false] #[true, true, false, false, false, false, false, true, false, false] rfl rfl rfl rfl (two_of HT_.out (by kernel_rfl)) (by decide) (by decide) (fun K hK => ?_) (fun K hK => ?_)
   ·skip
    refine goes_ Try.func21 (by kernel_rfl) rfl #[.agg #[.bool a1_0, .bool a1_1, .bool a1_2, .int .i64 a1_3, .int .i64 a1_4]] (by rfl) rfl rfl gl_ ?_
    with_reducible refine (laws_toFarm.calls a1_0 a1_1 a1_2 a1_3 a1_4 t520 t521 t522 t523 t524 _ A14.out).mono ?_
    rintro e w46 ⟨rfl, hb⟩
    refine ⟨_, rfl, ?_⟩
    have n0_ := m_ (Kd.R_below (rN HO496.out) hb)
    have n1_ := m_ (Kd.R_below (rN HO508.out) hb)
    have n2_ := m_ (Kd.R_below (rN HO517.out) hb)
    have n3_ := m_ (blk_below (kN BK488.out) hb)
    have n4_ := m_ (blk_below (kN BK489.out) hb)
    have n5_ := m_ (blk_below (kN BK511.out) hb)
    have n6_ := m_ (blk_below (kN BK519.out) hb)
    have n7_ := m_ (below_step (bN HB.out) hb)
    clear HO496
    clear HO508
    clear HO517
    clear BK488
    clear BK489
    clear BK511
    clear BK519
    clear HB
    have HO496 := n0_
    have HO508 := n1_
    have HO517 := n2_
    have BK488 := n3_
    have BK489 := n4_
    have BK511 := n5_
    have BK519 := n6_
    have HB := n7_
    clear n0_ n1_ n2_ n3_ n4_ n5_ n6_ n7_
    (try clear hb)
    (try clear hb2)
    (try clear hk)
    (try clear hi)
    refine hK.out _ _ ⟨bc BK519 0, bc BK519 1, bc BK519 2, bc BK519 3, bc BK519 4, bc BK489 0, bc BK489 1, bc BK489 2, bc BK489 3, bc BK489 4⟩ (fun hHeld => ?_)
    clear hK K
    refine np (h := ?_)
    refine two_ (i := 3) (j := 7) (Ni := some 35) (Nj := some 9) #[true, true, true, true, false, false, false, false, false, false] #[true, true, true, false, false, false, false, true, false, false] rfl rfl rfl rfl (two_of HT_.out (by kernel_rfl)) (by decide) (by decide) (fun K hK => ?_) (fun K hK => ?_)
    ·skip
     refine goes_ Try.func16 (by kernel_rfl) rfl #[.agg #[.int .i64 t512, .int .i64 t513, .int .i64 t514, .slice Ao43 t515.length co43, .bool t518], .agg #[.bool t520, .bool t521, .bool t522, .int .i64 t523, .int .i64 t524]] (by rfl) rfl rfl gl_ ?_
     with_reducible refine (impl_FopHear.calls k t512 t513 t514 _ _ t515 t518 t520 t521 t522 t523 t524 t525 t526 t527 t528 t531 t532 _ ?side1 ?side2 A15.out).mono ?_
     (case side1 => exact cN (Kd.R_reads' HO517.out).2.2)
     (case side2 => exact (Kd.R_reads' HO517.out).2.1)
     rintro e w47 ⟨v529, rfl, ho0, hb⟩
     refine ⟨_, rfl, ?_⟩
     have n0_ := m_ (Kd.R_elder' (rN HO496.out) (Kd.R_base ho0) hb)
     have n1_ := m_ (Kd.R_elder' (rN HO508.out) (Kd.R_base ho0) hb)
     have n2_ := m_ (Kd.R_elder' (rN HO517.out) (Kd.R_base ho0) hb)
     have n3_ := m_ (Kd.R_lower (Kd.R_new' (Kd.R_new' (Kd.R_new' ho0 (Kd.R_lt (rN HO496.out))) (Kd.R_lt (rN HO508.out))) (Kd.R_lt (rN HO517.out))) (below_size (bN HB.out)))
     have n4_ := m_ (blk_below (kN BK488.out) hb)
     have n5_ := m_ (blk_below (kN BK489.out) hb)
     have n6_ := m_ (blk_below (kN BK511.out) hb)
     have n7_ := m_ (blk_below (kN BK519.out) hb)
     have n8_ := m_ (below_step (bN HB.out) hb)
     clear HO496
     clear HO508
     clear HO517
     clear BK488
     clear BK489
     clear BK511
     clear BK519
     clear HB
     have HO496 := n0_
     have HO508 := n1_
     have HO517 := n2_
     have HO530 := n3_
     have BK488 := n4_
     have BK489 := n5_
     have BK511 := n6_
     have BK519 := n7_
     have HB := n8_
     clear n0_ n1_ n2_ n3_ n4_ n5_ n6_ n7_ n8_
     (try clear hb)
     (try clear hb2)
     (try clear hk)
     (try clear hi)
     (try clear ho0)
     refine hK.out _ _ ⟨bc BK519 0, bc BK519 1, bc BK519 2, bc BK519 3, bc BK519 4, bc BK489 0, bc BK489 1, bc BK489 2, bc BK489 3, bc BK489 4⟩ (fun hHeld => ?_)
     clear hK K
     refine np (h := ?_)
     refine pu 4 31 HT_ (h := ?_)
     refine pu 5 36 HT_ (h := ?_)
     refine pu 6 37 HT_ (h := ?_)
     refine one_ (i := 7) (N := some 9) #[true, true, true, true, true, true, true, true, false, false] rfl rfl (one_of HT_.out (by kernel_rfl)) (by decide) (fun K hK => ?_)
     refine box_step ?hg (N := 9) ?hd (cs := #[.int .i64 0, .int .i64 0, .int .i64 0, .slice none 0 0, .bool false]) (t := 25) ?hr ?_; (case hd => rfl); (case hg => rfl); (case hr => first | (go_simp; done) | (go_simp; rfl))
     intro gb533 hg w48 hbox hb
     have n0_ := m_ (Kd.R_below (rN HO496.out) hb)
     have n1_ := m_ (Kd.R_below (rN HO508.out) hb)
     have n2_ := m_ (Kd.R_below (rN HO517.out) hb)
     have n3_ := m_ (Kd.R_below (rN HO530.out) hb)
     have n4_ := m_ (blk_below (kN BK488.out) hb)
     have n5_ := m_ (blk_below (kN BK489.out) hb)
     have n6_ := m_ (blk_below (kN BK511.out) hb)
     have n7_ := m_ (blk_below (kN BK519.out) hb)
     have n8_ := m_ (below_step (bN HB.out) hb)
     have n9_ := m_ (hbox)
     have n10_ := m_ ((by rw [hg]; exact (below_size (bN HB.out)) : w.heap.size ≤ gb533))
     have n11_ := m_ ((by rw [hg]; exact (below_size (bN HB.out)) : w.heap.size ≤ gb533))
     have n12_ := m_ (nL hg BK488.out)
     have n13_ := m_ (nG hg BK488.out)
     have n14_ := m_ (nL hg BK489.out)
     have n15_ := m_ (nG hg BK489.out)
     have n16_ := m_ (nL hg BK511.out)
     have n17_ := m_ (nG hg BK511.out)
     have n18_ := m_ (nL hg BK519.out)
     have n19_ := m_ (nG hg BK519.out)
     clear HO496
     clear HO508
     clear HO517
     clear HO530
     clear BK488
     clear BK489
     clear BK511
     clear BK519
     clear HB
     have HO496 := n0_
     have HO508 := n1_
     have HO517 := n2_
     have HO530 := n3_
     have BK488 := n4_
     have BK489 := n5_
     have BK511 := n6_
     have BK519 := n7_
     have HB := n8_
     have BK533 := n9_
     have GW533 := n10_
     have GE533 := n11_
     have NB488_533 := n12_
     have NB533_488 := n13_
     have NB489_533 := n14_
     have NB533_489 := n15_
     have NB511_533 := n16_
     have NB533_511 := n17_
     have NB519_533 := n18_
     have NB533_519 := n19_
     clear n0_ n1_ n2_ n3_ n4_ n5_ n6_ n7_ n8_ n9_ n10_ n11_ n12_ n13_ n14_ n15_ n16_ n17_ n18_ n19_
     clear hb hbox hg
     refine hK.out _ _ ⟨bc BK519 0, bc BK519 1, bc BK519 2, bc BK519 3, bc BK519 4, bc BK489 0, bc BK489 1, bc BK489 2, bc BK489 3, bc BK489 4⟩ (fun hHeld => ?_)
     clear hK K
     refine np (h := ?_)
     exact nq (hCont (v529, gb533) _ ⟨hHeld, (by (with_reducible repeat (first | apply Kd.R_alloc | apply Kd.R_drewN | apply Kd.R_drew)); exact Kd.R_mono HO496.out (fun _ hk => ⟨hk.1.1, ⟨hk.1.2, hk.2⟩⟩)), (by (with_reducible repeat (first | apply Kd.R_alloc | apply Kd.R_drewN | apply Kd.R_drew)); exact Kd.R_mono HO508.out (fun _ hk => ⟨hk.1.1, ⟨hk.1.2, hk.2⟩⟩)), (by (with_reducible repeat (first | apply Kd.R_alloc | apply Kd.R_drewN | apply Kd.R_drew)); exact Kd.R_mono HO517.out (fun _ hk => ⟨hk.1.1, ⟨hk.1.2, hk.2⟩⟩)), (by (with_reducible repeat (first | apply Kd.R_alloc | apply Kd.R_drewN | apply Kd.R_drew)); exact Kd.R_mono HO530.out (fun _ hk => ⟨hk.1.1.2, ⟨hk.1.2, hk.2⟩⟩)), (kN BK488.out), (kN BK489.out), (kN BK511.out), (kN BK519.out), (kN BK533.out), GW533.out, GE533.out, NB488_533.out, NB533_488.out, NB489_533.out, NB533_489.out, NB511_533.out, NB533_511.out, NB519_533.out, NB533_519.out, (bN HB.out)⟩)
    ·skip
     refine box_step ?hg (N := 9) ?hd (cs := #[.int .i64 0, .int .i64 0, .int .i64 0, .slice none 0 0, .bool false]) (t := 25) ?hr ?_; (case hd => rfl); (case hg => rfl); (case hr => first | (go_simp; done) | (go_simp; rfl))
     intro gb533 hg w47 hbox hb
     have n0_ := m_ (Kd.R_below (rN HO496.out) hb)
     have n1_ := m_ (Kd.R_below (rN HO508.out) hb)
     have n2_ := m_ (Kd.R_below (rN HO517.out) hb)
     have n3_ := m_ (blk_below (kN BK488.out) hb)
     have n4_ := m_ (blk_below (kN BK489.out) hb)
     have n5_ := m_ (blk_below (kN BK511.out) hb)
     have n6_ := m_ (blk_below (kN BK519.out) hb)
     have n7_ := m_ (below_step (bN HB.out) hb)
     have n8_ := m_ (hbox)
     have n9_ := m_ ((by rw [hg]; exact (below_size (bN HB.out)) : w.heap.size ≤ gb533))
     have n10_ := m_ ((by rw [hg]; exact (below_size (bN HB.out)) : w.heap.size ≤ gb533))
     have n11_ := m_ (nL hg BK488.out)
     have n12_ := m_ (nG hg BK488.out)
     have n13_ := m_ (nL hg BK489.out)
     have n14_ := m_ (nG hg BK489.out)
     have n15_ := m_ (nL hg BK511.out)
     have n16_ := m_ (nG hg BK511.out)
     have n17_ := m_ (nL hg BK519.out)
     have n18_ := m_ (nG hg BK519.out)
     clear HO496
     clear HO508
     clear HO517
     clear BK488
     clear BK489
     clear BK511
     clear BK519
     clear HB
     have HO496 := n0_
     have HO508 := n1_
     have HO517 := n2_
     have BK488 := n3_
     have BK489 := n4_
     have BK511 := n5_
     have BK519 := n6_
     have HB := n7_
     have BK533 := n8_
     have GW533 := n9_
     have GE533 := n10_
     have NB488_533 := n11_
     have NB533_488 := n12_
     have NB489_533 := n13_
     have NB533_489 := n14_
     have NB511_533 := n15_
     have NB533_511 := n16_
     have NB519_533 := n17_
     have NB533_519 := n18_
     clear n0_ n1_ n2_ n3_ n4_ n5_ n6_ n7_ n8_ n9_ n10_ n11_ n12_ n13_ n14_ n15_ n16_ n17_ n18_
     clear hb hbox hg
     refine hK.out _ _ ⟨bc BK519 0, bc BK519 1, bc BK519 2, bc BK519 3, bc BK519 4, bc BK489 0, bc BK489 1, bc BK489 2, bc BK489 3, bc BK489 4⟩ (fun hHeld => ?_)
     clear hK K
     refine np (h := ?_)
     refine one_ (i := 3) (N := some 35) #[true, true, true, true, false, false, false, true, false, false] rfl rfl (one_of HT_.out (by kernel_rfl)) (by decide) (fun K hK => ?_)
     refine goes_ Try.func16 (by kernel_rfl) rfl #[.agg #[.int .i64 t512, .int .i64 t513, .int .i64 t514, .slice Ao43 t515.length co43, .bool t518], .agg #[.bool t520, .bool t521, .bool t522, .int .i64 t523, .int .i64 t524]] (by rfl) rfl rfl gl_ ?_
     with_reducible refine (impl_FopHear.calls k t512 t513 t514 _ _ t515 t518 t520 t521 t522 t523 t524 t525 t526 t527 t528 t531 t532 _ ?side1 ?side2 A15.out).mono ?_
     (case side1 => exact cN (Kd.R_reads' HO517.out).2.2)
     (case side2 => exact (Kd.R_reads' HO517.out).2.1)
     rintro e w48 ⟨v529, rfl, ho0, hb⟩
     refine ⟨_, rfl, ?_⟩
     have n0_ := m_ (Kd.R_elder' (rN HO496.out) (Kd.R_base ho0) hb)
     have n1_ := m_ (Kd.R_elder' (rN HO508.out) (Kd.R_base ho0) hb)
     have n2_ := m_ (Kd.R_elder' (rN HO517.out) (Kd.R_base ho0) hb)
     have n3_ := m_ (Kd.R_lower (Kd.R_new' (Kd.R_new' (Kd.R_new' ho0 (Kd.R_lt (rN HO496.out))) (Kd.R_lt (rN HO508.out))) (Kd.R_lt (rN HO517.out))) (below_size (bN HB.out)))
     have n4_ := m_ (blk_below (kN BK488.out) hb)
     have n5_ := m_ (blk_below (kN BK489.out) hb)
     have n6_ := m_ (blk_below (kN BK511.out) hb)
     have n7_ := m_ (blk_below (kN BK519.out) hb)
     have n8_ := m_ (blk_below (kN BK533.out) hb)
     have n9_ := m_ (below_step (bN HB.out) hb)
     clear HO496
     clear HO508
     clear HO517
     clear BK488
     clear BK489
     clear BK511
     clear BK519
     clear BK533
     clear HB
     have HO496 := n0_
     have HO508 := n1_
     have HO517 := n2_
     have HO530 := n3_
     have BK488 := n4_
     have BK489 := n5_
     have BK511 := n6_
     have BK519 := n7_
     have BK533 := n8_
     have HB := n9_
     clear n0_ n1_ n2_ n3_ n4_ n5_ n6_ n7_ n8_ n9_
     (try clear hb)
     (try clear hb2)
     (try clear hk)
     (try clear hi)
     (try clear ho0)
     refine hK.out _ _ ⟨bc BK519 0, bc BK519 1, bc BK519 2, bc BK519 3, bc BK519 4, bc BK489 0, bc BK489 1, bc BK489 2, bc BK489 3, bc BK489 4⟩ (fun hHeld => ?_)
     clear hK K
     refine np (h := ?_)
     refine pu 4 31 HT_ (h := ?_)
     refine pu 5 36 HT_ (h := ?_)
     refine pu 6 37 HT_ (h := ?_)
     exact nq (hCont (v529, gb533) _ ⟨hHeld, (by (with_reducible repeat (first | apply Kd.R_alloc | apply Kd.R_drewN | apply Kd.R_drew)); exact Kd.R_mono HO496.out (fun _ hk => ⟨hk.1.1, ⟨hk.1.2, hk.2⟩⟩)), (by (with_reducible repeat (first | apply Kd.R_alloc | apply Kd.R_drewN | apply Kd.R_drew)); exact Kd.R_mono HO508.out (fun _ hk => ⟨hk.1.1, ⟨hk.1.2, hk.2⟩⟩)), (by (with_reducible repeat (first | apply Kd.R_alloc | apply Kd.R_drewN | apply Kd.R_drew)); exact Kd.R_mono HO517.out (fun _ hk => ⟨hk.1.1, ⟨hk.1.2, hk.2⟩⟩)), (by (with_reducible repeat (first | apply Kd.R_alloc | apply Kd.R_drewN | apply Kd.R_drew)); exact Kd.R_mono HO530.out (fun _ hk => ⟨hk.1.1.2, ⟨hk.1.2, hk.2⟩⟩)), (kN BK488.out), (kN BK489.out), (kN BK511.out), (kN BK519.out), (kN BK533.out), GW533.out, GE533.out, NB488_533.out, NB533_488.out, NB489_533.out, NB533_489.out, NB511_533.out, NB533_511.out, NB519_533.out, NB533_519.out, (bN HB.out)⟩)
   ·skip
    refine box_step ?hg (N := 9) ?hd (cs := #[.int .i64 0, .int .i64 0, .int .i64 0, .slice none 0 0, .bool false]) (t := 25) ?hr ?_; (case hd => rfl); (case hg => rfl); (case hr => first | (go_simp; done) | (go_simp; rfl))
    intro gb533 hg w46 hbox hb
    have n0_ := m_ (Kd.R_below (rN HO496.out) hb)
    have n1_ := m_ (Kd.R_below (rN HO508.out) hb)
    have n2_ := m_ (Kd.R_below (rN HO517.out) hb)
    have n3_ := m_ (blk_below (kN BK488.out) hb)
    have n4_ := m_ (blk_below (kN BK489.out) hb)
    have n5_ := m_ (blk_below (kN BK511.out) hb)
    have n6_ := m_ (blk_below (kN BK519.out) hb)
    have n7_ := m_ (below_step (bN HB.out) hb)
    have n8_ := m_ (hbox)
    have n9_ := m_ ((by rw [hg]; exact (below_size (bN HB.out)) : w.heap.size ≤ gb533))
    have n10_ := m_ ((by rw [hg]; exact (below_size (bN HB.out)) : w.heap.size ≤ gb533))
    have n11_ := m_ (nL hg BK488.out)
    have n12_ := m_ (nG hg BK488.out)
    have n13_ := m_ (nL hg BK489.out)
    have n14_ := m_ (nG hg BK489.out)
    have n15_ := m_ (nL hg BK511.out)
    have n16_ := m_ (nG hg BK511.out)
    have n17_ := m_ (nL hg BK519.out)
    have n18_ := m_ (nG hg BK519.out)
    clear HO496
    clear HO508
    clear HO517
    clear BK488
    clear BK489
    clear BK511
    clear BK519
    clear HB
    have HO496 := n0_
    have HO508 := n1_
    have HO517 := n2_
    have BK488 := n3_
    have BK489 := n4_
    have BK511 := n5_
    have BK519 := n6_
    have HB := n7_
    have BK533 := n8_
    have GW533 := n9_
    have GE533 := n10_
    have NB488_533 := n11_
    have NB533_488 := n12_
    have NB489_533 := n13_
    have NB533_489 := n14_
    have NB511_533 := n15_
    have NB533_511 := n16_
    have NB519_533 := n17_
    have NB533_519 := n18_
    clear n0_ n1_ n2_ n3_ n4_ n5_ n6_ n7_ n8_ n9_ n10_ n11_ n12_ n13_ n14_ n15_ n16_ n17_ n18_
    clear hb hbox hg
    refine hK.out _ _ ⟨bc BK519 0, bc BK519 1, bc BK519 2, bc BK519 3, bc BK519 4, bc BK489 0, bc BK489 1, bc BK489 2, bc BK489 3, bc BK489 4⟩ (fun hHeld => ?_)
    clear hK K
    refine np (h := ?_)
    refine one_ (i := 2) (N := some 34) #[true, true, true, false, false, false, false, true, false, false] rfl rfl (one_of HT_.out (by kernel_rfl)) (by decide) (fun K hK => ?_)
    refine goes_ Try.func21 (by kernel_rfl) rfl #[.agg #[.bool a1_0, .bool a1_1, .bool a1_2, .int .i64 a1_3, .int .i64 a1_4]] (by rfl) rfl rfl gl_ ?_
    with_reducible refine (laws_toFarm.calls a1_0 a1_1 a1_2 a1_3 a1_4 t520 t521 t522 t523 t524 _ A14.out).mono ?_
    rintro e w47 ⟨rfl, hb⟩
    refine ⟨_, rfl, ?_⟩
    have n0_ := m_ (Kd.R_below (rN HO496.out) hb)
    have n1_ := m_ (Kd.R_below (rN HO508.out) hb)
    have n2_ := m_ (Kd.R_below (rN HO517.out) hb)
    have n3_ := m_ (blk_below (kN BK488.out) hb)
    have n4_ := m_ (blk_below (kN BK489.out) hb)
    have n5_ := m_ (blk_below (kN BK511.out) hb)
    have n6_ := m_ (blk_below (kN BK519.out) hb)
    have n7_ := m_ (blk_below (kN BK533.out) hb)
    have n8_ := m_ (below_step (bN HB.out) hb)
    clear HO496
    clear HO508
    clear HO517
    clear BK488
    clear BK489
    clear BK511
    clear BK519
    clear BK533
    clear HB
    have HO496 := n0_
    have HO508 := n1_
    have HO517 := n2_
    have BK488 := n3_
    have BK489 := n4_
    have BK511 := n5_
    have BK519 := n6_
    have BK533 := n7_
    have HB := n8_
    clear n0_ n1_ n2_ n3_ n4_ n5_ n6_ n7_ n8_
    (try clear hb)
    (try clear hb2)
    (try clear hk)
    (try clear hi)
    refine hK.out _ _ ⟨bc BK519 0, bc BK519 1, bc BK519 2, bc BK519 3, bc BK519 4, bc BK489 0, bc BK489 1, bc BK489 2, bc BK489 3, bc BK489 4⟩ (fun hHeld => ?_)
    clear hK K
    refine np (h := ?_)
    refine one_ (i := 3) (N := some 35) #[true, true, true, true, false, false, false, true, false, false] rfl rfl (one_of HT_.out (by kernel_rfl)) (by decide) (fun K hK => ?_)
    refine goes_ Try.func16 (by kernel_rfl) rfl #[.agg #[.int .i64 t512, .int .i64 t513, .int .i64 t514, .slice Ao43 t515.length co43, .bool t518], .agg #[.bool t520, .bool t521, .bool t522, .int .i64 t523, .int .i64 t524]] (by rfl) rfl rfl gl_ ?_
    with_reducible refine (impl_FopHear.calls k t512 t513 t514 _ _ t515 t518 t520 t521 t522 t523 t524 t525 t526 t527 t528 t531 t532 _ ?side1 ?side2 A15.out).mono ?_
    (case side1 => exact cN (Kd.R_reads' HO517.out).2.2)
    (case side2 => exact (Kd.R_reads' HO517.out).2.1)
    rintro e w48 ⟨v529, rfl, ho0, hb⟩
    refine ⟨_, rfl, ?_⟩
    have n0_ := m_ (Kd.R_elder' (rN HO496.out) (Kd.R_base ho0) hb)
    have n1_ := m_ (Kd.R_elder' (rN HO508.out) (Kd.R_base ho0) hb)
    have n2_ := m_ (Kd.R_elder' (rN HO517.out) (Kd.R_base ho0) hb)
    have n3_ := m_ (Kd.R_lower (Kd.R_new' (Kd.R_new' (Kd.R_new' ho0 (Kd.R_lt (rN HO496.out))) (Kd.R_lt (rN HO508.out))) (Kd.R_lt (rN HO517.out))) (below_size (bN HB.out)))
    have n4_ := m_ (blk_below (kN BK488.out) hb)
    have n5_ := m_ (blk_below (kN BK489.out) hb)
    have n6_ := m_ (blk_below (kN BK511.out) hb)
    have n7_ := m_ (blk_below (kN BK519.out) hb)
    have n8_ := m_ (blk_below (kN BK533.out) hb)
    have n9_ := m_ (below_step (bN HB.out) hb)
    clear HO496
    clear HO508
    clear HO517
    clear BK488
    clear BK489
    clear BK511
    clear BK519
    clear BK533
    clear HB
    have HO496 := n0_
    have HO508 := n1_
    have HO517 := n2_
    have HO530 := n3_
    have BK488 := n4_
    have BK489 := n5_
    have BK511 := n6_
    have BK519 := n7_
    have BK533 := n8_
    have HB := n9_
    clear n0_ n1_ n2_ n3_ n4_ n5_ n6_ n7_ n8_ n9_
    (try clear hb)
    (try clear hb2)
    (try clear hk)
    (try clear hi)
    (try clear ho0)
    refine hK.out _ _ ⟨bc BK519 0, bc BK519 1, bc BK519 2, bc BK519 3, bc BK519 4, bc BK489 0, bc BK489 1, bc BK489 2, bc BK489 3, bc BK489 4⟩ (fun hHeld => ?_)
    clear hK K
    refine np (h := ?_)
    refine pu 4 31 HT_ (h := ?_)
    refine pu 5 36 HT_ (h := ?_)
    refine pu 6 37 HT_ (h := ?_)
    exact nq (hCont (v529, gb533) _ ⟨hHeld, (by (with_reducible repeat (first | apply Kd.R_alloc | apply Kd.R_drewN | apply Kd.R_drew)); exact Kd.R_mono HO496.out (fun _ hk => ⟨hk.1.1, ⟨hk.1.2, hk.2⟩⟩)), (by (with_reducible repeat (first | apply Kd.R_alloc | apply Kd.R_drewN | apply Kd.R_drew)); exact Kd.R_mono HO508.out (fun _ hk => ⟨hk.1.1, ⟨hk.1.2, hk.2⟩⟩)), (by (with_reducible repeat (first | apply Kd.R_alloc | apply Kd.R_drewN | apply Kd.R_drew)); exact Kd.R_mono HO517.out (fun _ hk => ⟨hk.1.1, ⟨hk.1.2, hk.2⟩⟩)), (by (with_reducible repeat (first | apply Kd.R_alloc | apply Kd.R_drewN | apply Kd.R_drew)); exact Kd.R_mono HO530.out (fun _ hk => ⟨hk.1.1.2, ⟨hk.1.2, hk.2⟩⟩)), (kN BK488.out), (kN BK489.out), (kN BK511.out), (kN BK519.out), (kN BK533.out), GW533.out, GE533.out, NB488_533.out, NB533_488.out, NB489_533.out, NB533_489.out, NB511_533.out, NB533_511.out, NB519_533.out, NB533_519.out, (bN HB.out)⟩)
  rintro ⟨v529, gb533⟩ w49 ⟨hS_, h0_, h1_, h2_, h3_, h4_, h5_, h6_, h7_, h8_, h9_, h10_, h11_, h12_, h13_, h14_, h15_, h16_, h17_, h18_, h19_⟩
  have n0_ : Aside0 (Kd.R Kd.string 9 w49 w.heap.size (fun k_ => nb Ao32 t506.length co32 k_ ∧ nb Ao43 t515.length co43 k_ ∧ some k_ ≠ (v529 : Value).ownBlock) v495 t494) := ⟨h0_⟩
  have n1_ : Aside0 (Kd.R Kd.string 9 w49 w.heap.size (fun k_ => some k_ ≠ (v495 : Value).ownBlock ∧ nb Ao43 t515.length co43 k_ ∧ some k_ ≠ (v529 : Value).ownBlock) (.slice Ao32 t506.length co32) t506) := ⟨h1_⟩
  have n2_ : Aside0 (Kd.R Kd.string 9 w49 w.heap.size (fun k_ => some k_ ≠ (v495 : Value).ownBlock ∧ nb Ao32 t506.length co32 k_ ∧ some k_ ≠ (v529 : Value).ownBlock) (.slice Ao43 t515.length co43) t515) := ⟨h2_⟩
  have n3_ : Aside0 (Kd.R Kd.string 9 w49 w.heap.size (fun k_ => some k_ ≠ (v495 : Value).ownBlock ∧ nb Ao32 t506.length co32 k_ ∧ nb Ao43 t515.length co43 k_) v529 t528) := ⟨h3_⟩
  have n4_ : Aside0 (w49.heap[gb488]? = some (.cells #[.int .i64 a0_0, .int .i64 a0_1, .int .i64 a0_2, .slice A0_3 l0_3.length c0_3, .bool a0_4] 45 (0, 0))) := ⟨h4_⟩
  have n5_ : Aside0 (w49.heap[gb489]? = some (.cells #[.bool a1_0, .bool a1_1, .bool a1_2, .int .i64 a1_3, .int .i64 a1_4] 46 (0, 0))) := ⟨h5_⟩
  have n6_ : Aside0 (w49.heap[gb511]? = some (.cells #[.int .i64 t503, .int .i64 t504, .int .i64 t505, .slice Ao32 t506.length co32, .bool t509] 25 (0, 0))) := ⟨h6_⟩
  have n7_ : Aside0 (w49.heap[gb519]? = some (.cells #[.int .i64 t512, .int .i64 t513, .int .i64 t514, .slice Ao43 t515.length co43, .bool t518] 25 (0, 0))) := ⟨h7_⟩
  have n8_ : Aside0 (w49.heap[gb533]? = some (.cells #[.int .i64 0, .int .i64 0, .int .i64 0, .slice none 0 0, .bool false] 25 (0, 0))) := ⟨h8_⟩
  have n9_ : Aside0 (w.heap.size ≤ gb533) := ⟨h9_⟩
  have n10_ : Aside0 (w.heap.size ≤ gb533) := ⟨h10_⟩
  have n11_ : Aside0 (gb488 ≠ gb533) := ⟨h11_⟩
  have n12_ : Aside0 (gb533 ≠ gb488) := ⟨h12_⟩
  have n13_ : Aside0 (gb489 ≠ gb533) := ⟨h13_⟩
  have n14_ : Aside0 (gb533 ≠ gb489) := ⟨h14_⟩
  have n15_ : Aside0 (gb511 ≠ gb533) := ⟨h15_⟩
  have n16_ : Aside0 (gb533 ≠ gb511) := ⟨h16_⟩
  have n17_ : Aside0 (gb519 ≠ gb533) := ⟨h17_⟩
  have n18_ : Aside0 (gb533 ≠ gb519) := ⟨h18_⟩
  have n19_ : Aside0 (Below w.heap.size w w49) := ⟨h19_⟩
  clear HO496
  clear HO508
  clear HO517
  clear BK488
  clear BK489
  clear BK511
  clear BK519
  clear HB
  clear h0_ h1_ h2_ h3_ h4_ h5_ h6_ h7_ h8_ h9_ h10_ h11_ h12_ h13_ h14_ h15_ h16_ h17_ h18_ h19_
  have HO496 := n0_
  have HO508 := n1_
  have HO517 := n2_
  have HO530 := n3_
  have BK488 := n4_
  have BK489 := n5_
  have BK511 := n6_
  have BK519 := n7_
  have BK533 := n8_
  have GW533 := n9_
  have GE533 := n10_
  have NB488_533 := n11_
  have NB533_488 := n12_
  have NB489_533 := n13_
  have NB533_489 := n14_
  have NB511_533 := n15_
  have NB533_511 := n16_
  have NB519_533 := n17_
  have NB533_519 := n18_
  have HB := n19_
  clear n0_ n1_ n2_ n3_ n4_ n5_ n6_ n7_ n8_ n9_ n10_ n11_ n12_ n13_ n14_ n15_ n16_ n17_ n18_ n19_
  have hHeld : w49.cell? ⟨gb519, 0, none⟩ = some (.int .i64 t512) ∧ w49.cell? ⟨gb519, 1, none⟩ = some (.int .i64 t513) ∧ w49.cell? ⟨gb519, 2, none⟩ = some (.int .i64 t514) ∧ w49.cell? ⟨gb519, 3, none⟩ = some (.slice Ao43 t515.length co43) ∧ w49.cell? ⟨gb519, 4, none⟩ = some (.bool t518) ∧ w49.cell? ⟨gb489, 0, none⟩ = some (.bool a1_0) ∧ w49.cell? ⟨gb489, 1, none⟩ = some (.bool a1_1) ∧ w49.cell? ⟨gb489, 2, none⟩ = some (.bool a1_2) ∧ w49.cell? ⟨gb489, 3, none⟩ = some (.int .i64 a1_3) ∧ w49.cell? ⟨gb489, 4, none⟩ = some (.int .i64 a1_4) := hS_
  obtain ⟨Ao53, co53, eo53⟩ := Kd.R_slice HO530.out
  (first | subst eo53 | (injection eo53 with f1_ f2_ f3_; have f4_ := f1_.symm; have f5_ := f3_.symm; clear f1_ f2_ f3_; subst f4_; subst f5_))
  refine norm_ (a' := ?_) ?_ ?_
  rotate_left
  ·simp only [putAll, Act.put, List.setIfInBounds_toArray, List.set_cons_zero, List.set_cons_succ]
   rfl
  refine one_ (i := 8) (N := none) #[true, true, true, true, true, true, true, true, true, false] rfl rfl (one_of HT_.out (by kernel_rfl)) (by decide) (fun K hK => ?_)
  have hs50 : w49.cell? ⟨gb533, 0, none⟩ = some (.int .i64 0) := bc BK533 0
  have hfs50 := blk_frozen BK533.out 0
  have hns50_0 := NB488_533.out
  have hns50_1 := NB489_533.out
  have hns50_2 := NB511_533.out
  have hns50_3 := NB519_533.out
  have hms50_0 := NB533_488.out
  have hms50_1 := NB533_489.out
  have hms50_2 := NB533_511.out
  have hms50_3 := NB533_519.out
  have hs51 : w49.cell? ⟨gb533, 1, none⟩ = some (.int .i64 0) := bc BK533 1
  have hfs51 := blk_frozen BK533.out 1
  have hns51_0 := NB488_533.out
  have hns51_1 := NB489_533.out
  have hns51_2 := NB511_533.out
  have hns51_3 := NB519_533.out
  have hms51_0 := NB533_488.out
  have hms51_1 := NB533_489.out
  have hms51_2 := NB533_511.out
  have hms51_3 := NB533_519.out
  have hs52 : w49.cell? ⟨gb533, 2, none⟩ = some (.int .i64 0) := bc BK533 2
  have hfs52 := blk_frozen BK533.out 2
  have hns52_0 := NB488_533.out
  have hns52_1 := NB489_533.out
  have hns52_2 := NB511_533.out
  have hns52_3 := NB519_533.out
  have hms52_0 := NB533_488.out
  have hms52_1 := NB533_489.out
  have hms52_2 := NB533_511.out
  have hms52_3 := NB533_519.out
  have hs54 : w49.cell? ⟨gb533, 3, none⟩ = some (.slice none 0 0) := bc BK533 3
  have hfs54 := blk_frozen BK533.out 3
  have hns54_0 := NB488_533.out
  have hns54_1 := NB489_533.out
  have hns54_2 := NB511_533.out
  have hns54_3 := NB519_533.out
  have hms54_0 := NB533_488.out
  have hms54_1 := NB533_489.out
  have hms54_2 := NB533_511.out
  have hms54_3 := NB533_519.out
  have hs55 : w49.cell? ⟨gb533, 4, none⟩ = some (.bool false) := bc BK533 4
  have hfs55 := blk_frozen BK533.out 4
  have hns55_0 := NB488_533.out
  have hns55_1 := NB489_533.out
  have hns55_2 := NB511_533.out
  have hns55_3 := NB519_533.out
  have hms55_0 := NB533_488.out
  have hms55_1 := NB533_489.out
  have hms55_2 := NB533_511.out
  have hms55_3 := NB533_519.out
  refine skip_ (w1 := ?_) (by rfl) rfl ?_ ?_
  rotate_left
  ·go_simp
   rfl
  refine hK.out _ _ ⟨((cell_far (p := ⟨gb533, _, none⟩) NB519_533.out _).trans (((cell_far (p := ⟨gb533, _, none⟩) NB519_533.out _).trans (((cell_far (p := ⟨gb533, _, none⟩) NB519_533.out _).trans (((cell_far (p := ⟨gb533, _, none⟩) NB519_533.out _).trans (((cell_far (p := ⟨gb533, _, none⟩) NB519_533.out _).trans (hHeld.1)))))))))), ((cell_far (p := ⟨gb533, _, none⟩) NB519_533.out _).trans (((cell_far (p := ⟨gb533, _, none⟩) NB519_533.out _).trans (((cell_far (p := ⟨gb533, _, none⟩) NB519_533.out _).trans (((cell_far (p := ⟨gb533, _, none⟩) NB519_533.out _).trans (((cell_far (p := ⟨gb533, _, none⟩) NB519_533.out _).trans (hHeld.2.1)))))))))), ((cell_far (p := ⟨gb533, _, none⟩) NB519_533.out _).trans (((cell_far (p := ⟨gb533, _, none⟩) NB519_533.out _).trans (((cell_far (p := ⟨gb533, _, none⟩) NB519_533.out _).trans (((cell_far (p := ⟨gb533, _, none⟩) NB519_533.out _).trans (((cell_far (p := ⟨gb533, _, none⟩) NB519_533.out _).trans (hHeld.2.2.1)))))))))), ((cell_far (p := ⟨gb533, _, none⟩) NB519_533.out _).trans (((cell_far (p := ⟨gb533, _, none⟩) NB519_533.out _).trans (((cell_far (p := ⟨gb533, _, none⟩) NB519_533.out _).trans (((cell_far (p := ⟨gb533, _, none⟩) NB519_533.out _).trans (((cell_far (p := ⟨gb533, _, none⟩) NB519_533.out _).trans (hHeld.2.2.2.1)))))))))), ((cell_far (p := ⟨gb533, _, none⟩) NB519_533.out _).trans (((cell_far (p := ⟨gb533, _, none⟩) NB519_533.out _).trans (((cell_far (p := ⟨gb533, _, none⟩) NB519_533.out _).trans (((cell_far (p := ⟨gb533, _, none⟩) NB519_533.out _).trans (((cell_far (p := ⟨gb533, _, none⟩) NB519_533.out _).trans (hHeld.2.2.2.2.1)))))))))), ((cell_far (p := ⟨gb533, _, none⟩) NB489_533.out _).trans (((cell_far (p := ⟨gb533, _, none⟩) NB489_533.out _).trans (((cell_far (p := ⟨gb533, _, none⟩) NB489_533.out _).trans (((cell_far (p := ⟨gb533, _, none⟩) NB489_533.out _).trans (((cell_far (p := ⟨gb533, _, none⟩) NB489_533.out _).trans (hHeld.2.2.2.2.2.1)))))))))), ((cell_far (p := ⟨gb533, _, none⟩) NB489_533.out _).trans (((cell_far (p := ⟨gb533, _, none⟩) NB489_533.out _).trans (((cell_far (p := ⟨gb533, _, none⟩) NB489_533.out _).trans (((cell_far (p := ⟨gb533, _, none⟩) NB489_533.out _).trans (((cell_far (p := ⟨gb533, _, none⟩) NB489_533.out _).trans (hHeld.2.2.2.2.2.2.1)))))))))), ((cell_far (p := ⟨gb533, _, none⟩) NB489_533.out _).trans (((cell_far (p := ⟨gb533, _, none⟩) NB489_533.out _).trans (((cell_far (p := ⟨gb533, _, none⟩) NB489_533.out _).trans (((cell_far (p := ⟨gb533, _, none⟩) NB489_533.out _).trans (((cell_far (p := ⟨gb533, _, none⟩) NB489_533.out _).trans (hHeld.2.2.2.2.2.2.2.1)))))))))), ((cell_far (p := ⟨gb533, _, none⟩) NB489_533.out _).trans (((cell_far (p := ⟨gb533, _, none⟩) NB489_533.out _).trans (((cell_far (p := ⟨gb533, _, none⟩) NB489_533.out _).trans (((cell_far (p := ⟨gb533, _, none⟩) NB489_533.out _).trans (((cell_far (p := ⟨gb533, _, none⟩) NB489_533.out _).trans (hHeld.2.2.2.2.2.2.2.2.1)))))))))), ((cell_far (p := ⟨gb533, _, none⟩) NB489_533.out _).trans (((cell_far (p := ⟨gb533, _, none⟩) NB489_533.out _).trans (((cell_far (p := ⟨gb533, _, none⟩) NB489_533.out _).trans (((cell_far (p := ⟨gb533, _, none⟩) NB489_533.out _).trans (((cell_far (p := ⟨gb533, _, none⟩) NB489_533.out _).trans (hHeld.2.2.2.2.2.2.2.2.2))))))))))⟩ (fun hHeld => ?_)
  clear hK K
  refine pu 9 10 HT_ (h := ?_)
  refine done_ (done_of HT_.out (by kernel_rfl)) ?_
  go_upto_region 8 with (fail)
  go_cut [46] (fun v46 wc => ∃ (kq : Nat) (x46_15 : Bool), v46 = .bool x46_15 ∧ Aside0 (laws_FnExactFopHear.j0 kq t510 t532 x46_15 a0_0 a0_1 a0_2 l0_3 a0_4 a1_0 a1_1 a1_2 a1_3 a1_4 t503 t504 t505 t506 t509 t512 t513 t514 t515 t518 t525 t526 t527 t528 t531 = some r) ∧ Aside0 (kq ≤ k) ∧ Aside0 (Kd.R Kd.string 9 wc w.heap.size (fun k_ => some k_ ≠ ((.slice Ao43 t515.length co43) : Value).ownBlock ∧ some k_ ≠ ((.slice Ao53 t528.length co53) : Value).ownBlock) (.slice Ao32 t506.length co32) t506) ∧ Aside0 (Kd.R Kd.string 9 wc w.heap.size (fun k_ => some k_ ≠ ((.slice Ao32 t506.length co32) : Value).ownBlock ∧ some k_ ≠ ((.slice Ao53 t528.length co53) : Value).ownBlock) (.slice Ao43 t515.length co43) t515) ∧ Aside0 (Kd.R Kd.string 9 wc w.heap.size (fun k_ => some k_ ≠ ((.slice Ao32 t506.length co32) : Value).ownBlock ∧ some k_ ≠ ((.slice Ao43 t515.length co43) : Value).ownBlock) (.slice Ao53 t528.length co53) t528) ∧ Aside0 (wc.heap[gb488]? = some (.cells #[.int .i64 a0_0, .int .i64 a0_1, .int .i64 a0_2, (.slice A0_3 l0_3.length c0_3), .bool a0_4] 45 (0, 0))) ∧ Aside0 (wc.heap[gb489]? = some (.cells #[.bool a1_0, .bool a1_1, .bool a1_2, .int .i64 a1_3, .int .i64 a1_4] 46 (0, 0))) ∧ Aside0 (wc.heap[gb511]? = some (.cells #[.int .i64 t503, .int .i64 t504, .int .i64 t505, (.slice Ao32 t506.length co32), .bool t509] 25 (0, 0))) ∧ Aside0 (wc.heap[gb519]? = some (.cells #[.int .i64 t512, .int .i64 t513, .int .i64 t514, (.slice Ao43 t515.length co43), .bool t518] 25 (0, 0))) ∧ Aside0 (wc.heap[gb533]? = some (.cells #[.int .i64 t525, .int .i64 t526, .int .i64 t527, (.slice Ao53 t528.length co53), .bool t531] 25 (0, 0))) ∧ Aside0 (Below w.heap.size w wc))
  case first =>
   have H := HC16.out
   clear HC16
   replace H := Option.bind_eq_some_iff.mp H
   obtain ⟨t534, A560, H⟩ := H
   replace H : (if t534 = true then (laws_FnExactFopHear.j0 k t510 t532 (t532 != t510) a0_0 a0_1 a0_2 l0_3 a0_4 a1_0 a1_1 a1_2 a1_3 a1_4 t503 t504 t505 t506 t509 t512 t513 t514 t515 t518 t525 t526 t527 t528 t531) else (laws_FnExactFopHear.j0 k t510 t532 true a0_0 a0_1 a0_2 l0_3 a0_4 a1_0 a1_1 a1_2 a1_3 a1_4 t503 t504 t505 t506 t509 t512 t513 t514 t515 t518 t525 t526 t527 t528 t531)) = some r := H
   have A56 := Aside0.mk A560
   clear A560
   by_cases c57 : t534 = true
   ·subst c57
    have H1 : (laws_FnExactFopHear.j0 k t510 t532 (t532 != t510) a0_0 a0_1 a0_2 l0_3 a0_4 a1_0 a1_1 a1_2 a1_3 a1_4 t503 t504 t505 t506 t509 t512 t513 t514 t515 t518 t525 t526 t527 t528 t531) = some r := by rw [if_pos rfl] at H; exact H
    clear H
    have H := H1
    clear H1
    have H' := Aside0.mk H
    clear H
    have hnb58 := NB533_488.out
    have hnc58 := NB488_533.out
    have hnb59 := NB533_489.out
    have hnc59 := NB489_533.out
    have hnb60 := NB533_511.out
    have hnc60 := NB511_533.out
    have hnb61 := NB533_519.out
    have hnc61 := NB519_533.out
    have hcz62_0 : w49.cell? ⟨gb533, 0, none⟩ = some (.int .i64 0) := bc BK533 0
    have hcz62_1 : w49.cell? ⟨gb533, 1, none⟩ = some (.int .i64 0) := bc BK533 1
    have hcz62_2 : w49.cell? ⟨gb533, 2, none⟩ = some (.int .i64 0) := bc BK533 2
    have hcz62_3 : w49.cell? ⟨gb533, 3, none⟩ = some (.slice none 0 0) := bc BK533 3
    have hcz62_4 : w49.cell? ⟨gb533, 4, none⟩ = some (.bool false) := bc BK533 4
    have hfz62_0 := blk_frozen BK533.out 0
    have hfz62_1 := blk_frozen BK533.out 1
    have hfz62_2 := blk_frozen BK533.out 2
    have hfz62_3 := blk_frozen BK533.out 3
    have hfz62_4 := blk_frozen BK533.out 4
    have hnb63 := NB511_488.out
    have hnc63 := NB488_511.out
    have hnb64 := NB511_489.out
    have hnc64 := NB489_511.out
    have hnb65 := NB511_519.out
    have hnc65 := NB519_511.out
    have hcz66_0 : w49.cell? ⟨gb511, 0, none⟩ = some (.int .i64 t503) := bc BK511 0
    have hcz66_1 : w49.cell? ⟨gb511, 1, none⟩ = some (.int .i64 t504) := bc BK511 1
    have hcz66_2 : w49.cell? ⟨gb511, 2, none⟩ = some (.int .i64 t505) := bc BK511 2
    have hcz66_3 : w49.cell? ⟨gb511, 3, none⟩ = some (.slice Ao32 t506.length co32) := bc BK511 3
    have hcz66_4 : w49.cell? ⟨gb511, 4, none⟩ = some (.bool t509) := bc BK511 4
    have hfz66_0 := blk_frozen BK511.out 0
    have hfz66_1 := blk_frozen BK511.out 1
    have hfz66_2 := blk_frozen BK511.out 2
    have hfz66_3 := blk_frozen BK511.out 3
    have hfz66_4 := blk_frozen BK511.out 4
    go_wp2_with (first | ((with_reducible refine gate_callee (f := 22) rfl ?_); refine goesL_ (some 40) rfl rfl Try.func22 (by kernel_rfl) rfl #[.agg #[.int .i64 t525, .int .i64 t526, .int .i64 t527, .slice Ao53 t528.length co53, .bool t531], .agg #[.int .i64 t503, .int .i64 t504, .int .i64 t505, .slice Ao32 t506.length co32, .bool t509]] rfl gl_ ?_; (with_reducible refine (laws_eqFop.calls k t525 t526 t527 _ _ t528 t531 t503 t504 t505 _ _ t506 t509 true _ ?side1 ?side2 ?side3 ?side4 A56.out).mono ?_); (case side1 => refine (Kd.R_reads' (e := 9) (base := w.heap.size) (ok := fun k_ => (some k_ ≠ (v495 : Value).ownBlock ∧ (nb Ao32 t506.length co32 k_ ∧ nb Ao43 t515.length co43 k_))) (n := t528.length) (c := co53) ?_).2.2; exact (frN (Kd.R_types HO530.out BK533.out (by decide)))); (case side2 => exact (Kd.R_reads' HO530.out).2.1); (case side3 => refine (Kd.R_reads' (e := 9) (base := w.heap.size) (ok := fun k_ => (some k_ ≠ (v495 : Value).ownBlock ∧ (nb Ao43 t515.length co43 k_ ∧ nb Ao53 t528.length co53 k_))) (n := t506.length) (c := co32) ?_).2.2; exact (frN (Kd.R_types HO508.out BK533.out (by decide)))); (case side4 => exact (Kd.R_reads' HO508.out).2.1); rintro e w67 ⟨rfl, hb⟩; refine ⟨_, rfl, ?_⟩; have n0_ := m_ (Kd.R_below (frN (Kd.R_types HO496.out BK533.out (by decide))) hb); have n1_ := m_ (Kd.R_below (frN (Kd.R_types HO508.out BK533.out (by decide))) hb); have n2_ := m_ (Kd.R_below (frN (Kd.R_types HO517.out BK533.out (by decide))) hb); have n3_ := m_ (Kd.R_below (frN (Kd.R_types HO530.out BK533.out (by decide))) hb); have n4_ := m_ (blk_below (g := gb488) (o := .cells #[.int .i64 a0_0, .int .i64 a0_1, .int .i64 a0_2, .slice A0_3 l0_3.length c0_3, .bool a0_4] 45 (0, 0)) (kF BK488.out NB488_533.out) hb); have n5_ := m_ (blk_below (g := gb489) (o := .cells #[.bool a1_0, .bool a1_1, .bool a1_2, .int .i64 a1_3, .int .i64 a1_4] 46 (0, 0)) (kF BK489.out NB489_533.out) hb); have n6_ := m_ (blk_below (g := gb511) (o := .cells #[.int .i64 t503, .int .i64 t504, .int .i64 t505, .slice Ao32 t506.length co32, .bool t509] 25 (0, 0)) (kF BK511.out NB511_533.out) hb); have n7_ := m_ (blk_below (g := gb519) (o := .cells #[.int .i64 t512, .int .i64 t513, .int .i64 t514, .slice Ao43 t515.length co43, .bool t518] 25 (0, 0)) (kF BK519.out NB519_533.out) hb); have n8_ := m_ (blk_below (g := gb533) (o := .cells #[.int .i64 t525, .int .i64 t526, .int .i64 t527, .slice Ao53 t528.length co53, .bool t531] 25 (0, 0)) (kP BK533.out) hb); have n9_ := m_ (below_step (bN HB.out) hb); clear HO496; clear HO508; clear HO517; clear HO530; clear BK488; clear BK489; clear BK511; clear BK519; clear BK533; clear HB; have HO496 := n0_; have HO508 := n1_; have HO517 := n2_; have HO530 := n3_; have BK488 := n4_; have BK489 := n5_; have BK511 := n6_; have BK519 := n7_; have BK533 := n8_; have HB := n9_; clear n0_ n1_ n2_ n3_ n4_ n5_ n6_ n7_ n8_ n9_; (try clear hb); (try clear hb2); (try clear hk); (try clear hi)))
    go_meet
    case rel => exact ⟨_, ((t532 != t510)), (by first | rfl | (simp; done) | (simp [*]; done)), H', ⟨by first | omega | exact Nat.le_refl _⟩, ⟨by (with_reducible repeat (first | apply Kd.R_alloc | apply Kd.R_drewN | apply Kd.R_drew)); exact Kd.R_mono HO508.out (fun _ hk => ⟨hk.2.1, hk.2.2⟩)⟩, ⟨by (with_reducible repeat (first | apply Kd.R_alloc | apply Kd.R_drewN | apply Kd.R_drew)); exact Kd.R_mono HO517.out (fun _ hk => ⟨hk.2.1, hk.2.2⟩)⟩, ⟨by (with_reducible repeat (first | apply Kd.R_alloc | apply Kd.R_drewN | apply Kd.R_drew)); exact Kd.R_mono HO530.out (fun _ hk => ⟨hk.2.1, hk.2.2⟩)⟩, ⟨kN BK488.out⟩, ⟨kN BK489.out⟩, ⟨kN BK511.out⟩, ⟨kN BK519.out⟩, ⟨kN BK533.out⟩, ⟨by repeat (first | (with_reducible first | exact HB.out | apply below_alloc | apply pw_below_drewN | apply below_drew1 | refine below_set ?_ GE488.out | refine below_set ?_ GE489.out | refine below_set ?_ GE511.out | refine below_set ?_ GE519.out | refine below_set ?_ GE533.out) | exact HB.out)⟩⟩
   ·replace c57 := Bool.eq_false_iff.mpr c57
    subst c57
    have H1 : (laws_FnExactFopHear.j0 k t510 t532 true a0_0 a0_1 a0_2 l0_3 a0_4 a1_0 a1_1 a1_2 a1_3 a1_4 t503 t504 t505 t506 t509 t512 t513 t514 t515 t518 t525 t526 t527 t528 t531) = some r := by rw [if_neg (show ¬ (false = true) by decide)] at H; exact H
    clear H
    have H := H1
    clear H1
    have H' := Aside0.mk H
    clear H
    have hnb68 := NB533_488.out
    have hnc68 := NB488_533.out
    have hnb69 := NB533_489.out
    have hnc69 := NB489_533.out
    have hnb70 := NB533_511.out
    have hnc70 := NB511_533.out
    have hnb71 := NB533_519.out
    have hnc71 := NB519_533.out
    have hcz72_0 : w49.cell? ⟨gb533, 0, none⟩ = some (.int .i64 0) := bc BK533 0
    have hcz72_1 : w49.cell? ⟨gb533, 1, none⟩ = some (.int .i64 0) := bc BK533 1
    have hcz72_2 : w49.cell? ⟨gb533, 2, none⟩ = some (.int .i64 0) := bc BK533 2
    have hcz72_3 : w49.cell? ⟨gb533, 3, none⟩ = some (.slice none 0 0) := bc BK533 3
    have hcz72_4 : w49.cell? ⟨gb533, 4, none⟩ = some (.bool false) := bc BK533 4
    have hfz72_0 := blk_frozen BK533.out 0
    have hfz72_1 := blk_frozen BK533.out 1
    have hfz72_2 := blk_frozen BK533.out 2
    have hfz72_3 := blk_frozen BK533.out 3
    have hfz72_4 := blk_frozen BK533.out 4
    have hnb73 := NB511_488.out
    have hnc73 := NB488_511.out
    have hnb74 := NB511_489.out
    have hnc74 := NB489_511.out
    have hnb75 := NB511_519.out
    have hnc75 := NB519_511.out
    have hcz76_0 : w49.cell? ⟨gb511, 0, none⟩ = some (.int .i64 t503) := bc BK511 0
    have hcz76_1 : w49.cell? ⟨gb511, 1, none⟩ = some (.int .i64 t504) := bc BK511 1
    have hcz76_2 : w49.cell? ⟨gb511, 2, none⟩ = some (.int .i64 t505) := bc BK511 2
    have hcz76_3 : w49.cell? ⟨gb511, 3, none⟩ = some (.slice Ao32 t506.length co32) := bc BK511 3
    have hcz76_4 : w49.cell? ⟨gb511, 4, none⟩ = some (.bool t509) := bc BK511 4
    have hfz76_0 := blk_frozen BK511.out 0
    have hfz76_1 := blk_frozen BK511.out 1
    have hfz76_2 := blk_frozen BK511.out 2
    have hfz76_3 := blk_frozen BK511.out 3
    have hfz76_4 := blk_frozen BK511.out 4
    go_wp2_with (first | ((with_reducible refine gate_callee (f := 22) rfl ?_); refine goesL_ (some 40) rfl rfl Try.func22 (by kernel_rfl) rfl #[.agg #[.int .i64 t525, .int .i64 t526, .int .i64 t527, .slice Ao53 t528.length co53, .bool t531], .agg #[.int .i64 t503, .int .i64 t504, .int .i64 t505, .slice Ao32 t506.length co32, .bool t509]] rfl gl_ ?_; (with_reducible refine (laws_eqFop.calls k t525 t526 t527 _ _ t528 t531 t503 t504 t505 _ _ t506 t509 false _ ?side1 ?side2 ?side3 ?side4 A56.out).mono ?_); (case side1 => refine (Kd.R_reads' (e := 9) (base := w.heap.size) (ok := fun k_ => (some k_ ≠ (v495 : Value).ownBlock ∧ (nb Ao32 t506.length co32 k_ ∧ nb Ao43 t515.length co43 k_))) (n := t528.length) (c := co53) ?_).2.2; exact (frN (Kd.R_types HO530.out BK533.out (by decide)))); (case side2 => exact (Kd.R_reads' HO530.out).2.1); (case side3 => refine (Kd.R_reads' (e := 9) (base := w.heap.size) (ok := fun k_ => (some k_ ≠ (v495 : Value).ownBlock ∧ (nb Ao43 t515.length co43 k_ ∧ nb Ao53 t528.length co53 k_))) (n := t506.length) (c := co32) ?_).2.2; exact (frN (Kd.R_types HO508.out BK533.out (by decide)))); (case side4 => exact (Kd.R_reads' HO508.out).2.1); rintro e w77 ⟨rfl, hb⟩; refine ⟨_, rfl, ?_⟩; have n0_ := m_ (Kd.R_below (frN (Kd.R_types HO496.out BK533.out (by decide))) hb); have n1_ := m_ (Kd.R_below (frN (Kd.R_types HO508.out BK533.out (by decide))) hb); have n2_ := m_ (Kd.R_below (frN (Kd.R_types HO517.out BK533.out (by decide))) hb); have n3_ := m_ (Kd.R_below (frN (Kd.R_types HO530.out BK533.out (by decide))) hb); have n4_ := m_ (blk_below (g := gb488) (o := .cells #[.int .i64 a0_0, .int .i64 a0_1, .int .i64 a0_2, .slice A0_3 l0_3.length c0_3, .bool a0_4] 45 (0, 0)) (kF BK488.out NB488_533.out) hb); have n5_ := m_ (blk_below (g := gb489) (o := .cells #[.bool a1_0, .bool a1_1, .bool a1_2, .int .i64 a1_3, .int .i64 a1_4] 46 (0, 0)) (kF BK489.out NB489_533.out) hb); have n6_ := m_ (blk_below (g := gb511) (o := .cells #[.int .i64 t503, .int .i64 t504, .int .i64 t505, .slice Ao32 t506.length co32, .bool t509] 25 (0, 0)) (kF BK511.out NB511_533.out) hb); have n7_ := m_ (blk_below (g := gb519) (o := .cells #[.int .i64 t512, .int .i64 t513, .int .i64 t514, .slice Ao43 t515.length co43, .bool t518] 25 (0, 0)) (kF BK519.out NB519_533.out) hb); have n8_ := m_ (blk_below (g := gb533) (o := .cells #[.int .i64 t525, .int .i64 t526, .int .i64 t527, .slice Ao53 t528.length co53, .bool t531] 25 (0, 0)) (kP BK533.out) hb); have n9_ := m_ (below_step (bN HB.out) hb); clear HO496; clear HO508; clear HO517; clear HO530; clear BK488; clear BK489; clear BK511; clear BK519; clear BK533; clear HB; have HO496 := n0_; have HO508 := n1_; have HO517 := n2_; have HO530 := n3_; have BK488 := n4_; have BK489 := n5_; have BK511 := n6_; have BK519 := n7_; have BK533 := n8_; have HB := n9_; clear n0_ n1_ n2_ n3_ n4_ n5_ n6_ n7_ n8_ n9_; (try clear hb); (try clear hb2); (try clear hk); (try clear hi)))
    go_meet
    case rel => exact ⟨_, (true), (by first | rfl | (simp; done) | (simp [*]; done)), H', ⟨by first | omega | exact Nat.le_refl _⟩, ⟨by (with_reducible repeat (first | apply Kd.R_alloc | apply Kd.R_drewN | apply Kd.R_drew)); exact Kd.R_mono HO508.out (fun _ hk => ⟨hk.2.1, hk.2.2⟩)⟩, ⟨by (with_reducible repeat (first | apply Kd.R_alloc | apply Kd.R_drewN | apply Kd.R_drew)); exact Kd.R_mono HO517.out (fun _ hk => ⟨hk.2.1, hk.2.2⟩)⟩, ⟨by (with_reducible repeat (first | apply Kd.R_alloc | apply Kd.R_drewN | apply Kd.R_drew)); exact Kd.R_mono HO530.out (fun _ hk => ⟨hk.2.1, hk.2.2⟩)⟩, ⟨kN BK488.out⟩, ⟨kN BK489.out⟩, ⟨kN BK511.out⟩, ⟨kN BK519.out⟩, ⟨kN BK533.out⟩, ⟨by repeat (first | (with_reducible first | exact HB.out | apply below_alloc | apply pw_below_drewN | apply below_drew1 | refine below_set ?_ GE488.out | refine below_set ?_ GE489.out | refine below_set ?_ GE511.out | refine below_set ?_ GE519.out | refine below_set ?_ GE533.out) | exact HB.out)⟩⟩
  case rest =>
   clear HC16
   try clear c1
   try clear c2
   try clear p2
   try clear c5
   try clear c6
   try clear c7
   try clear c16
   try clear c21
   try clear c22
   try clear c57
   try clear c58
   try clear c59
   try clear c60
   try clear c61
   try clear c63
   try clear c64
   try clear c65
   try clear c68
   try clear c69
   try clear c70
   try clear c71
   try clear c73
   try clear c74
   try clear c75
   try clear hcz62_0
   try clear hcz62_1
   try clear hcz62_2
   try clear hcz62_3
   try clear hcz62_4
   try clear hcz66_0
   try clear hcz66_1
   try clear hcz66_2
   try clear hcz66_3
   try clear hcz66_4
   try clear hcz72_0
   try clear hcz72_1
   try clear hcz72_2
   try clear hcz72_3
   try clear hcz72_4
   try clear hcz76_0
   try clear hcz76_1
   try clear hcz76_2
   try clear hcz76_3
   try clear hcz76_4
   try clear hfz62_0
   try clear hfz62_1
   try clear hfz62_2
   try clear hfz62_3
   try clear hfz62_4
   try clear hfz66_0
   try clear hfz66_1
   try clear hfz66_2
   try clear hfz66_3
   try clear hfz66_4
   try clear hfz72_0
   try clear hfz72_1
   try clear hfz72_2
   try clear hfz72_3
   try clear hfz72_4
   try clear hfz76_0
   try clear hfz76_1
   try clear hfz76_2
   try clear hfz76_3
   try clear hfz76_4
   obtain ⟨kq, x46_15, rfl, HA, HJ15, HO_512003, HO_520003, HO_534003, BK488, BK489, BK511, BK519, BK533, HB⟩ := hcut
   cases kq with
   | zero => exact absurd HA.out (by simp [laws_FnExactFopHear.j0])
   | succ kj15 =>
    have H := HA.out
    clear HA
    simp only [laws_FnExactFopHear.j0] at H
    by_cases c78 : x46_15 = true
    ·subst c78
     have H1 : (some false) = some r := by rw [if_pos rfl] at H; exact H
     clear H
     have H := H1
     clear H1
     obtain rfl := Option.some.inj H
     go_wp2
     go_ret
     exact ⟨by first | rfl | (simp [errW_none, errW_some] <;> rfl) | (simp [*, errW_none, errW_some] <;> rfl), by repeat (first | (with_reducible first | exact HB.out | apply below_alloc | apply pw_below_drewN | apply below_drew1 | refine below_set ?_ GE488.out | refine below_set ?_ GE489.out | refine below_set ?_ GE511.out | refine below_set ?_ GE519.out | refine below_set ?_ GE533.out) | exact HB.out)⟩
    ·replace c78 := Bool.eq_false_iff.mpr c78
     subst c78
     have H1 : ((laws_toFop.f kj15 a0_0 a0_1 a0_2 l0_3 a0_4).bind fun bt535 => ((laws_eqFop.f kj15 t512 t513 t514 t515 t518 bt535.1 bt535.2.1 bt535.2.2.1 bt535.2.2.2.1 bt535.2.2.2.2).bind fun t542 => (if t542 = true then ((laws_markFop.f kj15 t512 t513 t514 t515 t518 1).bind fun bt543 => (if bt543.1 < 0 then (laws_FnExactFopHear.j1 kj15 t510 true a0_0 a0_1 a0_2 l0_3 a0_4 a1_0 a1_1 a1_2 a1_3 a1_4 t503 t504 t505 t506 t509 t525 t526 t527 t528 t531) else ((laws_eqFop.f kj15 t525 t526 t527 t528 t531 t503 t504 t505 t506 t509).bind fun t545 => (if t545 = true then (laws_FnExactFopHear.j1 kj15 t510 (t532 != t510) a0_0 a0_1 a0_2 l0_3 a0_4 a1_0 a1_1 a1_2 a1_3 a1_4 t503 t504 t505 t506 t509 t525 t526 t527 t528 t531) else (laws_FnExactFopHear.j1 kj15 t510 true a0_0 a0_1 a0_2 l0_3 a0_4 a1_0 a1_1 a1_2 a1_3 a1_4 t503 t504 t505 t506 t509 t525 t526 t527 t528 t531))))) else (some false)))) = some r := by rw [if_neg (show ¬ (false = true) by decide)] at H; exact H
     clear H
     have H := H1
     clear H1
     replace H := Option.bind_eq_some_iff.mp H
     obtain ⟨⟨t535, t536, t537, t538, t541⟩, A790, H⟩ := H
     replace H : ((laws_eqFop.f kj15 t512 t513 t514 t515 t518 t535 t536 t537 t538 t541).bind fun t542 => (if t542 = true then ((laws_markFop.f kj15 t512 t513 t514 t515 t518 1).bind fun bt543 => (if bt543.1 < 0 then (laws_FnExactFopHear.j1 kj15 t510 true a0_0 a0_1 a0_2 l0_3 a0_4 a1_0 a1_1 a1_2 a1_3 a1_4 t503 t504 t505 t506 t509 t525 t526 t527 t528 t531) else ((laws_eqFop.f kj15 t525 t526 t527 t528 t531 t503 t504 t505 t506 t509).bind fun t545 => (if t545 = true then (laws_FnExactFopHear.j1 kj15 t510 (t532 != t510) a0_0 a0_1 a0_2 l0_3 a0_4 a1_0 a1_1 a1_2 a1_3 a1_4 t503 t504 t505 t506 t509 t525 t526 t527 t528 t531) else (laws_FnExactFopHear.j1 kj15 t510 true a0_0 a0_1 a0_2 l0_3 a0_4 a1_0 a1_1 a1_2 a1_3 a1_4 t503 t504 t505 t506 t509 t525 t526 t527 t528 t531))))) else (some false))) = some r := H
     have A79 := Aside0.mk A790
     clear A790
     replace H := Option.bind_eq_some_iff.mp H
     obtain ⟨t542, A800, H⟩ := H
     replace H : (if t542 = true then ((laws_markFop.f kj15 t512 t513 t514 t515 t518 1).bind fun bt543 => (if bt543.1 < 0 then (laws_FnExactFopHear.j1 kj15 t510 true a0_0 a0_1 a0_2 l0_3 a0_4 a1_0 a1_1 a1_2 a1_3 a1_4 t503 t504 t505 t506 t509 t525 t526 t527 t528 t531) else ((laws_eqFop.f kj15 t525 t526 t527 t528 t531 t503 t504 t505 t506 t509).bind fun t545 => (if t545 = true then (laws_FnExactFopHear.j1 kj15 t510 (t532 != t510) a0_0 a0_1 a0_2 l0_3 a0_4 a1_0 a1_1 a1_2 a1_3 a1_4 t503 t504 t505 t506 t509 t525 t526 t527 t528 t531) else (laws_FnExactFopHear.j1 kj15 t510 true a0_0 a0_1 a0_2 l0_3 a0_4 a1_0 a1_1 a1_2 a1_3 a1_4 t503 t504 t505 t506 t509 t525 t526 t527 t528 t531))))) else (some false)) = some r := H
     have A80 := Aside0.mk A800
     clear A800
     by_cases c81 : t542 = true
     ·subst c81
      have H1 : ((laws_markFop.f kj15 t512 t513 t514 t515 t518 1).bind fun bt543 => (if bt543.1 < 0 then (laws_FnExactFopHear.j1 kj15 t510 true a0_0 a0_1 a0_2 l0_3 a0_4 a1_0 a1_1 a1_2 a1_3 a1_4 t503 t504 t505 t506 t509 t525 t526 t527 t528 t531) else ((laws_eqFop.f kj15 t525 t526 t527 t528 t531 t503 t504 t505 t506 t509).bind fun t545 => (if t545 = true then (laws_FnExactFopHear.j1 kj15 t510 (t532 != t510) a0_0 a0_1 a0_2 l0_3 a0_4 a1_0 a1_1 a1_2 a1_3 a1_4 t503 t504 t505 t506 t509 t525 t526 t527 t528 t531) else (laws_FnExactFopHear.j1 kj15 t510 true a0_0 a0_1 a0_2 l0_3 a0_4 a1_0 a1_1 a1_2 a1_3 a1_4 t503 t504 t505 t506 t509 t525 t526 t527 t528 t531))))) = some r := by rw [if_pos rfl] at H; exact H
      clear H
      have H := H1
      clear H1
      replace H := Option.bind_eq_some_iff.mp H
      obtain ⟨⟨t543, t544⟩, A820, H⟩ := H
      replace H : (if t543 < 0 then (laws_FnExactFopHear.j1 kj15 t510 true a0_0 a0_1 a0_2 l0_3 a0_4 a1_0 a1_1 a1_2 a1_3 a1_4 t503 t504 t505 t506 t509 t525 t526 t527 t528 t531) else ((laws_eqFop.f kj15 t525 t526 t527 t528 t531 t503 t504 t505 t506 t509).bind fun t545 => (if t545 = true then (laws_FnExactFopHear.j1 kj15 t510 (t532 != t510) a0_0 a0_1 a0_2 l0_3 a0_4 a1_0 a1_1 a1_2 a1_3 a1_4 t503 t504 t505 t506 t509 t525 t526 t527 t528 t531) else (laws_FnExactFopHear.j1 kj15 t510 true a0_0 a0_1 a0_2 l0_3 a0_4 a1_0 a1_1 a1_2 a1_3 a1_4 t503 t504 t505 t506 t509 t525 t526 t527 t528 t531)))) = some r := H
      have A82 := Aside0.mk A820
      clear A820
      have HC83 := Aside0.mk H
      clear H
      try go_wp2
      have n0_ := m_ (Kd.R_drew HO_512003.out)
      have n1_ := m_ (Kd.R_drew HO_520003.out)
      have n2_ := m_ (Kd.R_drew HO_534003.out)
      have n3_ := m_ (blk_drew BK488.out)
      have n4_ := m_ (blk_drew BK489.out)
      have n5_ := m_ (blk_drew BK511.out)
      have n6_ := m_ (blk_drew BK519.out)
      have n7_ := m_ (blk_drew BK533.out)
      have n8_ := m_ (below_drew1 HB.out)
      clear HO_512003
      clear HO_520003
      clear HO_534003
      clear BK488
      clear BK489
      clear BK511
      clear BK519
      clear BK533
      clear HB
      have HO_512003 := n0_
      have HO_520003 := n1_
      have HO_534003 := n2_
      have BK488 := n3_
      have BK489 := n4_
      have BK511 := n5_
      have BK519 := n6_
      have BK533 := n7_
      have HB := n8_
      clear n0_ n1_ n2_ n3_ n4_ n5_ n6_ n7_ n8_
      refine start_ (n := 5) (S := fun w' => w'.cell? ⟨gb519, 0, none⟩ = some (.int .i64 t512) ∧ w'.cell? ⟨gb519, 1, none⟩ = some (.int .i64 t513) ∧ w'.cell? ⟨gb519, 2, none⟩ = some (.int .i64 t514) ∧ w'.cell? ⟨gb519, 3, none⟩ = some (.slice Ao43 t515.length co43) ∧ w'.cell? ⟨gb519, 4, none⟩ = some (.bool t518) ∧ w'.cell? ⟨gb488, 0, none⟩ = some (.int .i64 a0_0) ∧ w'.cell? ⟨gb488, 1, none⟩ = some (.int .i64 a0_1) ∧ w'.cell? ⟨gb488, 2, none⟩ = some (.int .i64 a0_2) ∧ w'.cell? ⟨gb488, 3, none⟩ = some (.slice A0_3 l0_3.length c0_3) ∧ w'.cell? ⟨gb488, 4, none⟩ = some (.bool a0_4)) (ds := []) #[false, false, false, false, false] (by kernel_rfl) rfl rfl ⟨bc BK519 0, bc BK519 1, bc BK519 2, bc BK519 3, bc BK519 4, bc BK488 0, bc BK488 1, bc BK488 2, bc BK488 3, bc BK488 4⟩ (fun hHeld => ?_)
      generalize wc.drew = w84 at HO_512003 HO_520003 HO_534003 BK488 BK489 BK511 BK519 BK533 HB hHeld ⊢
      refine take_ (i := 0) (N := some 47) (v := ?_) (a' := ?_) #[true, false, false, false, false] rfl rfl (by kernel_rfl) (fun _ _ _ h => h) (Or.inl ⟨by rfl, ?_⟩) hHeld ?_ ?_
      rotate_left
      ·rintro w' ⟨s0, s1, s2, s3, s4, s5, s6, s7, s8, s9⟩
       go_simp
       with_reducible rfl
      rotate_left
      ·simp only [Act.put, List.setIfInBounds_toArray, List.set_cons_zero, List.set_cons_succ, i64_w, i32_w]
       rfl
      refine take_ (i := 1) (N := some 48) (v := ?_) (a' := ?_) #[true, true, false, false, false] rfl rfl (by kernel_rfl) (fun _ _ _ h => h) (Or.inl ⟨by rfl, ?_⟩) hHeld ?_ ?_
      rotate_left
      ·rintro w' ⟨s0, s1, s2, s3, s4, s5, s6, s7, s8, s9⟩
       go_simp
       with_reducible rfl
      rotate_left
      ·simp only [Act.put, List.setIfInBounds_toArray, List.set_cons_zero, List.set_cons_succ, i64_w, i32_w]
       rfl
      refine one_ (i := 2) (N := some 49) #[true, true, true, false, false] rfl rfl (by kernel_rfl) (by decide) (fun K hK => ?_)
      refine goes_ Try.func20 (by kernel_rfl) rfl #[.agg #[.int .i64 a0_0, .int .i64 a0_1, .int .i64 a0_2, .slice A0_3 l0_3.length c0_3, .bool a0_4]] (by rfl) rfl rfl gl_ ?_
      with_reducible refine (laws_toFop.calls kj15 a0_0 a0_1 a0_2 _ _ l0_3 a0_4 t535 t536 t537 t538 t541 _ ?side1 ?side2 A79.out).mono ?_
      (case side1 => exact cN (Kd.C_below HR0_3.out HB.out))
      (case side2 => exact HC0_3.out)
      rintro e w85 ⟨v539, rfl, ho0, hb⟩
      refine ⟨_, rfl, ?_⟩
      have n0_ := m_ (Kd.R_elder' (rN HO_512003.out) (Kd.R_base ho0) hb)
      have n1_ := m_ (Kd.R_elder' (rN HO_520003.out) (Kd.R_base ho0) hb)
      have n2_ := m_ (Kd.R_elder' (rN HO_534003.out) (Kd.R_base ho0) hb)
      have n3_ := m_ (Kd.R_lower (Kd.R_new' (Kd.R_new' (Kd.R_new' ho0 (Kd.R_lt (rN HO_512003.out))) (Kd.R_lt (rN HO_520003.out))) (Kd.R_lt (rN HO_534003.out))) (below_size (bN HB.out)))
      have n4_ := m_ (blk_below (kN BK488.out) hb)
      have n5_ := m_ (blk_below (kN BK489.out) hb)
      have n6_ := m_ (blk_below (kN BK511.out) hb)
      have n7_ := m_ (blk_below (kN BK519.out) hb)
      have n8_ := m_ (blk_below (kN BK533.out) hb)
      have n9_ := m_ (below_step (bN HB.out) hb)
      clear HO_512003
      clear HO_520003
      clear HO_534003
      clear BK488
      clear BK489
      clear BK511
      clear BK519
      clear BK533
      clear HB
      have HO_512003 := n0_
      have HO_520003 := n1_
      have HO_534003 := n2_
      have HO540 := n3_
      have BK488 := n4_
      have BK489 := n5_
      have BK511 := n6_
      have BK519 := n7_
      have BK533 := n8_
      have HB := n9_
      clear n0_ n1_ n2_ n3_ n4_ n5_ n6_ n7_ n8_ n9_
      (try clear hb)
      (try clear hb2)
      (try clear hk)
      (try clear hi)
      (try clear ho0)
      obtain ⟨Ao86, co86, eo86⟩ := Kd.R_slice HO540.out
      (first | subst eo86 | (injection eo86 with f1_ f2_ f3_; have f4_ := f1_.symm; have f5_ := f3_.symm; clear f1_ f2_ f3_; subst f4_; subst f5_))
      refine hK.out _ _ ⟨bc BK519 0, bc BK519 1, bc BK519 2, bc BK519 3, bc BK519 4, bc BK488 0, bc BK488 1, bc BK488 2, bc BK488 3, bc BK488 4⟩ (fun hHeld => ?_)
      clear hK K
      refine np (h := ?_)
      refine one_ (i := 3) (N := some 50) #[true, true, true, true, false] rfl rfl (by kernel_rfl) (by decide) (fun K hK => ?_)
      refine goes_ Try.func22 (by kernel_rfl) rfl #[.agg #[.int .i64 t512, .int .i64 t513, .int .i64 t514, .slice Ao43 t515.length co43, .bool t518], .agg #[.int .i64 t535, .int .i64 t536, .int .i64 t537, .slice Ao86 t538.length co86, .bool t541]] (by rfl) rfl rfl gl_ ?_
      with_reducible refine (laws_eqFop.calls kj15 t512 t513 t514 _ _ t515 t518 t535 t536 t537 _ _ t538 t541 true _ ?side1 ?side2 ?side3 ?side4 A80.out).mono ?_
      (case side1 => exact cN (Kd.R_reads' HO_520003.out).2.2)
      (case side2 => exact (Kd.R_reads' HO_520003.out).2.1)
      (case side3 => exact cN (Kd.R_reads' HO540.out).2.2)
      (case side4 => exact (Kd.R_reads' HO540.out).2.1)
      rintro e w87 ⟨rfl, hb⟩
      refine ⟨_, rfl, ?_⟩
      have n0_ := m_ (Kd.R_below (rN HO_512003.out) hb)
      have n1_ := m_ (Kd.R_below (rN HO_520003.out) hb)
      have n2_ := m_ (Kd.R_below (rN HO_534003.out) hb)
      have n3_ := m_ (Kd.R_below (rN HO540.out) hb)
      have n4_ := m_ (blk_below (kN BK488.out) hb)
      have n5_ := m_ (blk_below (kN BK489.out) hb)
      have n6_ := m_ (blk_below (kN BK511.out) hb)
      have n7_ := m_ (blk_below (kN BK519.out) hb)
      have n8_ := m_ (blk_below (kN BK533.out) hb)
      have n9_ := m_ (below_step (bN HB.out) hb)
      clear HO_512003
      clear HO_520003
      clear HO_534003
      clear HO540
      clear BK488
      clear BK489
      clear BK511
      clear BK519
      clear BK533
      clear HB
      have HO_512003 := n0_
      have HO_520003 := n1_
      have HO_534003 := n2_
      have HO540 := n3_
      have BK488 := n4_
      have BK489 := n5_
      have BK511 := n6_
      have BK519 := n7_
      have BK533 := n8_
      have HB := n9_
      clear n0_ n1_ n2_ n3_ n4_ n5_ n6_ n7_ n8_ n9_
      (try clear hb)
      (try clear hb2)
      (try clear hk)
      (try clear hi)
      refine hK.out _ _ ⟨bc BK519 0, bc BK519 1, bc BK519 2, bc BK519 3, bc BK519 4, bc BK488 0, bc BK488 1, bc BK488 2, bc BK488 3, bc BK488 4⟩ (fun hHeld => ?_)
      clear hK K
      refine np (h := ?_)
      refine pure_ (i := 4) (N := some 51) (v := ?_) (a' := ?_) #[true, true, true, true, true] rfl rfl (by kernel_rfl) (fun _ _ _ h => h) (Or.inl ⟨by rfl, ?_⟩) ?_ ?_
      rotate_left
      ·intro w'
       go_simp
       with_reducible rfl
      rotate_left
      ·simp only [Act.put, List.setIfInBounds_toArray, List.set_cons_zero, List.set_cons_succ, i64_w, i32_w]
       rfl
      refine done_ (by kernel_rfl) ?_
      have hnb88 := NB519_488.out
      have hnc88 := NB488_519.out
      have hnb89 := NB519_489.out
      have hnc89 := NB489_519.out
      have hnb90 := NB519_511.out
      have hnc90 := NB511_519.out
      have hnb91 := NB519_533.out
      have hnc91 := NB533_519.out
      have hcz92_0 : w87.cell? ⟨gb519, 0, none⟩ = some (.int .i64 t512) := bc BK519 0
      have hcz92_1 : w87.cell? ⟨gb519, 1, none⟩ = some (.int .i64 t513) := bc BK519 1
      have hcz92_2 : w87.cell? ⟨gb519, 2, none⟩ = some (.int .i64 t514) := bc BK519 2
      have hcz92_3 : w87.cell? ⟨gb519, 3, none⟩ = some (.slice Ao43 t515.length co43) := bc BK519 3
      have hcz92_4 : w87.cell? ⟨gb519, 4, none⟩ = some (.bool t518) := bc BK519 4
      have hfz92_0 := blk_frozen BK519.out 0
      have hfz92_1 := blk_frozen BK519.out 1
      have hfz92_2 := blk_frozen BK519.out 2
      have hfz92_3 := blk_frozen BK519.out 3
      have hfz92_4 := blk_frozen BK519.out 4
      go_upto_region 14 with (first | ((with_reducible refine gate_callee (f := 23) rfl ?_); refine goesL_ (some 54) rfl rfl Try.func23 (by kernel_rfl) rfl #[.agg #[.int .i64 t512, .int .i64 t513, .int .i64 t514, .slice Ao43 t515.length co43, .bool t518], .int .i64 1] rfl gl_ ?_; (with_reducible refine (laws_markFop.calls kj15 t512 t513 t514 (fun k_ => some k_ = (.slice Ao43 t515.length co43 : Value).ownBlock) (.slice Ao43 t515.length co43) t515 t518 1 t543 t544 w _ ?side1 ?side2 A82.out).mono ?_); (case side1 => repeat (first | (with_reducible first | exact HB.out | apply below_alloc | apply pw_below_drewN | apply below_drew1 | refine below_set ?_ GE488.out | refine below_set ?_ GE489.out | refine below_set ?_ GE511.out | refine below_set ?_ GE519.out | refine below_set ?_ GE533.out) | exact HB.out)); (case side2 => exact Kd.R_tight rfl HO_520003.out); rintro e w93 ⟨rfl, hy0, hb, hkp⟩; refine ⟨_, rfl, ?_⟩; have n0_ := m_ (Kd.R_mono (ok' := fun k_ => nb Ao43 t515.length co43 k_ ∧ nb Ao53 t528.length co53 k_ ∧ nb Ao86 t538.length co86 k_) (Kd.R_keptB (HO_512003.out) hkp (fun k_ hk_ hs_ => (hk_.1.1) hs_)) (fun k_ hk_ => ⟨hk_.1.1.1, hk_.1.1.2, hk_.1.2⟩)); have n1_ := m_ (Kd.R_reok rfl hy0 (fun k_ e_ => HO_520003.out.1 k_ e_)); have n2_ := m_ (Kd.R_mono (ok' := fun k_ => nb Ao32 t506.length co32 k_ ∧ nb Ao43 t515.length co43 k_ ∧ nb Ao86 t538.length co86 k_) (Kd.R_keptB (HO_534003.out) hkp (fun k_ hk_ hs_ => (hk_.1.2) hs_)) (fun k_ hk_ => ⟨hk_.1.1.1, hk_.1.1.2, hk_.1.2⟩)); have n3_ := m_ (blk_kept (kN BK488.out) hkp (fun hs_ => (fun e_ => (Kd.R_ne HO_520003.out BK488.out (by decide)) e_) hs_)); have n4_ := m_ (blk_kept (kN BK489.out) hkp (fun hs_ => (fun e_ => (Kd.R_ne HO_520003.out BK489.out (by decide)) e_) hs_)); have n5_ := m_ (blk_kept (kN BK511.out) hkp (fun hs_ => (fun e_ => (Kd.R_ne HO_520003.out BK511.out (by decide)) e_) hs_)); have n6_ := m_ (blk_kept (kN BK519.out) hkp (fun hs_ => (fun e_ => (Kd.R_ne HO_520003.out BK519.out (by decide)) e_) hs_)); have n7_ := m_ (blk_kept (kN BK533.out) hkp (fun hs_ => (fun e_ => (Kd.R_ne HO_520003.out BK533.out (by decide)) e_) hs_)); have n8_ := m_ (Kd.R_mono (ok' := fun k_ => nb Ao32 t506.length co32 k_ ∧ nb Ao43 t515.length co43 k_ ∧ nb Ao53 t528.length co53 k_) (Kd.R_keptB (HO540.out) hkp (fun k_ hk_ hs_ => (hk_.1.2) hs_)) (fun k_ hk_ => ⟨hk_.1.1.1.2, hk_.1.1.2, hk_.1.2⟩)); have n9_ := m_ (hb); clear HO_512003; clear HO_520003; clear HO_534003; clear BK488; clear BK489; clear BK511; clear BK519; clear BK533; clear HO540; clear HB; have HO_512003 := n0_; have HO_520003 := n1_; have HO_534003 := n2_; have BK488 := n3_; have BK489 := n4_; have BK511 := n5_; have BK519 := n6_; have BK533 := n7_; have HO540 := n8_; have HB := n9_; clear n0_ n1_ n2_ n3_ n4_ n5_ n6_ n7_ n8_ n9_; (try clear hb); (try clear hkp); (try clear hy0)))
      (try simp only [Act.put, List.setIfInBounds_toArray, List.set_cons_zero, List.set_cons_succ])
      go_cut [67] (fun v67 wc => ∃ (kq : Nat) (x67_82 : Bool), v67 = .bool x67_82 ∧ Aside0 (laws_FnExactFopHear.j1 kq t510 x67_82 a0_0 a0_1 a0_2 l0_3 a0_4 a1_0 a1_1 a1_2 a1_3 a1_4 t503 t504 t505 t506 t509 t525 t526 t527 t528 t531 = some r) ∧ Aside0 (kq ≤ kj15) ∧ Aside0 (Kd.R Kd.string 9 wc w.heap.size (fun k_ => some k_ ≠ ((.slice Ao43 t515.length co43) : Value).ownBlock ∧ some k_ ≠ ((.slice Ao53 t528.length co53) : Value).ownBlock) (.slice Ao32 t506.length co32) t506) ∧ Aside0 (Kd.R Kd.string 9 wc w.heap.size (fun k_ => some k_ ≠ ((.slice Ao32 t506.length co32) : Value).ownBlock ∧ some k_ ≠ ((.slice Ao53 t528.length co53) : Value).ownBlock) (.slice Ao43 t515.length co43) t544) ∧ Aside0 (Kd.R Kd.string 9 wc w.heap.size (fun k_ => some k_ ≠ ((.slice Ao32 t506.length co32) : Value).ownBlock ∧ some k_ ≠ ((.slice Ao43 t515.length co43) : Value).ownBlock) (.slice Ao53 t528.length co53) t528) ∧ Aside0 (wc.heap[gb488]? = some (.cells #[.int .i64 a0_0, .int .i64 a0_1, .int .i64 a0_2, (.slice A0_3 l0_3.length c0_3), .bool a0_4] 45 (0, 0))) ∧ Aside0 (wc.heap[gb489]? = some (.cells #[.bool a1_0, .bool a1_1, .bool a1_2, .int .i64 a1_3, .int .i64 a1_4] 46 (0, 0))) ∧ Aside0 (wc.heap[gb511]? = some (.cells #[.int .i64 t503, .int .i64 t504, .int .i64 t505, (.slice Ao32 t506.length co32), .bool t509] 25 (0, 0))) ∧ Aside0 (wc.heap[gb519]? = some (.cells #[.int .i64 t512, .int .i64 t513, .int .i64 t514, (.slice Ao43 t515.length co43), .bool t518] 25 (0, 0))) ∧ Aside0 (wc.heap[gb533]? = some (.cells #[.int .i64 t525, .int .i64 t526, .int .i64 t527, (.slice Ao53 t528.length co53), .bool t531] 25 (0, 0))) ∧ Aside0 (Below w.heap.size w wc))
      case first =>
       have H := HC83.out
       clear HC83
       by_cases c94 : t543 < 0
       ·rw [if_pos c94] at H
        have c94b0 : decide (t543 < 0) = true := decide_eq_true c94
        clear c94
        (first | rw [c94b0] | (simp only [i64_w, i32_w]; rw [c94b0]) | skip)
        have H' := Aside0.mk H
        clear H
        go_wp2
        go_meet
        case rel => exact ⟨_, (true), (by first | rfl | (simp; done) | (simp [*]; done)), H', ⟨by have := HJ15.out; first | omega | exact Nat.le_refl _⟩, ⟨by (with_reducible repeat (first | apply Kd.R_alloc | apply Kd.R_drewN | apply Kd.R_drew)); exact Kd.R_mono HO_512003.out (fun _ hk => ⟨hk.1, hk.2.1⟩)⟩, ⟨by (with_reducible repeat (first | apply Kd.R_alloc | apply Kd.R_drewN | apply Kd.R_drew)); exact Kd.R_mono HO_520003.out (fun _ hk => ⟨hk.1.1, hk.1.2⟩)⟩, ⟨by (with_reducible repeat (first | apply Kd.R_alloc | apply Kd.R_drewN | apply Kd.R_drew)); exact Kd.R_mono HO_534003.out (fun _ hk => ⟨hk.1, hk.2.1⟩)⟩, ⟨kN BK488.out⟩, ⟨kN BK489.out⟩, ⟨kN BK511.out⟩, ⟨kN BK519.out⟩, ⟨kN BK533.out⟩, ⟨by repeat (first | (with_reducible first | exact HB.out | apply below_alloc | apply pw_below_drewN | apply below_drew1 | refine below_set ?_ GE488.out | refine below_set ?_ GE489.out | refine below_set ?_ GE511.out | refine below_set ?_ GE519.out | refine below_set ?_ GE533.out) | exact HB.out)⟩⟩
       ·rw [if_neg c94] at H
        have c94b0 : decide (t543 < 0) = false := decide_eq_false c94
        clear c94
        (first | rw [c94b0] | (simp only [i64_w, i32_w]; rw [c94b0]) | skip)
        replace H := Option.bind_eq_some_iff.mp H
        obtain ⟨t545, A950, H⟩ := H
        replace H : (if t545 = true then (laws_FnExactFopHear.j1 kj15 t510 (t532 != t510) a0_0 a0_1 a0_2 l0_3 a0_4 a1_0 a1_1 a1_2 a1_3 a1_4 t503 t504 t505 t506 t509 t525 t526 t527 t528 t531) else (laws_FnExactFopHear.j1 kj15 t510 true a0_0 a0_1 a0_2 l0_3 a0_4 a1_0 a1_1 a1_2 a1_3 a1_4 t503 t504 t505 t506 t509 t525 t526 t527 t528 t531)) = some r := H
        have A95 := Aside0.mk A950
        clear A950
        by_cases c96 : t545 = true
        ·subst c96
         have H1 : (laws_FnExactFopHear.j1 kj15 t510 (t532 != t510) a0_0 a0_1 a0_2 l0_3 a0_4 a1_0 a1_1 a1_2 a1_3 a1_4 t503 t504 t505 t506 t509 t525 t526 t527 t528 t531) = some r := by rw [if_pos rfl] at H; exact H
         clear H
         have H := H1
         clear H1
         have H' := Aside0.mk H
         clear H
         have hnb97 := NB533_488.out
         have hnc97 := NB488_533.out
         have hnb98 := NB533_489.out
         have hnc98 := NB489_533.out
         have hnb99 := NB533_511.out
         have hnc99 := NB511_533.out
         have hnb100 := NB533_519.out
         have hnc100 := NB519_533.out
         have hcz101_0 : w93.cell? ⟨gb533, 0, none⟩ = some (.int .i64 t525) := bc BK533 0
         have hcz101_1 : w93.cell? ⟨gb533, 1, none⟩ = some (.int .i64 t526) := bc BK533 1
         have hcz101_2 : w93.cell? ⟨gb533, 2, none⟩ = some (.int .i64 t527) := bc BK533 2
         have hcz101_3 : w93.cell? ⟨gb533, 3, none⟩ = some (.slice Ao53 t528.length co53) := bc BK533 3
         have hcz101_4 : w93.cell? ⟨gb533, 4, none⟩ = some (.bool t531) := bc BK533 4
         have hfz101_0 := blk_frozen BK533.out 0
         have hfz101_1 := blk_frozen BK533.out 1
         have hfz101_2 := blk_frozen BK533.out 2
         have hfz101_3 := blk_frozen BK533.out 3
         have hfz101_4 := blk_frozen BK533.out 4
         have hnb102 := NB511_488.out
         have hnc102 := NB488_511.out
         have hnb103 := NB511_489.out
         have hnc103 := NB489_511.out
         have hnb104 := NB511_519.out
         have hnc104 := NB519_511.out
         have hcz105_0 : w93.cell? ⟨gb511, 0, none⟩ = some (.int .i64 t503) := bc BK511 0
         have hcz105_1 : w93.cell? ⟨gb511, 1, none⟩ = some (.int .i64 t504) := bc BK511 1
         have hcz105_2 : w93.cell? ⟨gb511, 2, none⟩ = some (.int .i64 t505) := bc BK511 2
         have hcz105_3 : w93.cell? ⟨gb511, 3, none⟩ = some (.slice Ao32 t506.length co32) := bc BK511 3
         have hcz105_4 : w93.cell? ⟨gb511, 4, none⟩ = some (.bool t509) := bc BK511 4
         have hfz105_0 := blk_frozen BK511.out 0
         have hfz105_1 := blk_frozen BK511.out 1
         have hfz105_2 := blk_frozen BK511.out 2
         have hfz105_3 := blk_frozen BK511.out 3
         have hfz105_4 := blk_frozen BK511.out 4
         go_wp2_with (first | (go_at_call 22; (with_reducible refine (laws_eqFop.calls kj15 t525 t526 t527 _ _ t528 t531 t503 t504 t505 _ _ t506 t509 true _ ?side1 ?side2 ?side3 ?side4 A95.out).mono ?_); (case side1 => exact cN (Kd.R_reads' HO_534003.out).2.2); (case side2 => exact (Kd.R_reads' HO_534003.out).2.1); (case side3 => exact cN (Kd.R_reads' HO_512003.out).2.2); (case side4 => exact (Kd.R_reads' HO_512003.out).2.1); rintro e w106 ⟨rfl, hb⟩; have n0_ := m_ (Kd.R_below (rN HO_512003.out) hb); have n1_ := m_ (Kd.R_below (rN HO_520003.out) hb); have n2_ := m_ (Kd.R_below (rN HO_534003.out) hb); have n3_ := m_ (Kd.R_below (rN HO540.out) hb); have n4_ := m_ (blk_below (kN BK488.out) hb); have n5_ := m_ (blk_below (kN BK489.out) hb); have n6_ := m_ (blk_below (kN BK511.out) hb); have n7_ := m_ (blk_below (kN BK519.out) hb); have n8_ := m_ (blk_below (kN BK533.out) hb); have n9_ := m_ (below_step (bN HB.out) hb); clear HO_512003; clear HO_520003; clear HO_534003; clear HO540; clear BK488; clear BK489; clear BK511; clear BK519; clear BK533; clear HB; have HO_512003 := n0_; have HO_520003 := n1_; have HO_534003 := n2_; have HO540 := n3_; have BK488 := n4_; have BK489 := n5_; have BK511 := n6_; have BK519 := n7_; have BK533 := n8_; have HB := n9_; clear n0_ n1_ n2_ n3_ n4_ n5_ n6_ n7_ n8_ n9_; (try clear hb); (try clear hb2); (try clear hk); (try clear hi)))
         go_meet
         case rel => exact ⟨_, ((t532 != t510)), (by first | rfl | (simp; done) | (simp [*]; done)), H', ⟨by have := HJ15.out; first | omega | exact Nat.le_refl _⟩, ⟨by (with_reducible repeat (first | apply Kd.R_alloc | apply Kd.R_drewN | apply Kd.R_drew)); exact Kd.R_mono HO_512003.out (fun _ hk => ⟨hk.1, hk.2.1⟩)⟩, ⟨by (with_reducible repeat (first | apply Kd.R_alloc | apply Kd.R_drewN | apply Kd.R_drew)); exact Kd.R_mono HO_520003.out (fun _ hk => ⟨hk.1.1, hk.1.2⟩)⟩, ⟨by (with_reducible repeat (first | apply Kd.R_alloc | apply Kd.R_drewN | apply Kd.R_drew)); exact Kd.R_mono HO_534003.out (fun _ hk => ⟨hk.1, hk.2.1⟩)⟩, ⟨kN BK488.out⟩, ⟨kN BK489.out⟩, ⟨kN BK511.out⟩, ⟨kN BK519.out⟩, ⟨kN BK533.out⟩, ⟨by repeat (first | (with_reducible first | exact HB.out | apply below_alloc | apply pw_below_drewN | apply below_drew1 | refine below_set ?_ GE488.out | refine below_set ?_ GE489.out | refine below_set ?_ GE511.out | refine below_set ?_ GE519.out | refine below_set ?_ GE533.out) | exact HB.out)⟩⟩
        ·replace c96 := Bool.eq_false_iff.mpr c96
         subst c96
         have H1 : (laws_FnExactFopHear.j1 kj15 t510 true a0_0 a0_1 a0_2 l0_3 a0_4 a1_0 a1_1 a1_2 a1_3 a1_4 t503 t504 t505 t506 t509 t525 t526 t527 t528 t531) = some r := by rw [if_neg (show ¬ (false = true) by decide)] at H; exact H
         clear H
         have H := H1
         clear H1
         have H' := Aside0.mk H
         clear H
         have hnb107 := NB533_488.out
         have hnc107 := NB488_533.out
         have hnb108 := NB533_489.out
         have hnc108 := NB489_533.out
         have hnb109 := NB533_511.out
         have hnc109 := NB511_533.out
         have hnb110 := NB533_519.out
         have hnc110 := NB519_533.out
         have hcz111_0 : w93.cell? ⟨gb533, 0, none⟩ = some (.int .i64 t525) := bc BK533 0
         have hcz111_1 : w93.cell? ⟨gb533, 1, none⟩ = some (.int .i64 t526) := bc BK533 1
         have hcz111_2 : w93.cell? ⟨gb533, 2, none⟩ = some (.int .i64 t527) := bc BK533 2
         have hcz111_3 : w93.cell? ⟨gb533, 3, none⟩ = some (.slice Ao53 t528.length co53) := bc BK533 3
         have hcz111_4 : w93.cell? ⟨gb533, 4, none⟩ = some (.bool t531) := bc BK533 4
         have hfz111_0 := blk_frozen BK533.out 0
         have hfz111_1 := blk_frozen BK533.out 1
         have hfz111_2 := blk_frozen BK533.out 2
         have hfz111_3 := blk_frozen BK533.out 3
         have hfz111_4 := blk_frozen BK533.out 4
         have hnb112 := NB511_488.out
         have hnc112 := NB488_511.out
         have hnb113 := NB511_489.out
         have hnc113 := NB489_511.out
         have hnb114 := NB511_519.out
         have hnc114 := NB519_511.out
         have hcz115_0 : w93.cell? ⟨gb511, 0, none⟩ = some (.int .i64 t503) := bc BK511 0
         have hcz115_1 : w93.cell? ⟨gb511, 1, none⟩ = some (.int .i64 t504) := bc BK511 1
         have hcz115_2 : w93.cell? ⟨gb511, 2, none⟩ = some (.int .i64 t505) := bc BK511 2
         have hcz115_3 : w93.cell? ⟨gb511, 3, none⟩ = some (.slice Ao32 t506.length co32) := bc BK511 3
         have hcz115_4 : w93.cell? ⟨gb511, 4, none⟩ = some (.bool t509) := bc BK511 4
         have hfz115_0 := blk_frozen BK511.out 0
         have hfz115_1 := blk_frozen BK511.out 1
         have hfz115_2 := blk_frozen BK511.out 2
         have hfz115_3 := blk_frozen BK511.out 3
         have hfz115_4 := blk_frozen BK511.out 4
         go_wp2_with (first | (go_at_call 22; (with_reducible refine (laws_eqFop.calls kj15 t525 t526 t527 _ _ t528 t531 t503 t504 t505 _ _ t506 t509 false _ ?side1 ?side2 ?side3 ?side4 A95.out).mono ?_); (case side1 => exact cN (Kd.R_reads' HO_534003.out).2.2); (case side2 => exact (Kd.R_reads' HO_534003.out).2.1); (case side3 => exact cN (Kd.R_reads' HO_512003.out).2.2); (case side4 => exact (Kd.R_reads' HO_512003.out).2.1); rintro e w116 ⟨rfl, hb⟩; have n0_ := m_ (Kd.R_below (rN HO_512003.out) hb); have n1_ := m_ (Kd.R_below (rN HO_520003.out) hb); have n2_ := m_ (Kd.R_below (rN HO_534003.out) hb); have n3_ := m_ (Kd.R_below (rN HO540.out) hb); have n4_ := m_ (blk_below (kN BK488.out) hb); have n5_ := m_ (blk_below (kN BK489.out) hb); have n6_ := m_ (blk_below (kN BK511.out) hb); have n7_ := m_ (blk_below (kN BK519.out) hb); have n8_ := m_ (blk_below (kN BK533.out) hb); have n9_ := m_ (below_step (bN HB.out) hb); clear HO_512003; clear HO_520003; clear HO_534003; clear HO540; clear BK488; clear BK489; clear BK511; clear BK519; clear BK533; clear HB; have HO_512003 := n0_; have HO_520003 := n1_; have HO_534003 := n2_; have HO540 := n3_; have BK488 := n4_; have BK489 := n5_; have BK511 := n6_; have BK519 := n7_; have BK533 := n8_; have HB := n9_; clear n0_ n1_ n2_ n3_ n4_ n5_ n6_ n7_ n8_ n9_; (try clear hb); (try clear hb2); (try clear hk); (try clear hi)))
         go_meet
         case rel => exact ⟨_, (true), (by first | rfl | (simp; done) | (simp [*]; done)), H', ⟨by have := HJ15.out; first | omega | exact Nat.le_refl _⟩, ⟨by (with_reducible repeat (first | apply Kd.R_alloc | apply Kd.R_drewN | apply Kd.R_drew)); exact Kd.R_mono HO_512003.out (fun _ hk => ⟨hk.1, hk.2.1⟩)⟩, ⟨by (with_reducible repeat (first | apply Kd.R_alloc | apply Kd.R_drewN | apply Kd.R_drew)); exact Kd.R_mono HO_520003.out (fun _ hk => ⟨hk.1.1, hk.1.2⟩)⟩, ⟨by (with_reducible repeat (first | apply Kd.R_alloc | apply Kd.R_drewN | apply Kd.R_drew)); exact Kd.R_mono HO_534003.out (fun _ hk => ⟨hk.1, hk.2.1⟩)⟩, ⟨kN BK488.out⟩, ⟨kN BK489.out⟩, ⟨kN BK511.out⟩, ⟨kN BK519.out⟩, ⟨kN BK533.out⟩, ⟨by repeat (first | (with_reducible first | exact HB.out | apply below_alloc | apply pw_below_drewN | apply below_drew1 | refine below_set ?_ GE488.out | refine below_set ?_ GE489.out | refine below_set ?_ GE511.out | refine below_set ?_ GE519.out | refine below_set ?_ GE533.out) | exact HB.out)⟩⟩
      case rest =>
       clear HC83
       try clear c1
       try clear c2
       try clear p2
       try clear c5
       try clear c6
       try clear c7
       try clear c8
       try clear c9
       try clear c10
       try clear c11
       try clear c16
       try clear c20
       try clear c21
       try clear c22
       try clear c23
       try clear c57
       try clear c58
       try clear c59
       try clear c60
       try clear c61
       try clear c63
       try clear c64
       try clear c65
       try clear c68
       try clear c69
       try clear c70
       try clear c71
       try clear c73
       try clear c74
       try clear c75
       try clear c78
       try clear c81
       try clear c88
       try clear c89
       try clear c90
       try clear c91
       try clear c94
       try clear c94b0
       try clear c96
       try clear c97
       try clear c98
       try clear c99
       try clear c100
       try clear c102
       try clear c103
       try clear c104
       try clear c107
       try clear c108
       try clear c109
       try clear c110
       try clear c112
       try clear c113
       try clear c114
       try clear hcz101_0
       try clear hcz101_1
       try clear hcz101_2
       try clear hcz101_3
       try clear hcz101_4
       try clear hcz105_0
       try clear hcz105_1
       try clear hcz105_2
       try clear hcz105_3
       try clear hcz105_4
       try clear hcz111_0
       try clear hcz111_1
       try clear hcz111_2
       try clear hcz111_3
       try clear hcz111_4
       try clear hcz115_0
       try clear hcz115_1
       try clear hcz115_2
       try clear hcz115_3
       try clear hcz115_4
       try clear hcz62_0
       try clear hcz62_1
       try clear hcz62_2
       try clear hcz62_3
       try clear hcz62_4
       try clear hcz66_0
       try clear hcz66_1
       try clear hcz66_2
       try clear hcz66_3
       try clear hcz66_4
       try clear hcz72_0
       try clear hcz72_1
       try clear hcz72_2
       try clear hcz72_3
       try clear hcz72_4
       try clear hcz76_0
       try clear hcz76_1
       try clear hcz76_2
       try clear hcz76_3
       try clear hcz76_4
       try clear hcz92_0
       try clear hcz92_1
       try clear hcz92_2
       try clear hcz92_3
       try clear hcz92_4
       try clear hfz101_0
       try clear hfz101_1
       try clear hfz101_2
       try clear hfz101_3
       try clear hfz101_4
       try clear hfz105_0
       try clear hfz105_1
       try clear hfz105_2
       try clear hfz105_3
       try clear hfz105_4
       try clear hfz111_0
       try clear hfz111_1
       try clear hfz111_2
       try clear hfz111_3
       try clear hfz111_4
       try clear hfz115_0
       try clear hfz115_1
       try clear hfz115_2
       try clear hfz115_3
       try clear hfz115_4
       try clear hfz62_0
       try clear hfz62_1
       try clear hfz62_2
       try clear hfz62_3
       try clear hfz62_4
       try clear hfz66_0
       try clear hfz66_1
       try clear hfz66_2
       try clear hfz66_3
       try clear hfz66_4
       try clear hfz72_0
       try clear hfz72_1
       try clear hfz72_2
       try clear hfz72_3
       try clear hfz72_4
       try clear hfz76_0
       try clear hfz76_1
       try clear hfz76_2
       try clear hfz76_3
       try clear hfz76_4
       try clear hfz92_0
       try clear hfz92_1
       try clear hfz92_2
       try clear hfz92_3
       try clear hfz92_4
       try clear p2
       obtain ⟨kq, x67_82, rfl, HA, HJ82, HO_512003, HO_520003, HO_534003, BK488, BK489, BK511, BK519, BK533, HB⟩ := hcut
       have hl520003_82 := (Kd.R_reads' HO_520003.out).1
       rw [hl520003_82] at HO_520003
       (try simp only [hl520003_82])
       (try simp only [hl520003_82] at BK488)
       (try simp only [hl520003_82] at BK489)
       (try simp only [hl520003_82] at BK511)
       (try simp only [hl520003_82] at BK519)
       (try simp only [hl520003_82] at BK533)
       (try simp only [hl520003_82] at HO_512003)
       (try simp only [hl520003_82] at HO_534003)
       cases kq with
       | zero => exact absurd HA.out (by simp [laws_FnExactFopHear.j1])
       | succ kj82 =>
        have H := HA.out
        clear HA
        simp only [laws_FnExactFopHear.j1] at H
        by_cases c117 : x67_82 = true
        ·subst c117
         have H1 : (some false) = some r := by rw [if_pos rfl] at H; exact H
         clear H
         have H := H1
         clear H1
         obtain rfl := Option.some.inj H
         go_wp2
         go_ret
         exact ⟨by first | rfl | (simp [errW_none, errW_some] <;> rfl) | (simp [*, errW_none, errW_some] <;> rfl), by repeat (first | (with_reducible first | exact HB.out | apply below_alloc | apply pw_below_drewN | apply below_drew1 | refine below_set ?_ GE488.out | refine below_set ?_ GE489.out | refine below_set ?_ GE511.out | refine below_set ?_ GE519.out | refine below_set ?_ GE533.out) | exact HB.out)⟩
        ·replace c117 := Bool.eq_false_iff.mpr c117
         subst c117
         have H1 : ((laws_markFop.f kj82 t525 t526 t527 t528 t531 1).bind fun bt546 => ((laws_heldFop.f kj82 t525 t526 t527 bt546.2 t531 1).bind fun t548 => (if t548 < 0 then (some false) else (if t548 = bt546.1 then ((laws_toFop.f kj82 a0_0 a0_1 a0_2 l0_3 a0_4).bind fun bt549 => ((laws_toFarm.f a1_0 a1_1 a1_2 a1_3 a1_4).bind fun bt556 => ((impl_FopHear.f kj82 bt549.1 bt549.2.1 bt549.2.2.1 bt549.2.2.2.1 bt549.2.2.2.2 bt556.1 bt556.2.1 bt556.2.2.1 bt556.2.2.2.1 bt556.2.2.2.2).bind fun bt561 => ((laws_eqFop.f kj82 bt561.1 bt561.2.1 bt561.2.2.1 bt561.2.2.2.1 bt561.2.2.2.2.1 t503 t504 t505 t506 t509).bind fun t570 => (if t570 = true then (laws_FnExactFopHear.j2 kj82 bt546.1 (bt561.2.2.2.2.2 != t510) t525 t526 t527 bt546.2 t531) else (laws_FnExactFopHear.j2 kj82 bt546.1 true t525 t526 t527 bt546.2 t531)))))) else (some false))))) = some r := by rw [if_neg (show ¬ (false = true) by decide)] at H; exact H
         clear H
         have H := H1
         clear H1
         replace H := Option.bind_eq_some_iff.mp H
         obtain ⟨⟨t546, t547⟩, A1180, H⟩ := H
         replace H : ((laws_heldFop.f kj82 t525 t526 t527 t547 t531 1).bind fun t548 => (if t548 < 0 then (some false) else (if t548 = t546 then ((laws_toFop.f kj82 a0_0 a0_1 a0_2 l0_3 a0_4).bind fun bt549 => ((laws_toFarm.f a1_0 a1_1 a1_2 a1_3 a1_4).bind fun bt556 => ((impl_FopHear.f kj82 bt549.1 bt549.2.1 bt549.2.2.1 bt549.2.2.2.1 bt549.2.2.2.2 bt556.1 bt556.2.1 bt556.2.2.1 bt556.2.2.2.1 bt556.2.2.2.2).bind fun bt561 => ((laws_eqFop.f kj82 bt561.1 bt561.2.1 bt561.2.2.1 bt561.2.2.2.1 bt561.2.2.2.2.1 t503 t504 t505 t506 t509).bind fun t570 => (if t570 = true then (laws_FnExactFopHear.j2 kj82 t546 (bt561.2.2.2.2.2 != t510) t525 t526 t527 t547 t531) else (laws_FnExactFopHear.j2 kj82 t546 true t525 t526 t527 t547 t531)))))) else (some false)))) = some r := H
         have A118 := Aside0.mk A1180
         clear A1180
         replace H := Option.bind_eq_some_iff.mp H
         obtain ⟨t548, A1190, H⟩ := H
         replace H : (if t548 < 0 then (some false) else (if t548 = t546 then ((laws_toFop.f kj82 a0_0 a0_1 a0_2 l0_3 a0_4).bind fun bt549 => ((laws_toFarm.f a1_0 a1_1 a1_2 a1_3 a1_4).bind fun bt556 => ((impl_FopHear.f kj82 bt549.1 bt549.2.1 bt549.2.2.1 bt549.2.2.2.1 bt549.2.2.2.2 bt556.1 bt556.2.1 bt556.2.2.1 bt556.2.2.2.1 bt556.2.2.2.2).bind fun bt561 => ((laws_eqFop.f kj82 bt561.1 bt561.2.1 bt561.2.2.1 bt561.2.2.2.1 bt561.2.2.2.2.1 t503 t504 t505 t506 t509).bind fun t570 => (if t570 = true then (laws_FnExactFopHear.j2 kj82 t546 (bt561.2.2.2.2.2 != t510) t525 t526 t527 t547 t531) else (laws_FnExactFopHear.j2 kj82 t546 true t525 t526 t527 t547 t531)))))) else (some false))) = some r := H
         have A119 := Aside0.mk A1190
         clear A1190
         by_cases c120 : t548 < 0
         ·rw [if_pos c120] at H
          have c120b0 : decide (t548 < 0) = true := decide_eq_true c120
          clear c120
          obtain rfl := Option.some.inj H
          have hnb121 := NB533_488.out
          have hnc121 := NB488_533.out
          have hnb122 := NB533_489.out
          have hnc122 := NB489_533.out
          have hnb123 := NB533_511.out
          have hnc123 := NB511_533.out
          have hnb124 := NB533_519.out
          have hnc124 := NB519_533.out
          have hcz125_0 : wc.cell? ⟨gb533, 0, none⟩ = some (.int .i64 t525) := bc BK533 0
          have hcz125_1 : wc.cell? ⟨gb533, 1, none⟩ = some (.int .i64 t526) := bc BK533 1
          have hcz125_2 : wc.cell? ⟨gb533, 2, none⟩ = some (.int .i64 t527) := bc BK533 2
          have hcz125_3 : wc.cell? ⟨gb533, 3, none⟩ = some (.slice Ao53 t528.length co53) := bc BK533 3
          have hcz125_4 : wc.cell? ⟨gb533, 4, none⟩ = some (.bool t531) := bc BK533 4
          have hfz125_0 := blk_frozen BK533.out 0
          have hfz125_1 := blk_frozen BK533.out 1
          have hfz125_2 := blk_frozen BK533.out 2
          have hfz125_3 := blk_frozen BK533.out 3
          have hfz125_4 := blk_frozen BK533.out 4
          go_wp2_with (first | ((with_reducible refine gate_callee (f := 23) rfl ?_); refine goesL_ (some 70) rfl rfl Try.func23 (by kernel_rfl) rfl #[.agg #[.int .i64 t525, .int .i64 t526, .int .i64 t527, .slice Ao53 t528.length co53, .bool t531], .int .i64 1] rfl gl_ ?_; (with_reducible refine (laws_markFop.calls kj82 t525 t526 t527 (fun k_ => some k_ = (.slice Ao53 t528.length co53 : Value).ownBlock) (.slice Ao53 t528.length co53) t528 t531 1 t546 t547 w _ ?side1 ?side2 A118.out).mono ?_); (case side1 => repeat (first | (with_reducible first | exact HB.out | apply below_alloc | apply pw_below_drewN | apply below_drew1 | refine below_set ?_ GE488.out | refine below_set ?_ GE489.out | refine below_set ?_ GE511.out | refine below_set ?_ GE519.out | refine below_set ?_ GE533.out) | exact HB.out)); (case side2 => exact Kd.R_tight rfl HO_534003.out); rintro e w126 ⟨rfl, hy0, hb, hkp⟩; refine ⟨_, rfl, ?_⟩; have n0_ := m_ (Kd.R_mono (ok' := fun k_ => nb Ao43 t544.length co43 k_ ∧ nb Ao53 t528.length co53 k_) (Kd.R_keptB (HO_512003.out) hkp (fun k_ hk_ hs_ => (hk_.2) hs_)) (fun k_ hk_ => ⟨hk_.1.1, hk_.1.2⟩)); have n1_ := m_ (Kd.R_mono (ok' := fun k_ => nb Ao32 t506.length co32 k_ ∧ nb Ao53 t528.length co53 k_) (Kd.R_keptB (HO_520003.out) hkp (fun k_ hk_ hs_ => (hk_.2) hs_)) (fun k_ hk_ => ⟨hk_.1.1, hk_.1.2⟩)); have n2_ := m_ (Kd.R_reok rfl hy0 (fun k_ e_ => HO_534003.out.1 k_ e_)); have n3_ := m_ (blk_kept (kN BK488.out) hkp (fun hs_ => (fun e_ => (Kd.R_ne HO_534003.out BK488.out (by decide)) e_) hs_)); have n4_ := m_ (blk_kept (kN BK489.out) hkp (fun hs_ => (fun e_ => (Kd.R_ne HO_534003.out BK489.out (by decide)) e_) hs_)); have n5_ := m_ (blk_kept (kN BK511.out) hkp (fun hs_ => (fun e_ => (Kd.R_ne HO_534003.out BK511.out (by decide)) e_) hs_)); have n6_ := m_ (blk_kept (kN BK519.out) hkp (fun hs_ => (fun e_ => (Kd.R_ne HO_534003.out BK519.out (by decide)) e_) hs_)); have n7_ := m_ (blk_kept (kN BK533.out) hkp (fun hs_ => (fun e_ => (Kd.R_ne HO_534003.out BK533.out (by decide)) e_) hs_)); have n8_ := m_ (hb); clear HO_512003; clear HO_520003; clear HO_534003; clear BK488; clear BK489; clear BK511; clear BK519; clear BK533; clear HB; have HO_512003 := n0_; have HO_520003 := n1_; have HO_534003 := n2_; have BK488 := n3_; have BK489 := n4_; have BK511 := n5_; have BK519 := n6_; have BK533 := n7_; have HB := n8_; clear n0_ n1_ n2_ n3_ n4_ n5_ n6_ n7_ n8_; (try clear hb); (try clear hkp); (try clear hy0); have hcz127_0 : w126.cell? ⟨gb533, 0, none⟩ = some (.int .i64 t525) := bc BK533 0; have hcz127_1 : w126.cell? ⟨gb533, 1, none⟩ = some (.int .i64 t526) := bc BK533 1; have hcz127_2 : w126.cell? ⟨gb533, 2, none⟩ = some (.int .i64 t527) := bc BK533 2; have hcz127_3 : w126.cell? ⟨gb533, 3, none⟩ = some (.slice Ao53 t528.length co53) := bc BK533 3; have hcz127_4 : w126.cell? ⟨gb533, 4, none⟩ = some (.bool t531) := bc BK533 4; have hfz127_0 := blk_frozen BK533.out 0; have hfz127_1 := blk_frozen BK533.out 1; have hfz127_2 := blk_frozen BK533.out 2; have hfz127_3 := blk_frozen BK533.out 3; have hfz127_4 := blk_frozen BK533.out 4) | ((with_reducible refine gate_callee (f := 24) rfl ?_); refine goesL_ (some 73) rfl rfl Try.func24 (by kernel_rfl) rfl #[.agg #[.int .i64 t525, .int .i64 t526, .int .i64 t527, .slice Ao53 t547.length co53, .bool t531], .int .i64 1] rfl (by (try simp only [List.map_toArray, List.map_cons, List.map_nil]); first | done | (rw [show t547.length = t528.length from (Kd.R_reads' HO_534003.out).1.symm] <;> rfl) | rfl | (simp only [List.length_drop, List.length_take]; rfl)) ?_; (with_reducible refine (laws_heldFop.calls kj82 t525 t526 t527 _ _ t547 t531 1 t548 _ ?side1 ?side2 A119.out).mono ?_); (case side1 => exact cN (Kd.R_reads' HO_534003.out).2.2); (case side2 => rw [show t547.length = t528.length from (Kd.R_reads' HO_534003.out).1.symm]; exact (Kd.R_reads' HO_534003.out).2.1); rintro e w128 ⟨rfl, hb⟩; refine ⟨_, rfl, ?_⟩; have n0_ := m_ (Kd.R_below (rN HO_512003.out) hb); have n1_ := m_ (Kd.R_below (rN HO_520003.out) hb); have n2_ := m_ (Kd.R_below (rN HO_534003.out) hb); have n3_ := m_ (blk_below (kN BK488.out) hb); have n4_ := m_ (blk_below (kN BK489.out) hb); have n5_ := m_ (blk_below (kN BK511.out) hb); have n6_ := m_ (blk_below (kN BK519.out) hb); have n7_ := m_ (blk_below (kN BK533.out) hb); have n8_ := m_ (below_step (bN HB.out) hb); clear HO_512003; clear HO_520003; clear HO_534003; clear BK488; clear BK489; clear BK511; clear BK519; clear BK533; clear HB; have HO_512003 := n0_; have HO_520003 := n1_; have HO_534003 := n2_; have BK488 := n3_; have BK489 := n4_; have BK511 := n5_; have BK519 := n6_; have BK533 := n7_; have HB := n8_; clear n0_ n1_ n2_ n3_ n4_ n5_ n6_ n7_ n8_; (try clear hb); (try clear hb2); (try clear hk); (try clear hi)))
          go_ret
          exact ⟨by first | rfl | (simp [errW_none, errW_some] <;> rfl) | (simp [*, errW_none, errW_some] <;> rfl), by repeat (first | (with_reducible first | exact HB.out | apply below_alloc | apply pw_below_drewN | apply below_drew1 | refine below_set ?_ GE488.out | refine below_set ?_ GE489.out | refine below_set ?_ GE511.out | refine below_set ?_ GE519.out | refine below_set ?_ GE533.out) | exact HB.out)⟩
         ·rw [if_neg c120] at H
          have c120b0 : decide (t548 < 0) = false := decide_eq_false c120
          clear c120
          by_cases c129 : t548 = t546
          ·rw [if_pos c129] at H
           have c129b0 : (t548 == t546) = true := beq_iff_eq.mpr c129
           have c129b1 : (t548 != t546) = false := bne_eq_false_iff_eq.mpr c129
           clear c129
           replace H := Option.bind_eq_some_iff.mp H
           obtain ⟨⟨t549, t550, t551, t552, t555⟩, A1300, H⟩ := H
           replace H : ((laws_toFarm.f a1_0 a1_1 a1_2 a1_3 a1_4).bind fun bt556 => ((impl_FopHear.f kj82 t549 t550 t551 t552 t555 bt556.1 bt556.2.1 bt556.2.2.1 bt556.2.2.2.1 bt556.2.2.2.2).bind fun bt561 => ((laws_eqFop.f kj82 bt561.1 bt561.2.1 bt561.2.2.1 bt561.2.2.2.1 bt561.2.2.2.2.1 t503 t504 t505 t506 t509).bind fun t570 => (if t570 = true then (laws_FnExactFopHear.j2 kj82 t546 (bt561.2.2.2.2.2 != t510) t525 t526 t527 t547 t531) else (laws_FnExactFopHear.j2 kj82 t546 true t525 t526 t527 t547 t531))))) = some r := H
           have A130 := Aside0.mk A1300
           clear A1300
           replace H := Option.bind_eq_some_iff.mp H
           obtain ⟨⟨t556, t557, t558, t559, t560⟩, A1310, H⟩ := H
           replace H : ((impl_FopHear.f kj82 t549 t550 t551 t552 t555 t556 t557 t558 t559 t560).bind fun bt561 => ((laws_eqFop.f kj82 bt561.1 bt561.2.1 bt561.2.2.1 bt561.2.2.2.1 bt561.2.2.2.2.1 t503 t504 t505 t506 t509).bind fun t570 => (if t570 = true then (laws_FnExactFopHear.j2 kj82 t546 (bt561.2.2.2.2.2 != t510) t525 t526 t527 t547 t531) else (laws_FnExactFopHear.j2 kj82 t546 true t525 t526 t527 t547 t531)))) = some r := H
           have A131 := Aside0.mk A1310
           clear A1310
           replace H := Option.bind_eq_some_iff.mp H
           obtain ⟨⟨t561, t562, t563, t564, t567, t568⟩, A1320, H⟩ := H
           replace H : ((laws_eqFop.f kj82 t561 t562 t563 t564 t567 t503 t504 t505 t506 t509).bind fun t570 => (if t570 = true then (laws_FnExactFopHear.j2 kj82 t546 (t568 != t510) t525 t526 t527 t547 t531) else (laws_FnExactFopHear.j2 kj82 t546 true t525 t526 t527 t547 t531))) = some r := H
           have A132 := Aside0.mk A1320
           clear A1320
           have HC133 := Aside0.mk H
           clear H
           have hnb134 := NB533_488.out
           have hnc134 := NB488_533.out
           have hnb135 := NB533_489.out
           have hnc135 := NB489_533.out
           have hnb136 := NB533_511.out
           have hnc136 := NB511_533.out
           have hnb137 := NB533_519.out
           have hnc137 := NB519_533.out
           have hcz138_0 : wc.cell? ⟨gb533, 0, none⟩ = some (.int .i64 t525) := bc BK533 0
           have hcz138_1 : wc.cell? ⟨gb533, 1, none⟩ = some (.int .i64 t526) := bc BK533 1
           have hcz138_2 : wc.cell? ⟨gb533, 2, none⟩ = some (.int .i64 t527) := bc BK533 2
           have hcz138_3 : wc.cell? ⟨gb533, 3, none⟩ = some (.slice Ao53 t528.length co53) := bc BK533 3
           have hcz138_4 : wc.cell? ⟨gb533, 4, none⟩ = some (.bool t531) := bc BK533 4
           have hfz138_0 := blk_frozen BK533.out 0
           have hfz138_1 := blk_frozen BK533.out 1
           have hfz138_2 := blk_frozen BK533.out 2
           have hfz138_3 := blk_frozen BK533.out 3
           have hfz138_4 := blk_frozen BK533.out 4
           try go_wp2_with (first | ((with_reducible refine gate_callee (f := 23) rfl ?_); refine goesL_ (some 70) rfl rfl Try.func23 (by kernel_rfl) rfl #[.agg #[.int .i64 t525, .int .i64 t526, .int .i64 t527, .slice Ao53 t528.length co53, .bool t531], .int .i64 1] rfl gl_ ?_; (with_reducible refine (laws_markFop.calls kj82 t525 t526 t527 (fun k_ => some k_ = (.slice Ao53 t528.length co53 : Value).ownBlock) (.slice Ao53 t528.length co53) t528 t531 1 t546 t547 w _ ?side1 ?side2 A118.out).mono ?_); (case side1 => repeat (first | (with_reducible first | exact HB.out | apply below_alloc | apply pw_below_drewN | apply below_drew1 | refine below_set ?_ GE488.out | refine below_set ?_ GE489.out | refine below_set ?_ GE511.out | refine below_set ?_ GE519.out | refine below_set ?_ GE533.out) | exact HB.out)); (case side2 => exact Kd.R_tight rfl HO_534003.out); rintro e w139 ⟨rfl, hy0, hb, hkp⟩; refine ⟨_, rfl, ?_⟩; have n0_ := m_ (Kd.R_mono (ok' := fun k_ => nb Ao43 t544.length co43 k_ ∧ nb Ao53 t528.length co53 k_) (Kd.R_keptB (HO_512003.out) hkp (fun k_ hk_ hs_ => (hk_.2) hs_)) (fun k_ hk_ => ⟨hk_.1.1, hk_.1.2⟩)); have n1_ := m_ (Kd.R_mono (ok' := fun k_ => nb Ao32 t506.length co32 k_ ∧ nb Ao53 t528.length co53 k_) (Kd.R_keptB (HO_520003.out) hkp (fun k_ hk_ hs_ => (hk_.2) hs_)) (fun k_ hk_ => ⟨hk_.1.1, hk_.1.2⟩)); have n2_ := m_ (Kd.R_reok rfl hy0 (fun k_ e_ => HO_534003.out.1 k_ e_)); have n3_ := m_ (blk_kept (kN BK488.out) hkp (fun hs_ => (fun e_ => (Kd.R_ne HO_534003.out BK488.out (by decide)) e_) hs_)); have n4_ := m_ (blk_kept (kN BK489.out) hkp (fun hs_ => (fun e_ => (Kd.R_ne HO_534003.out BK489.out (by decide)) e_) hs_)); have n5_ := m_ (blk_kept (kN BK511.out) hkp (fun hs_ => (fun e_ => (Kd.R_ne HO_534003.out BK511.out (by decide)) e_) hs_)); have n6_ := m_ (blk_kept (kN BK519.out) hkp (fun hs_ => (fun e_ => (Kd.R_ne HO_534003.out BK519.out (by decide)) e_) hs_)); have n7_ := m_ (blk_kept (kN BK533.out) hkp (fun hs_ => (fun e_ => (Kd.R_ne HO_534003.out BK533.out (by decide)) e_) hs_)); have n8_ := m_ (hb); clear HO_512003; clear HO_520003; clear HO_534003; clear BK488; clear BK489; clear BK511; clear BK519; clear BK533; clear HB; have HO_512003 := n0_; have HO_520003 := n1_; have HO_534003 := n2_; have BK488 := n3_; have BK489 := n4_; have BK511 := n5_; have BK519 := n6_; have BK533 := n7_; have HB := n8_; clear n0_ n1_ n2_ n3_ n4_ n5_ n6_ n7_ n8_; (try clear hb); (try clear hkp); (try clear hy0); have hcz140_0 : w139.cell? ⟨gb533, 0, none⟩ = some (.int .i64 t525) := bc BK533 0; have hcz140_1 : w139.cell? ⟨gb533, 1, none⟩ = some (.int .i64 t526) := bc BK533 1; have hcz140_2 : w139.cell? ⟨gb533, 2, none⟩ = some (.int .i64 t527) := bc BK533 2; have hcz140_3 : w139.cell? ⟨gb533, 3, none⟩ = some (.slice Ao53 t528.length co53) := bc BK533 3; have hcz140_4 : w139.cell? ⟨gb533, 4, none⟩ = some (.bool t531) := bc BK533 4; have hfz140_0 := blk_frozen BK533.out 0; have hfz140_1 := blk_frozen BK533.out 1; have hfz140_2 := blk_frozen BK533.out 2; have hfz140_3 := blk_frozen BK533.out 3; have hfz140_4 := blk_frozen BK533.out 4) | ((with_reducible refine gate_callee (f := 24) rfl ?_); refine goesL_ (some 73) rfl rfl Try.func24 (by kernel_rfl) rfl #[.agg #[.int .i64 t525, .int .i64 t526, .int .i64 t527, .slice Ao53 t547.length co53, .bool t531], .int .i64 1] rfl (by (try simp only [List.map_toArray, List.map_cons, List.map_nil]); first | done | (rw [show t547.length = t528.length from (Kd.R_reads' HO_534003.out).1.symm] <;> rfl) | rfl | (simp only [List.length_drop, List.length_take]; rfl)) ?_; (with_reducible refine (laws_heldFop.calls kj82 t525 t526 t527 _ _ t547 t531 1 t548 _ ?side1 ?side2 A119.out).mono ?_); (case side1 => exact cN (Kd.R_reads' HO_534003.out).2.2); (case side2 => rw [show t547.length = t528.length from (Kd.R_reads' HO_534003.out).1.symm]; exact (Kd.R_reads' HO_534003.out).2.1); rintro e w141 ⟨rfl, hb⟩; refine ⟨_, rfl, ?_⟩; have n0_ := m_ (Kd.R_below (rN HO_512003.out) hb); have n1_ := m_ (Kd.R_below (rN HO_520003.out) hb); have n2_ := m_ (Kd.R_below (rN HO_534003.out) hb); have n3_ := m_ (blk_below (kN BK488.out) hb); have n4_ := m_ (blk_below (kN BK489.out) hb); have n5_ := m_ (blk_below (kN BK511.out) hb); have n6_ := m_ (blk_below (kN BK519.out) hb); have n7_ := m_ (blk_below (kN BK533.out) hb); have n8_ := m_ (below_step (bN HB.out) hb); clear HO_512003; clear HO_520003; clear HO_534003; clear BK488; clear BK489; clear BK511; clear BK519; clear BK533; clear HB; have HO_512003 := n0_; have HO_520003 := n1_; have HO_534003 := n2_; have BK488 := n3_; have BK489 := n4_; have BK511 := n5_; have BK519 := n6_; have BK533 := n7_; have HB := n8_; clear n0_ n1_ n2_ n3_ n4_ n5_ n6_ n7_ n8_; (try clear hb); (try clear hb2); (try clear hk); (try clear hi)))
           have n0_ := m_ (Kd.R_drew HO_512003.out)
           have n1_ := m_ (Kd.R_drew HO_520003.out)
           have n2_ := m_ (Kd.R_drew HO_534003.out)
           have n3_ := m_ (blk_drew BK488.out)
           have n4_ := m_ (blk_drew BK489.out)
           have n5_ := m_ (blk_drew BK511.out)
           have n6_ := m_ (blk_drew BK519.out)
           have n7_ := m_ (blk_drew BK533.out)
           have n8_ := m_ (below_drew1 HB.out)
           clear HO_512003
           clear HO_520003
           clear HO_534003
           clear BK488
           clear BK489
           clear BK511
           clear BK519
           clear BK533
           clear HB
           have HO_512003 := n0_
           have HO_520003 := n1_
           have HO_534003 := n2_
           have BK488 := n3_
           have BK489 := n4_
           have BK511 := n5_
           have BK519 := n6_
           have BK533 := n7_
           have HB := n8_
           clear n0_ n1_ n2_ n3_ n4_ n5_ n6_ n7_ n8_
           refine start_ (n := 11) (S := fun w' => w'.cell? ⟨gb488, 0, none⟩ = some (.int .i64 a0_0) ∧ w'.cell? ⟨gb488, 1, none⟩ = some (.int .i64 a0_1) ∧ w'.cell? ⟨gb488, 2, none⟩ = some (.int .i64 a0_2) ∧ w'.cell? ⟨gb488, 3, none⟩ = some (.slice A0_3 l0_3.length c0_3) ∧ w'.cell? ⟨gb488, 4, none⟩ = some (.bool a0_4) ∧ w'.cell? ⟨gb489, 0, none⟩ = some (.bool a1_0) ∧ w'.cell? ⟨gb489, 1, none⟩ = some (.bool a1_1) ∧ w'.cell? ⟨gb489, 2, none⟩ = some (.bool a1_2) ∧ w'.cell? ⟨gb489, 3, none⟩ = some (.int .i64 a1_3) ∧ w'.cell? ⟨gb489, 4, none⟩ = some (.int .i64 a1_4)) (ds := []) #[false, false, false, false, false, false, false, false, false, false, false] (by kernel_rfl) rfl rfl ⟨bc BK488 0, bc BK488 1, bc BK488 2, bc BK488 3, bc BK488 4, bc BK489 0, bc BK489 1, bc BK489 2, bc BK489 3, bc BK489 4⟩ (fun hHeld => ?_); refine with_tabW laws_FnExactFopHear.tab24 laws_FnExactFopHear.bits24 (fun HT_ HW_ => ?_)
           generalize w141.drew = w142 at HO_512003 HO_520003 HO_534003 BK488 BK489 BK511 BK519 BK533 HB hHeld ⊢
           refine take_ (i := 0) (N := some 80) (v := ?_) (a' := ?_) #[true, false, false, false, false, false, false, false, false, false, false] rfl rfl (take_ofW HT_.out HW_.out (by kernel_rfl)) (fun _ _ _ h => h) (Or.inl ⟨by rfl, ?_⟩) hHeld ?_ ?_
           rotate_left
           ·rintro w' ⟨s0, s1, s2, s3, s4, s5, s6, s7, s8, s9⟩
            go_simp
            with_reducible rfl
           rotate_left
           ·simp only [Act.put, List.setIfInBounds_toArray, List.set_cons_zero, List.set_cons_succ, i64_w, i32_w]
            rfl
           refine take_ (i := 2) (N := some 82) (v := ?_) (a' := ?_) #[true, false, true, false, false, false, false, false, false, false, false] rfl rfl (take_ofW HT_.out HW_.out (by kernel_rfl)) (fun _ _ _ h => h) (Or.inl ⟨by rfl, ?_⟩) hHeld ?_ ?_
           rotate_left
           ·rintro w' ⟨s0, s1, s2, s3, s4, s5, s6, s7, s8, s9⟩
            go_simp
            with_reducible rfl
           rotate_left
           ·simp only [Act.put, List.setIfInBounds_toArray, List.set_cons_zero, List.set_cons_succ, i64_w, i32_w]
            rfl
           refine join_ (σ := Value × Value × Nat) 2 #[true, true, true, true, true, true, true, true, true, false, false] (fun s_ => [(81, .agg #[.int .i64 t549, .int .i64 t550, .int .i64 t551, s_.1, .bool t555]), (83, .agg #[.bool t556, .bool t557, .bool t558, .int .i64 t559, .int .i64 t560]), (84, .tuple #[.agg #[.int .i64 t561, .int .i64 t562, .int .i64 t563, s_.2.1, .bool t567], .bool t568]), (14, .pointer (some ⟨s_.2.2, 0, none⟩)), (79, .tuple #[.agg #[.int .i64 t561, .int .i64 t562, .int .i64 t563, s_.2.1, .bool t567], .bool t568]), (85, .agg #[.int .i64 t561, .int .i64 t562, .int .i64 t563, s_.2.1, .bool t567]), (86, .bool t568)]) (fun s_ w' => (w'.cell? ⟨gb488, 0, none⟩ = some (.int .i64 a0_0) ∧ w'.cell? ⟨gb488, 1, none⟩ = some (.int .i64 a0_1) ∧ w'.cell? ⟨gb488, 2, none⟩ = some (.int .i64 a0_2) ∧ w'.cell? ⟨gb488, 3, none⟩ = some (.slice A0_3 l0_3.length c0_3) ∧ w'.cell? ⟨gb488, 4, none⟩ = some (.bool a0_4) ∧ w'.cell? ⟨gb489, 0, none⟩ = some (.bool a1_0) ∧ w'.cell? ⟨gb489, 1, none⟩ = some (.bool a1_1) ∧ w'.cell? ⟨gb489, 2, none⟩ = some (.bool a1_2) ∧ w'.cell? ⟨gb489, 3, none⟩ = some (.int .i64 a1_3) ∧ w'.cell? ⟨gb489, 4, none⟩ = some (.int .i64 a1_4)) ∧ (Kd.R Kd.string 9 w' w.heap.size (fun k_ => some k_ ≠ (s_.2.1 : Value).ownBlock ∧ nb Ao32 t506.length co32 k_ ∧ nb Ao43 t544.length co43 k_ ∧ nb Ao53 t528.length co53 k_) s_.1 t552) ∧ (Kd.R Kd.string 9 w' w.heap.size (fun k_ => some k_ ≠ (s_.1 : Value).ownBlock ∧ nb Ao32 t506.length co32 k_ ∧ nb Ao43 t544.length co43 k_ ∧ nb Ao53 t528.length co53 k_) s_.2.1 t564) ∧ (Kd.R Kd.string 9 w' w.heap.size (fun k_ => some k_ ≠ (s_.1 : Value).ownBlock ∧ some k_ ≠ (s_.2.1 : Value).ownBlock ∧ nb Ao43 t544.length co43 k_ ∧ nb Ao53 t528.length co53 k_) (.slice Ao32 t506.length co32) t506) ∧ (Kd.R Kd.string 9 w' w.heap.size (fun k_ => some k_ ≠ (s_.1 : Value).ownBlock ∧ some k_ ≠ (s_.2.1 : Value).ownBlock ∧ nb Ao32 t506.length co32 k_ ∧ nb Ao53 t528.length co53 k_) (.slice Ao43 t544.length co43) t544) ∧ (Kd.R Kd.string 9 w' w.heap.size (fun k_ => some k_ ≠ (s_.1 : Value).ownBlock ∧ some k_ ≠ (s_.2.1 : Value).ownBlock ∧ nb Ao32 t506.length co32 k_ ∧ nb Ao43 t544.length co43 k_) (.slice Ao53 t528.length co53) t547) ∧ (w'.heap[gb488]? = some (.cells #[.int .i64 a0_0, .int .i64 a0_1, .int .i64 a0_2, .slice A0_3 l0_3.length c0_3, .bool a0_4] 45 (0, 0))) ∧ (w'.heap[gb489]? = some (.cells #[.bool a1_0, .bool a1_1, .bool a1_2, .int .i64 a1_3, .int .i64 a1_4] 46 (0, 0))) ∧ (w'.heap[gb511]? = some (.cells #[.int .i64 t503, .int .i64 t504, .int .i64 t505, .slice Ao32 t506.length co32, .bool t509] 25 (0, 0))) ∧ (w'.heap[gb519]? = some (.cells #[.int .i64 t512, .int .i64 t513, .int .i64 t514, .slice Ao43 t544.length co43, .bool t518] 25 (0, 0))) ∧ (w'.heap[gb533]? = some (.cells #[.int .i64 t525, .int .i64 t526, .int .i64 t527, .slice Ao53 t528.length co53, .bool t531] 25 (0, 0))) ∧ (w'.heap[s_.2.2]? = some (.cells #[.int .i64 0, .int .i64 0, .int .i64 0, .slice none 0 0, .bool false] 25 (0, 0))) ∧ (w.heap.size ≤ s_.2.2) ∧ (w.heap.size ≤ s_.2.2) ∧ (gb488 ≠ s_.2.2) ∧ (s_.2.2 ≠ gb488) ∧ (gb489 ≠ s_.2.2) ∧ (s_.2.2 ≠ gb489) ∧ (gb511 ≠ s_.2.2) ∧ (s_.2.2 ≠ gb511) ∧ (gb519 ≠ s_.2.2) ∧ (s_.2.2 ≠ gb519) ∧ (gb533 ≠ s_.2.2) ∧ (s_.2.2 ≠ gb533) ∧ (Below w.heap.size w w')) ?_ ?_
           rotate_left
           ·intro hCont
            refine two_ (i := 1) (j := 8) (Ni := some 81) (Nj := some 14) #[true, true, true, false, false, false, false, false, false, false, false] #[true, false, true, false, false, false, false, false, true, false, false] rfl rfl rfl rfl (two_of HT_.out (by kernel_rfl)) (by decide) (by decide) (fun K hK => ?_) (fun K hK => ?_)
            ·skip
             refine goes_ Try.func20 (by kernel_rfl) rfl #[.agg #[.int .i64 a0_0, .int .i64 a0_1, .int .i64 a0_2, .slice A0_3 l0_3.length c0_3, .bool a0_4]] (by rfl) rfl rfl gl_ ?_
             with_reducible refine (laws_toFop.calls kj82 a0_0 a0_1 a0_2 _ _ l0_3 a0_4 t549 t550 t551 t552 t555 _ ?side1 ?side2 A130.out).mono ?_
             (case side1 => exact cN (Kd.C_below HR0_3.out HB.out))
             (case side2 => exact HC0_3.out)
             rintro e w143 ⟨v553, rfl, ho0, hb⟩
             refine ⟨_, rfl, ?_⟩
             have n0_ := m_ (Kd.R_elder' (rN HO_512003.out) (Kd.R_base ho0) hb)
             have n1_ := m_ (Kd.R_elder' (rN HO_520003.out) (Kd.R_base ho0) hb)
             have n2_ := m_ (Kd.R_elder' (rN HO_534003.out) (Kd.R_base ho0) hb)
             have n3_ := m_ (Kd.R_lower (Kd.R_new' (Kd.R_new' (Kd.R_new' ho0 (Kd.R_lt (rN HO_512003.out))) (Kd.R_lt (rN HO_520003.out))) (Kd.R_lt (rN HO_534003.out))) (below_size (bN HB.out)))
             have n4_ := m_ (blk_below (kN BK488.out) hb)
             have n5_ := m_ (blk_below (kN BK489.out) hb)
             have n6_ := m_ (blk_below (kN BK511.out) hb)
             have n7_ := m_ (blk_below (kN BK519.out) hb)
             have n8_ := m_ (blk_below (kN BK533.out) hb)
             have n9_ := m_ (below_step (bN HB.out) hb)
             clear HO_512003
             clear HO_520003
             clear HO_534003
             clear BK488
             clear BK489
             clear BK511
             clear BK519
             clear BK533
             clear HB
             have HO_512003 := n0_
             have HO_520003 := n1_
             have HO_534003 := n2_
             have HO554 := n3_
             have BK488 := n4_
             have BK489 := n5_
             have BK511 := n6_
             have BK519 := n7_
             have BK533 := n8_
             have HB := n9_
             clear n0_ n1_ n2_ n3_ n4_ n5_ n6_ n7_ n8_ n9_
             (try clear hb)
             (try clear hb2)
             (try clear hk)
             (try clear hi)
             (try clear ho0)
             refine hK.out _ _ ⟨bc BK488 0, bc BK488 1, bc BK488 2, bc BK488 3, bc BK488 4, bc BK489 0, bc BK489 1, bc BK489 2, bc BK489 3, bc BK489 4⟩ (fun hHeld => ?_)
             clear hK K
             refine np (h := ?_)
             refine two_ (i := 3) (j := 8) (Ni := some 83) (Nj := some 14) #[true, true, true, true, false, false, false, false, false, false, false] #[true, true, true, false, false, false, false, false, true, false, false] rfl rfl rfl rfl (two_of HT_.out (by kernel_rfl)) (by decide) (by decide) (fun K hK => ?_) (fun K hK => ?_)
             ·skip
              refine goes_ Try.func21 (by kernel_rfl) rfl #[.agg #[.bool a1_0, .bool a1_1, .bool a1_2, .int .i64 a1_3, .int .i64 a1_4]] (by rfl) rfl rfl gl_ ?_
              with_reducible refine (laws_toFarm.calls a1_0 a1_1 a1_2 a1_3 a1_4 t556 t557 t558 t559 t560 _ A131.out).mono ?_
              rintro e w144 ⟨rfl, hb⟩
              refine ⟨_, rfl, ?_⟩
              have n0_ := m_ (Kd.R_below (rN HO_512003.out) hb)
              have n1_ := m_ (Kd.R_below (rN HO_520003.out) hb)
              have n2_ := m_ (Kd.R_below (rN HO_534003.out) hb)
              have n3_ := m_ (Kd.R_below (rN HO554.out) hb)
              have n4_ := m_ (blk_below (kN BK488.out) hb)
              have n5_ := m_ (blk_below (kN BK489.out) hb)
              have n6_ := m_ (blk_below (kN BK511.out) hb)
              have n7_ := m_ (blk_below (kN BK519.out) hb)
              have n8_ := m_ (blk_below (kN BK533.out) hb)
              have n9_ := m_ (below_step (bN HB.out) hb)
              clear HO_512003
              clear HO_520003
              clear HO_534003
              clear HO554
              clear BK488
              clear BK489
              clear BK511
              clear BK519
              clear BK533
              clear HB
              have HO_512003 := n0_
              have HO_520003 := n1_
              have HO_534003 := n2_
              have HO554 := n3_
              have BK488 := n4_
              have BK489 := n5_
              have BK511 := n6_
              have BK519 := n7_
              have BK533 := n8_
              have HB := n9_
              clear n0_ n1_ n2_ n3_ n4_ n5_ n6_ n7_ n8_ n9_
              (try clear hb)
              (try clear hb2)
              (try clear hk)
              (try clear hi)
              obtain ⟨Ao145, co145, eo145⟩ := Kd.R_slice HO554.out
              (first | subst eo145 | (injection eo145 with f1_ f2_ f3_; have f4_ := f1_.symm; have f5_ := f3_.symm; clear f1_ f2_ f3_; subst f4_; subst f5_))
              refine hK.out _ _ ⟨bc BK488 0, bc BK488 1, bc BK488 2, bc BK488 3, bc BK488 4, bc BK489 0, bc BK489 1, bc BK489 2, bc BK489 3, bc BK489 4⟩ (fun hHeld => ?_)
              clear hK K
              refine np (h := ?_)
              refine two_ (i := 4) (j := 8) (Ni := some 84) (Nj := some 14) #[true, true, true, true, true, false, false, false, false, false, false] #[true, true, true, true, false, false, false, false, true, false, false] rfl rfl rfl rfl (two_of HT_.out (by kernel_rfl)) (by decide) (by decide) (fun K hK => ?_) (fun K hK => ?_)
              ·skip
               refine goes_ Try.func16 (by kernel_rfl) rfl #[.agg #[.int .i64 t549, .int .i64 t550, .int .i64 t551, .slice Ao145 t552.length co145, .bool t555], .agg #[.bool t556, .bool t557, .bool t558, .int .i64 t559, .int .i64 t560]] (by rfl) rfl rfl gl_ ?_
               with_reducible refine (impl_FopHear.calls kj82 t549 t550 t551 _ _ t552 t555 t556 t557 t558 t559 t560 t561 t562 t563 t564 t567 t568 _ ?side1 ?side2 A132.out).mono ?_
               (case side1 => exact cN (Kd.R_reads' HO554.out).2.2)
               (case side2 => exact (Kd.R_reads' HO554.out).2.1)
               rintro e w146 ⟨v565, rfl, ho0, hb⟩
               refine ⟨_, rfl, ?_⟩
               have n0_ := m_ (Kd.R_elder' (rN HO_512003.out) (Kd.R_base ho0) hb)
               have n1_ := m_ (Kd.R_elder' (rN HO_520003.out) (Kd.R_base ho0) hb)
               have n2_ := m_ (Kd.R_elder' (rN HO_534003.out) (Kd.R_base ho0) hb)
               have n3_ := m_ (Kd.R_elder' (rN HO554.out) (Kd.R_base ho0) hb)
               have n4_ := m_ (Kd.R_lower (Kd.R_new' (Kd.R_new' (Kd.R_new' (Kd.R_new' ho0 (Kd.R_lt (rN HO_512003.out))) (Kd.R_lt (rN HO_520003.out))) (Kd.R_lt (rN HO_534003.out))) (Kd.R_lt (rN HO554.out))) (below_size (bN HB.out)))
               have n5_ := m_ (blk_below (kN BK488.out) hb)
               have n6_ := m_ (blk_below (kN BK489.out) hb)
               have n7_ := m_ (blk_below (kN BK511.out) hb)
               have n8_ := m_ (blk_below (kN BK519.out) hb)
               have n9_ := m_ (blk_below (kN BK533.out) hb)
               have n10_ := m_ (below_step (bN HB.out) hb)
               clear HO_512003
               clear HO_520003
               clear HO_534003
               clear HO554
               clear BK488
               clear BK489
               clear BK511
               clear BK519
               clear BK533
               clear HB
               have HO_512003 := n0_
               have HO_520003 := n1_
               have HO_534003 := n2_
               have HO554 := n3_
               have HO566 := n4_
               have BK488 := n5_
               have BK489 := n6_
               have BK511 := n7_
               have BK519 := n8_
               have BK533 := n9_
               have HB := n10_
               clear n0_ n1_ n2_ n3_ n4_ n5_ n6_ n7_ n8_ n9_ n10_
               (try clear hb)
               (try clear hb2)
               (try clear hk)
               (try clear hi)
               (try clear ho0)
               refine hK.out _ _ ⟨bc BK488 0, bc BK488 1, bc BK488 2, bc BK488 3, bc BK488 4, bc BK489 0, bc BK489 1, bc BK489 2, bc BK489 3, bc BK489 4⟩ (fun hHeld => ?_)
               clear hK K
               refine np (h := ?_)
               refine pu 5 79 HT_ (h := ?_)
               refine pu 6 85 HT_ (h := ?_)
               refine pu 7 86 HT_ (h := ?_)
               refine one_ (i := 8) (N := some 14) #[true, true, true, true, true, true, true, true, true, false, false] rfl rfl (one_of HT_.out (by kernel_rfl)) (by decide) (fun K hK => ?_)
               refine box_step ?hg (N := 14) ?hd (cs := #[.int .i64 0, .int .i64 0, .int .i64 0, .slice none 0 0, .bool false]) (t := 25) ?hr ?_; (case hd => rfl); (case hg => rfl); (case hr => first | (go_simp; done) | (go_simp; rfl))
               intro gb569 hg w147 hbox hb
               have n0_ := m_ (Kd.R_below (rN HO_512003.out) hb)
               have n1_ := m_ (Kd.R_below (rN HO_520003.out) hb)
               have n2_ := m_ (Kd.R_below (rN HO_534003.out) hb)
               have n3_ := m_ (Kd.R_below (rN HO554.out) hb)
               have n4_ := m_ (Kd.R_below (rN HO566.out) hb)
               have n5_ := m_ (blk_below (kN BK488.out) hb)
               have n6_ := m_ (blk_below (kN BK489.out) hb)
               have n7_ := m_ (blk_below (kN BK511.out) hb)
               have n8_ := m_ (blk_below (kN BK519.out) hb)
               have n9_ := m_ (blk_below (kN BK533.out) hb)
               have n10_ := m_ (below_step (bN HB.out) hb)
               have n11_ := m_ (hbox)
               have n12_ := m_ ((by rw [hg]; exact (below_size (bN HB.out)) : w.heap.size ≤ gb569))
               have n13_ := m_ ((by rw [hg]; exact (below_size (bN HB.out)) : w.heap.size ≤ gb569))
               have n14_ := m_ (nL hg BK488.out)
               have n15_ := m_ (nG hg BK488.out)
               have n16_ := m_ (nL hg BK489.out)
               have n17_ := m_ (nG hg BK489.out)
               have n18_ := m_ (nL hg BK511.out)
               have n19_ := m_ (nG hg BK511.out)
               have n20_ := m_ (nL hg BK519.out)
               have n21_ := m_ (nG hg BK519.out)
               have n22_ := m_ (nL hg BK533.out)
               have n23_ := m_ (nG hg BK533.out)
               clear HO_512003
               clear HO_520003
               clear HO_534003
               clear HO554
               clear HO566
               clear BK488
               clear BK489
               clear BK511
               clear BK519
               clear BK533
               clear HB
               have HO_512003 := n0_
               have HO_520003 := n1_
               have HO_534003 := n2_
               have HO554 := n3_
               have HO566 := n4_
               have BK488 := n5_
               have BK489 := n6_
               have BK511 := n7_
               have BK519 := n8_
               have BK533 := n9_
               have HB := n10_
               have BK569 := n11_
               have GW569 := n12_
               have GE569 := n13_
               have NB488_569 := n14_
               have NB569_488 := n15_
               have NB489_569 := n16_
               have NB569_489 := n17_
               have NB511_569 := n18_
               have NB569_511 := n19_
               have NB519_569 := n20_
               have NB569_519 := n21_
               have NB533_569 := n22_
               have NB569_533 := n23_
               clear n0_ n1_ n2_ n3_ n4_ n5_ n6_ n7_ n8_ n9_ n10_ n11_ n12_ n13_ n14_ n15_ n16_ n17_ n18_ n19_ n20_ n21_ n22_ n23_
               clear hb hbox hg
               refine hK.out _ _ ⟨bc BK488 0, bc BK488 1, bc BK488 2, bc BK488 3, bc BK488 4, bc BK489 0, bc BK489 1, bc BK489 2, bc BK489 3, bc BK489 4⟩ (fun hHeld => ?_)
               clear hK K
               refine np (h := ?_)
               exact nq (hCont (.slice Ao145 t552.length co145, v565, gb569) _ ⟨hHeld, (by (with_reducible repeat (first | apply Kd.R_alloc | apply Kd.R_drewN | apply Kd.R_drew)); exact Kd.R_mono HO554.out (fun _ hk => ⟨hk.2, ⟨hk.1.1.1.2, ⟨hk.1.1.2, hk.1.2⟩⟩⟩)), (by (with_reducible repeat (first | apply Kd.R_alloc | apply Kd.R_drewN | apply Kd.R_drew)); exact Kd.R_mono HO566.out (fun _ hk => ⟨hk.2, ⟨hk.1.1.1.2, ⟨hk.1.1.2, hk.1.2⟩⟩⟩)), (by (with_reducible repeat (first | apply Kd.R_alloc | apply Kd.R_drewN | apply Kd.R_drew)); exact Kd.R_mono HO_512003.out (fun _ hk => ⟨hk.1.2, ⟨hk.2, ⟨hk.1.1.1, hk.1.1.2⟩⟩⟩)), (by (with_reducible repeat (first | apply Kd.R_alloc | apply Kd.R_drewN | apply Kd.R_drew)); exact Kd.R_mono HO_520003.out (fun _ hk => ⟨hk.1.2, ⟨hk.2, ⟨hk.1.1.1, hk.1.1.2⟩⟩⟩)), (by (with_reducible repeat (first | apply Kd.R_alloc | apply Kd.R_drewN | apply Kd.R_drew)); exact Kd.R_mono HO_534003.out (fun _ hk => ⟨hk.1.2, ⟨hk.2, ⟨hk.1.1.1, hk.1.1.2⟩⟩⟩)), (kN BK488.out), (kN BK489.out), (kN BK511.out), (kN BK519.out), (kN BK533.out), (kN BK569.out), GW569.out, GE569.out, NB488_569.out, NB569_488.out, NB489_569.out, NB569_489.out, NB511_569.out, NB569_511.out, NB519_569.out, NB569_519.out, NB533_569.out, NB569_533.out, (bN HB.out)⟩)
              ·skip
               refine box_step ?hg (N := 14) ?hd (cs := #[.int .i64 0, .int .i64 0, .int .i64 0, .slice none 0 0, .bool false]) (t := 25) ?hr ?_; (case hd => rfl); (case hg => rfl); (case hr => first | (go_simp; done) | (go_simp; rfl))
               intro gb569 hg w145 hbox hb
               have n0_ := m_ (Kd.R_below (rN HO_512003.out) hb)
               have n1_ := m_ (Kd.R_below (rN HO_520003.out) hb)
               have n2_ := m_ (Kd.R_below (rN HO_534003.out) hb)
               have n3_ := m_ (Kd.R_below (rN HO554.out) hb)
               have n4_ := m_ (blk_below (kN BK488.out) hb)
               have n5_ := m_ (blk_below (kN BK489.out) hb)
               have n6_ := m_ (blk_below (kN BK511.out) hb)
               have n7_ := m_ (blk_below (kN BK519.out) hb)
               have n8_ := m_ (blk_below (kN BK533.out) hb)
               have n9_ := m_ (below_step (bN HB.out) hb)
               have n10_ := m_ (hbox)
               have n11_ := m_ ((by rw [hg]; exact (below_size (bN HB.out)) : w.heap.size ≤ gb569))
               have n12_ := m_ ((by rw [hg]; exact (below_size (bN HB.out)) : w.heap.size ≤ gb569))
               have n13_ := m_ (nL hg BK488.out)
               have n14_ := m_ (nG hg BK488.out)
               have n15_ := m_ (nL hg BK489.out)
               have n16_ := m_ (nG hg BK489.out)
               have n17_ := m_ (nL hg BK511.out)
               have n18_ := m_ (nG hg BK511.out)
               have n19_ := m_ (nL hg BK519.out)
               have n20_ := m_ (nG hg BK519.out)
               have n21_ := m_ (nL hg BK533.out)
               have n22_ := m_ (nG hg BK533.out)
               clear HO_512003
               clear HO_520003
               clear HO_534003
               clear HO554
               clear BK488
               clear BK489
               clear BK511
               clear BK519
               clear BK533
               clear HB
               have HO_512003 := n0_
               have HO_520003 := n1_
               have HO_534003 := n2_
               have HO554 := n3_
               have BK488 := n4_
               have BK489 := n5_
               have BK511 := n6_
               have BK519 := n7_
               have BK533 := n8_
               have HB := n9_
               have BK569 := n10_
               have GW569 := n11_
               have GE569 := n12_
               have NB488_569 := n13_
               have NB569_488 := n14_
               have NB489_569 := n15_
               have NB569_489 := n16_
               have NB511_569 := n17_
               have NB569_511 := n18_
               have NB519_569 := n19_
               have NB569_519 := n20_
               have NB533_569 := n21_
               have NB569_533 := n22_
               clear n0_ n1_ n2_ n3_ n4_ n5_ n6_ n7_ n8_ n9_ n10_ n11_ n12_ n13_ n14_ n15_ n16_ n17_ n18_ n19_ n20_ n21_ n22_
               clear hb hbox hg
               obtain ⟨Ao146, co146, eo146⟩ := Kd.R_slice HO554.out
               (first | subst eo146 | (injection eo146 with f1_ f2_ f3_; have f4_ := f1_.symm; have f5_ := f3_.symm; clear f1_ f2_ f3_; subst f4_; subst f5_))
               refine hK.out _ _ ⟨bc BK488 0, bc BK488 1, bc BK488 2, bc BK488 3, bc BK488 4, bc BK489 0, bc BK489 1, bc BK489 2, bc BK489 3, bc BK489 4⟩ (fun hHeld => ?_)
               clear hK K
               refine np (h := ?_)
               refine one_ (i := 4) (N := some 84) #[true, true, true, true, true, false, false, false, true, false, false] rfl rfl (one_of HT_.out (by kernel_rfl)) (by decide) (fun K hK => ?_)
               refine goes_ Try.func16 (by kernel_rfl) rfl #[.agg #[.int .i64 t549, .int .i64 t550, .int .i64 t551, .slice Ao146 t552.length co146, .bool t555], .agg #[.bool t556, .bool t557, .bool t558, .int .i64 t559, .int .i64 t560]] (by rfl) rfl rfl gl_ ?_
               with_reducible refine (impl_FopHear.calls kj82 t549 t550 t551 _ _ t552 t555 t556 t557 t558 t559 t560 t561 t562 t563 t564 t567 t568 _ ?side1 ?side2 A132.out).mono ?_
               (case side1 => exact cN (Kd.R_reads' HO554.out).2.2)
               (case side2 => exact (Kd.R_reads' HO554.out).2.1)
               rintro e w147 ⟨v565, rfl, ho0, hb⟩
               refine ⟨_, rfl, ?_⟩
               have n0_ := m_ (Kd.R_elder' (rN HO_512003.out) (Kd.R_base ho0) hb)
               have n1_ := m_ (Kd.R_elder' (rN HO_520003.out) (Kd.R_base ho0) hb)
               have n2_ := m_ (Kd.R_elder' (rN HO_534003.out) (Kd.R_base ho0) hb)
               have n3_ := m_ (Kd.R_elder' (rN HO554.out) (Kd.R_base ho0) hb)
               have n4_ := m_ (Kd.R_lower (Kd.R_new' (Kd.R_new' (Kd.R_new' (Kd.R_new' ho0 (Kd.R_lt (rN HO_512003.out))) (Kd.R_lt (rN HO_520003.out))) (Kd.R_lt (rN HO_534003.out))) (Kd.R_lt (rN HO554.out))) (below_size (bN HB.out)))
               have n5_ := m_ (blk_below (kN BK488.out) hb)
               have n6_ := m_ (blk_below (kN BK489.out) hb)
               have n7_ := m_ (blk_below (kN BK511.out) hb)
               have n8_ := m_ (blk_below (kN BK519.out) hb)
               have n9_ := m_ (blk_below (kN BK533.out) hb)
               have n10_ := m_ (blk_below (kN BK569.out) hb)
               have n11_ := m_ (below_step (bN HB.out) hb)
               clear HO_512003
               clear HO_520003
               clear HO_534003
               clear HO554
               clear BK488
               clear BK489
               clear BK511
               clear BK519
               clear BK533
               clear BK569
               clear HB
               have HO_512003 := n0_
               have HO_520003 := n1_
               have HO_534003 := n2_
               have HO554 := n3_
               have HO566 := n4_
               have BK488 := n5_
               have BK489 := n6_
               have BK511 := n7_
               have BK519 := n8_
               have BK533 := n9_
               have BK569 := n10_
               have HB := n11_
               clear n0_ n1_ n2_ n3_ n4_ n5_ n6_ n7_ n8_ n9_ n10_ n11_
               (try clear hb)
               (try clear hb2)
               (try clear hk)
               (try clear hi)
               (try clear ho0)
               refine hK.out _ _ ⟨bc BK488 0, bc BK488 1, bc BK488 2, bc BK488 3, bc BK488 4, bc BK489 0, bc BK489 1, bc BK489 2, bc BK489 3, bc BK489 4⟩ (fun hHeld => ?_)
               clear hK K
               refine np (h := ?_)
               refine pu 5 79 HT_ (h := ?_)
               refine pu 6 85 HT_ (h := ?_)
               refine pu 7 86 HT_ (h := ?_)
               exact nq (hCont (.slice Ao146 t552.length co146, v565, gb569) _ ⟨hHeld, (by (with_reducible repeat (first | apply Kd.R_alloc | apply Kd.R_drewN | apply Kd.R_drew)); exact Kd.R_mono HO554.out (fun _ hk => ⟨hk.2, ⟨hk.1.1.1.2, ⟨hk.1.1.2, hk.1.2⟩⟩⟩)), (by (with_reducible repeat (first | apply Kd.R_alloc | apply Kd.R_drewN | apply Kd.R_drew)); exact Kd.R_mono HO566.out (fun _ hk => ⟨hk.2, ⟨hk.1.1.1.2, ⟨hk.1.1.2, hk.1.2⟩⟩⟩)), (by (with_reducible repeat (first | apply Kd.R_alloc | apply Kd.R_drewN | apply Kd.R_drew)); exact Kd.R_mono HO_512003.out (fun _ hk => ⟨hk.1.2, ⟨hk.2, ⟨hk.1.1.1, hk.1.1.2⟩⟩⟩)), (by (with_reducible repeat (first | apply Kd.R_alloc | apply Kd.R_drewN | apply Kd.R_drew)); exact Kd.R_mono HO_520003.out (fun _ hk => ⟨hk.1.2, ⟨hk.2, ⟨hk.1.1.1, hk.1.1.2⟩⟩⟩)), (by (with_reducible repeat (first | apply Kd.R_alloc | apply Kd.R_drewN | apply Kd.R_drew)); exact Kd.R_mono HO_534003.out (fun _ hk => ⟨hk.1.2, ⟨hk.2, ⟨hk.1.1.1, hk.1.1.2⟩⟩⟩)), (kN BK488.out), (kN BK489.out), (kN BK511.out), (kN BK519.out), (kN BK533.out), (kN BK569.out), GW569.out, GE569.out, NB488_569.out, NB569_488.out, NB489_569.out, NB569_489.out, NB511_569.out, NB569_511.out, NB519_569.out, NB569_519.out, NB533_569.out, NB569_533.out, (bN HB.out)⟩)
             ·skip
              refine box_step ?hg (N := 14) ?hd (cs := #[.int .i64 0, .int .i64 0, .int .i64 0, .slice none 0 0, .bool false]) (t := 25) ?hr ?_; (case hd => rfl); (case hg => rfl); (case hr => first | (go_simp; done) | (go_simp; rfl))
              intro gb569 hg w144 hbox hb
              have n0_ := m_ (Kd.R_below (rN HO_512003.out) hb)
              have n1_ := m_ (Kd.R_below (rN HO_520003.out) hb)
              have n2_ := m_ (Kd.R_below (rN HO_534003.out) hb)
              have n3_ := m_ (Kd.R_below (rN HO554.out) hb)
              have n4_ := m_ (blk_below (kN BK488.out) hb)
              have n5_ := m_ (blk_below (kN BK489.out) hb)
              have n6_ := m_ (blk_below (kN BK511.out) hb)
              have n7_ := m_ (blk_below (kN BK519.out) hb)
              have n8_ := m_ (blk_below (kN BK533.out) hb)
              have n9_ := m_ (below_step (bN HB.out) hb)
              have n10_ := m_ (hbox)
              have n11_ := m_ ((by rw [hg]; exact (below_size (bN HB.out)) : w.heap.size ≤ gb569))
              have n12_ := m_ ((by rw [hg]; exact (below_size (bN HB.out)) : w.heap.size ≤ gb569))
              have n13_ := m_ (nL hg BK488.out)
              have n14_ := m_ (nG hg BK488.out)
              have n15_ := m_ (nL hg BK489.out)
              have n16_ := m_ (nG hg BK489.out)
              have n17_ := m_ (nL hg BK511.out)
              have n18_ := m_ (nG hg BK511.out)
              have n19_ := m_ (nL hg BK519.out)
              have n20_ := m_ (nG hg BK519.out)
              have n21_ := m_ (nL hg BK533.out)
              have n22_ := m_ (nG hg BK533.out)
              clear HO_512003
              clear HO_520003
              clear HO_534003
              clear HO554
              clear BK488
              clear BK489
              clear BK511
              clear BK519
              clear BK533
              clear HB
              have HO_512003 := n0_
              have HO_520003 := n1_
              have HO_534003 := n2_
              have HO554 := n3_
              have BK488 := n4_
              have BK489 := n5_
              have BK511 := n6_
              have BK519 := n7_
              have BK533 := n8_
              have HB := n9_
              have BK569 := n10_
              have GW569 := n11_
              have GE569 := n12_
              have NB488_569 := n13_
              have NB569_488 := n14_
              have NB489_569 := n15_
              have NB569_489 := n16_
              have NB511_569 := n17_
              have NB569_511 := n18_
              have NB519_569 := n19_
              have NB569_519 := n20_
              have NB533_569 := n21_
              have NB569_533 := n22_
              clear n0_ n1_ n2_ n3_ n4_ n5_ n6_ n7_ n8_ n9_ n10_ n11_ n12_ n13_ n14_ n15_ n16_ n17_ n18_ n19_ n20_ n21_ n22_
              clear hb hbox hg
              refine hK.out _ _ ⟨bc BK488 0, bc BK488 1, bc BK488 2, bc BK488 3, bc BK488 4, bc BK489 0, bc BK489 1, bc BK489 2, bc BK489 3, bc BK489 4⟩ (fun hHeld => ?_)
              clear hK K
              refine np (h := ?_)
              refine one_ (i := 3) (N := some 83) #[true, true, true, true, false, false, false, false, true, false, false] rfl rfl (one_of HT_.out (by kernel_rfl)) (by decide) (fun K hK => ?_)
              refine goes_ Try.func21 (by kernel_rfl) rfl #[.agg #[.bool a1_0, .bool a1_1, .bool a1_2, .int .i64 a1_3, .int .i64 a1_4]] (by rfl) rfl rfl gl_ ?_
              with_reducible refine (laws_toFarm.calls a1_0 a1_1 a1_2 a1_3 a1_4 t556 t557 t558 t559 t560 _ A131.out).mono ?_
              rintro e w145 ⟨rfl, hb⟩
              refine ⟨_, rfl, ?_⟩
              have n0_ := m_ (Kd.R_below (rN HO_512003.out) hb)
              have n1_ := m_ (Kd.R_below (rN HO_520003.out) hb)
              have n2_ := m_ (Kd.R_below (rN HO_534003.out) hb)
              have n3_ := m_ (Kd.R_below (rN HO554.out) hb)
              have n4_ := m_ (blk_below (kN BK488.out) hb)
              have n5_ := m_ (blk_below (kN BK489.out) hb)
              have n6_ := m_ (blk_below (kN BK511.out) hb)
              have n7_ := m_ (blk_below (kN BK519.out) hb)
              have n8_ := m_ (blk_below (kN BK533.out) hb)
              have n9_ := m_ (blk_below (kN BK569.out) hb)
              have n10_ := m_ (below_step (bN HB.out) hb)
              clear HO_512003
              clear HO_520003
              clear HO_534003
              clear HO554
              clear BK488
              clear BK489
              clear BK511
              clear BK519
              clear BK533
              clear BK569
              clear HB
              have HO_512003 := n0_
              have HO_520003 := n1_
              have HO_534003 := n2_
              have HO554 := n3_
              have BK488 := n4_
              have BK489 := n5_
              have BK511 := n6_
              have BK519 := n7_
              have BK533 := n8_
              have BK569 := n9_
              have HB := n10_
              clear n0_ n1_ n2_ n3_ n4_ n5_ n6_ n7_ n8_ n9_ n10_
              (try clear hb)
              (try clear hb2)
              (try clear hk)
              (try clear hi)
              obtain ⟨Ao146, co146, eo146⟩ := Kd.R_slice HO554.out
              (first | subst eo146 | (injection eo146 with f1_ f2_ f3_; have f4_ := f1_.symm; have f5_ := f3_.symm; clear f1_ f2_ f3_; subst f4_; subst f5_))
              refine hK.out _ _ ⟨bc BK488 0, bc BK488 1, bc BK488 2, bc BK488 3, bc BK488 4, bc BK489 0, bc BK489 1, bc BK489 2, bc BK489 3, bc BK489 4⟩ (fun hHeld => ?_)
              clear hK K
              refine np (h := ?_)
              refine one_ (i := 4) (N := some 84) #[true, true, true, true, true, false, false, false, true, false, false] rfl rfl (one_of HT_.out (by kernel_rfl)) (by decide) (fun K hK => ?_)
              refine goes_ Try.func16 (by kernel_rfl) rfl #[.agg #[.int .i64 t549, .int .i64 t550, .int .i64 t551, .slice Ao146 t552.length co146, .bool t555], .agg #[.bool t556, .bool t557, .bool t558, .int .i64 t559, .int .i64 t560]] (by rfl) rfl rfl gl_ ?_
              with_reducible refine (impl_FopHear.calls kj82 t549 t550 t551 _ _ t552 t555 t556 t557 t558 t559 t560 t561 t562 t563 t564 t567 t568 _ ?side1 ?side2 A132.out).mono ?_
              (case side1 => exact cN (Kd.R_reads' HO554.out).2.2)
              (case side2 => exact (Kd.R_reads' HO554.out).2.1)
              rintro e w147 ⟨v565, rfl, ho0, hb⟩
              refine ⟨_, rfl, ?_⟩
              have n0_ := m_ (Kd.R_elder' (rN HO_512003.out) (Kd.R_base ho0) hb)
              have n1_ := m_ (Kd.R_elder' (rN HO_520003.out) (Kd.R_base ho0) hb)
              have n2_ := m_ (Kd.R_elder' (rN HO_534003.out) (Kd.R_base ho0) hb)
              have n3_ := m_ (Kd.R_elder' (rN HO554.out) (Kd.R_base ho0) hb)
              have n4_ := m_ (Kd.R_lower (Kd.R_new' (Kd.R_new' (Kd.R_new' (Kd.R_new' ho0 (Kd.R_lt (rN HO_512003.out))) (Kd.R_lt (rN HO_520003.out))) (Kd.R_lt (rN HO_534003.out))) (Kd.R_lt (rN HO554.out))) (below_size (bN HB.out)))
              have n5_ := m_ (blk_below (kN BK488.out) hb)
              have n6_ := m_ (blk_below (kN BK489.out) hb)
              have n7_ := m_ (blk_below (kN BK511.out) hb)
              have n8_ := m_ (blk_below (kN BK519.out) hb)
              have n9_ := m_ (blk_below (kN BK533.out) hb)
              have n10_ := m_ (blk_below (kN BK569.out) hb)
              have n11_ := m_ (below_step (bN HB.out) hb)
              clear HO_512003
              clear HO_520003
              clear HO_534003
              clear HO554
              clear BK488
              clear BK489
              clear BK511
              clear BK519
              clear BK533
              clear BK569
              clear HB
              have HO_512003 := n0_
              have HO_520003 := n1_
              have HO_534003 := n2_
              have HO554 := n3_
              have HO566 := n4_
              have BK488 := n5_
              have BK489 := n6_
              have BK511 := n7_
              have BK519 := n8_
              have BK533 := n9_
              have BK569 := n10_
              have HB := n11_
              clear n0_ n1_ n2_ n3_ n4_ n5_ n6_ n7_ n8_ n9_ n10_ n11_
              (try clear hb)
              (try clear hb2)
              (try clear hk)
              (try clear hi)
              (try clear ho0)
              refine hK.out _ _ ⟨bc BK488 0, bc BK488 1, bc BK488 2, bc BK488 3, bc BK488 4, bc BK489 0, bc BK489 1, bc BK489 2, bc BK489 3, bc BK489 4⟩ (fun hHeld => ?_)
              clear hK K
              refine np (h := ?_)
              refine pu 5 79 HT_ (h := ?_)
              refine pu 6 85 HT_ (h := ?_)
              refine pu 7 86 HT_ (h := ?_)
              exact nq (hCont (.slice Ao146 t552.length co146, v565, gb569) _ ⟨hHeld, (by (with_reducible repeat (first | apply Kd.R_alloc | apply Kd.R_drewN | apply Kd.R_drew)); exact Kd.R_mono HO554.out (fun _ hk => ⟨hk.2, ⟨hk.1.1.1.2, ⟨hk.1.1.2, hk.1.2⟩⟩⟩)), (by (with_reducible repeat (first | apply Kd.R_alloc | apply Kd.R_drewN | apply Kd.R_drew)); exact Kd.R_mono HO566.out (fun _ hk => ⟨hk.2, ⟨hk.1.1.1.2, ⟨hk.1.1.2, hk.1.2⟩⟩⟩)), (by (with_reducible repeat (first | apply Kd.R_alloc | apply Kd.R_drewN | apply Kd.R_drew)); exact Kd.R_mono HO_512003.out (fun _ hk => ⟨hk.1.2, ⟨hk.2, ⟨hk.1.1.1, hk.1.1.2⟩⟩⟩)), (by (with_reducible repeat (first | apply Kd.R_alloc | apply Kd.R_drewN | apply Kd.R_drew)); exact Kd.R_mono HO_520003.out (fun _ hk => ⟨hk.1.2, ⟨hk.2, ⟨hk.1.1.1, hk.1.1.2⟩⟩⟩)), (by (with_reducible repeat (first | apply Kd.R_alloc | apply Kd.R_drewN | apply Kd.R_drew)); exact Kd.R_mono HO_534003.out (fun _ hk => ⟨hk.1.2, ⟨hk.2, ⟨hk.1.1.1, hk.1.1.2⟩⟩⟩)), (kN BK488.out), (kN BK489.out), (kN BK511.out), (kN BK519.out), (kN BK533.out), (kN BK569.out), GW569.out, GE569.out, NB488_569.out, NB569_488.out, NB489_569.out, NB569_489.out, NB511_569.out, NB569_511.out, NB519_569.out, NB569_519.out, NB533_569.out, NB569_533.out, (bN HB.out)⟩)
            ·skip
             refine box_step ?hg (N := 14) ?hd (cs := #[.int .i64 0, .int .i64 0, .int .i64 0, .slice none 0 0, .bool false]) (t := 25) ?hr ?_; (case hd => rfl); (case hg => rfl); (case hr => first | (go_simp; done) | (go_simp; rfl))
             intro gb569 hg w143 hbox hb
             have n0_ := m_ (Kd.R_below (rN HO_512003.out) hb)
             have n1_ := m_ (Kd.R_below (rN HO_520003.out) hb)
             have n2_ := m_ (Kd.R_below (rN HO_534003.out) hb)
             have n3_ := m_ (blk_below (kN BK488.out) hb)
             have n4_ := m_ (blk_below (kN BK489.out) hb)
             have n5_ := m_ (blk_below (kN BK511.out) hb)
             have n6_ := m_ (blk_below (kN BK519.out) hb)
             have n7_ := m_ (blk_below (kN BK533.out) hb)
             have n8_ := m_ (below_step (bN HB.out) hb)
             have n9_ := m_ (hbox)
             have n10_ := m_ ((by rw [hg]; exact (below_size (bN HB.out)) : w.heap.size ≤ gb569))
             have n11_ := m_ ((by rw [hg]; exact (below_size (bN HB.out)) : w.heap.size ≤ gb569))
             have n12_ := m_ (nL hg BK488.out)
             have n13_ := m_ (nG hg BK488.out)
             have n14_ := m_ (nL hg BK489.out)
             have n15_ := m_ (nG hg BK489.out)
             have n16_ := m_ (nL hg BK511.out)
             have n17_ := m_ (nG hg BK511.out)
             have n18_ := m_ (nL hg BK519.out)
             have n19_ := m_ (nG hg BK519.out)
             have n20_ := m_ (nL hg BK533.out)
             have n21_ := m_ (nG hg BK533.out)
             clear HO_512003
             clear HO_520003
             clear HO_534003
             clear BK488
             clear BK489
             clear BK511
             clear BK519
             clear BK533
             clear HB
             have HO_512003 := n0_
             have HO_520003 := n1_
             have HO_534003 := n2_
             have BK488 := n3_
             have BK489 := n4_
             have BK511 := n5_
             have BK519 := n6_
             have BK533 := n7_
             have HB := n8_
             have BK569 := n9_
             have GW569 := n10_
             have GE569 := n11_
             have NB488_569 := n12_
             have NB569_488 := n13_
             have NB489_569 := n14_
             have NB569_489 := n15_
             have NB511_569 := n16_
             have NB569_511 := n17_
             have NB519_569 := n18_
             have NB569_519 := n19_
             have NB533_569 := n20_
             have NB569_533 := n21_
             clear n0_ n1_ n2_ n3_ n4_ n5_ n6_ n7_ n8_ n9_ n10_ n11_ n12_ n13_ n14_ n15_ n16_ n17_ n18_ n19_ n20_ n21_
             clear hb hbox hg
             refine hK.out _ _ ⟨bc BK488 0, bc BK488 1, bc BK488 2, bc BK488 3, bc BK488 4, bc BK489 0, bc BK489 1, bc BK489 2, bc BK489 3, bc BK489 4⟩ (fun hHeld => ?_)
             clear hK K
             refine np (h := ?_)
             refine one_ (i := 1) (N := some 81) #[true, true, true, false, false, false, false, false, true, false, false] rfl rfl (one_of HT_.out (by kernel_rfl)) (by decide) (fun K hK => ?_)
             refine goes_ Try.func20 (by kernel_rfl) rfl #[.agg #[.int .i64 a0_0, .int .i64 a0_1, .int .i64 a0_2, .slice A0_3 l0_3.length c0_3, .bool a0_4]] (by rfl) rfl rfl gl_ ?_
             with_reducible refine (laws_toFop.calls kj82 a0_0 a0_1 a0_2 _ _ l0_3 a0_4 t549 t550 t551 t552 t555 _ ?side1 ?side2 A130.out).mono ?_
             (case side1 => exact cN (Kd.C_below HR0_3.out HB.out))
             (case side2 => exact HC0_3.out)
             rintro e w144 ⟨v553, rfl, ho0, hb⟩
             refine ⟨_, rfl, ?_⟩
             have n0_ := m_ (Kd.R_elder' (rN HO_512003.out) (Kd.R_base ho0) hb)
             have n1_ := m_ (Kd.R_elder' (rN HO_520003.out) (Kd.R_base ho0) hb)
             have n2_ := m_ (Kd.R_elder' (rN HO_534003.out) (Kd.R_base ho0) hb)
             have n3_ := m_ (Kd.R_lower (Kd.R_new' (Kd.R_new' (Kd.R_new' ho0 (Kd.R_lt (rN HO_512003.out))) (Kd.R_lt (rN HO_520003.out))) (Kd.R_lt (rN HO_534003.out))) (below_size (bN HB.out)))
             have n4_ := m_ (blk_below (kN BK488.out) hb)
             have n5_ := m_ (blk_below (kN BK489.out) hb)
             have n6_ := m_ (blk_below (kN BK511.out) hb)
             have n7_ := m_ (blk_below (kN BK519.out) hb)
             have n8_ := m_ (blk_below (kN BK533.out) hb)
             have n9_ := m_ (blk_below (kN BK569.out) hb)
             have n10_ := m_ (below_step (bN HB.out) hb)
             clear HO_512003
             clear HO_520003
             clear HO_534003
             clear BK488
             clear BK489
             clear BK511
             clear BK519
             clear BK533
             clear BK569
             clear HB
             have HO_512003 := n0_
             have HO_520003 := n1_
             have HO_534003 := n2_
             have HO554 := n3_
             have BK488 := n4_
             have BK489 := n5_
             have BK511 := n6_
             have BK519 := n7_
             have BK533 := n8_
             have BK569 := n9_
             have HB := n10_
             clear n0_ n1_ n2_ n3_ n4_ n5_ n6_ n7_ n8_ n9_ n10_
             (try clear hb)
             (try clear hb2)
             (try clear hk)
             (try clear hi)
             (try clear ho0)
             refine hK.out _ _ ⟨bc BK488 0, bc BK488 1, bc BK488 2, bc BK488 3, bc BK488 4, bc BK489 0, bc BK489 1, bc BK489 2, bc BK489 3, bc BK489 4⟩ (fun hHeld => ?_)
             clear hK K
             refine np (h := ?_)
             refine one_ (i := 3) (N := some 83) #[true, true, true, true, false, false, false, false, true, false, false] rfl rfl (one_of HT_.out (by kernel_rfl)) (by decide) (fun K hK => ?_)
             refine goes_ Try.func21 (by kernel_rfl) rfl #[.agg #[.bool a1_0, .bool a1_1, .bool a1_2, .int .i64 a1_3, .int .i64 a1_4]] (by rfl) rfl rfl gl_ ?_
             with_reducible refine (laws_toFarm.calls a1_0 a1_1 a1_2 a1_3 a1_4 t556 t557 t558 t559 t560 _ A131.out).mono ?_
             rintro e w145 ⟨rfl, hb⟩
             refine ⟨_, rfl, ?_⟩
             have n0_ := m_ (Kd.R_below (rN HO_512003.out) hb)
             have n1_ := m_ (Kd.R_below (rN HO_520003.out) hb)
             have n2_ := m_ (Kd.R_below (rN HO_534003.out) hb)
             have n3_ := m_ (Kd.R_below (rN HO554.out) hb)
             have n4_ := m_ (blk_below (kN BK488.out) hb)
             have n5_ := m_ (blk_below (kN BK489.out) hb)
             have n6_ := m_ (blk_below (kN BK511.out) hb)
             have n7_ := m_ (blk_below (kN BK519.out) hb)
             have n8_ := m_ (blk_below (kN BK533.out) hb)
             have n9_ := m_ (blk_below (kN BK569.out) hb)
             have n10_ := m_ (below_step (bN HB.out) hb)
             clear HO_512003
             clear HO_520003
             clear HO_534003
             clear HO554
             clear BK488
             clear BK489
             clear BK511
             clear BK519
             clear BK533
             clear BK569
             clear HB
             have HO_512003 := n0_
             have HO_520003 := n1_
             have HO_534003 := n2_
             have HO554 := n3_
             have BK488 := n4_
             have BK489 := n5_
             have BK511 := n6_
             have BK519 := n7_
             have BK533 := n8_
             have BK569 := n9_
             have HB := n10_
             clear n0_ n1_ n2_ n3_ n4_ n5_ n6_ n7_ n8_ n9_ n10_
             (try clear hb)
             (try clear hb2)
             (try clear hk)
             (try clear hi)
             obtain ⟨Ao146, co146, eo146⟩ := Kd.R_slice HO554.out
             (first | subst eo146 | (injection eo146 with f1_ f2_ f3_; have f4_ := f1_.symm; have f5_ := f3_.symm; clear f1_ f2_ f3_; subst f4_; subst f5_))
             refine hK.out _ _ ⟨bc BK488 0, bc BK488 1, bc BK488 2, bc BK488 3, bc BK488 4, bc BK489 0, bc BK489 1, bc BK489 2, bc BK489 3, bc BK489 4⟩ (fun hHeld => ?_)
             clear hK K
             refine np (h := ?_)
             refine one_ (i := 4) (N := some 84) #[true, true, true, true, true, false, false, false, true, false, false] rfl rfl (one_of HT_.out (by kernel_rfl)) (by decide) (fun K hK => ?_)
             refine goes_ Try.func16 (by kernel_rfl) rfl #[.agg #[.int .i64 t549, .int .i64 t550, .int .i64 t551, .slice Ao146 t552.length co146, .bool t555], .agg #[.bool t556, .bool t557, .bool t558, .int .i64 t559, .int .i64 t560]] (by rfl) rfl rfl gl_ ?_
             with_reducible refine (impl_FopHear.calls kj82 t549 t550 t551 _ _ t552 t555 t556 t557 t558 t559 t560 t561 t562 t563 t564 t567 t568 _ ?side1 ?side2 A132.out).mono ?_
             (case side1 => exact cN (Kd.R_reads' HO554.out).2.2)
             (case side2 => exact (Kd.R_reads' HO554.out).2.1)
             rintro e w147 ⟨v565, rfl, ho0, hb⟩
             refine ⟨_, rfl, ?_⟩
             have n0_ := m_ (Kd.R_elder' (rN HO_512003.out) (Kd.R_base ho0) hb)
             have n1_ := m_ (Kd.R_elder' (rN HO_520003.out) (Kd.R_base ho0) hb)
             have n2_ := m_ (Kd.R_elder' (rN HO_534003.out) (Kd.R_base ho0) hb)
             have n3_ := m_ (Kd.R_elder' (rN HO554.out) (Kd.R_base ho0) hb)
             have n4_ := m_ (Kd.R_lower (Kd.R_new' (Kd.R_new' (Kd.R_new' (Kd.R_new' ho0 (Kd.R_lt (rN HO_512003.out))) (Kd.R_lt (rN HO_520003.out))) (Kd.R_lt (rN HO_534003.out))) (Kd.R_lt (rN HO554.out))) (below_size (bN HB.out)))
             have n5_ := m_ (blk_below (kN BK488.out) hb)
             have n6_ := m_ (blk_below (kN BK489.out) hb)
             have n7_ := m_ (blk_below (kN BK511.out) hb)
             have n8_ := m_ (blk_below (kN BK519.out) hb)
             have n9_ := m_ (blk_below (kN BK533.out) hb)
             have n10_ := m_ (blk_below (kN BK569.out) hb)
             have n11_ := m_ (below_step (bN HB.out) hb)
             clear HO_512003
             clear HO_520003
             clear HO_534003
             clear HO554
             clear BK488
             clear BK489
             clear BK511
             clear BK519
             clear BK533
             clear BK569
             clear HB
             have HO_512003 := n0_
             have HO_520003 := n1_
             have HO_534003 := n2_
             have HO554 := n3_
             have HO566 := n4_
             have BK488 := n5_
             have BK489 := n6_
             have BK511 := n7_
             have BK519 := n8_
             have BK533 := n9_
             have BK569 := n10_
             have HB := n11_
             clear n0_ n1_ n2_ n3_ n4_ n5_ n6_ n7_ n8_ n9_ n10_ n11_
             (try clear hb)
             (try clear hb2)
             (try clear hk)
             (try clear hi)
             (try clear ho0)
             refine hK.out _ _ ⟨bc BK488 0, bc BK488 1, bc BK488 2, bc BK488 3, bc BK488 4, bc BK489 0, bc BK489 1, bc BK489 2, bc BK489 3, bc BK489 4⟩ (fun hHeld => ?_)
             clear hK K
             refine np (h := ?_)
             refine pu 5 79 HT_ (h := ?_)
             refine pu 6 85 HT_ (h := ?_)
             refine pu 7 86 HT_ (h := ?_)
             exact nq (hCont (.slice Ao146 t552.length co146, v565, gb569) _ ⟨hHeld, (by (with_reducible repeat (first | apply Kd.R_alloc | apply Kd.R_drewN | apply Kd.R_drew)); exact Kd.R_mono HO554.out (fun _ hk => ⟨hk.2, ⟨hk.1.1.1.2, ⟨hk.1.1.2, hk.1.2⟩⟩⟩)), (by (with_reducible repeat (first | apply Kd.R_alloc | apply Kd.R_drewN | apply Kd.R_drew)); exact Kd.R_mono HO566.out (fun _ hk => ⟨hk.2, ⟨hk.1.1.1.2, ⟨hk.1.1.2, hk.1.2⟩⟩⟩)), (by (with_reducible repeat (first | apply Kd.R_alloc | apply Kd.R_drewN | apply Kd.R_drew)); exact Kd.R_mono HO_512003.out (fun _ hk => ⟨hk.1.2, ⟨hk.2, ⟨hk.1.1.1, hk.1.1.2⟩⟩⟩)), (by (with_reducible repeat (first | apply Kd.R_alloc | apply Kd.R_drewN | apply Kd.R_drew)); exact Kd.R_mono HO_520003.out (fun _ hk => ⟨hk.1.2, ⟨hk.2, ⟨hk.1.1.1, hk.1.1.2⟩⟩⟩)), (by (with_reducible repeat (first | apply Kd.R_alloc | apply Kd.R_drewN | apply Kd.R_drew)); exact Kd.R_mono HO_534003.out (fun _ hk => ⟨hk.1.2, ⟨hk.2, ⟨hk.1.1.1, hk.1.1.2⟩⟩⟩)), (kN BK488.out), (kN BK489.out), (kN BK511.out), (kN BK519.out), (kN BK533.out), (kN BK569.out), GW569.out, GE569.out, NB488_569.out, NB569_488.out, NB489_569.out, NB569_489.out, NB511_569.out, NB569_511.out, NB519_569.out, NB569_519.out, NB533_569.out, NB569_533.out, (bN HB.out)⟩)
           rintro ⟨v553, v565, gb569⟩ w148 ⟨hS_, h0_, h1_, h2_, h3_, h4_, h5_, h6_, h7_, h8_, h9_, h10_, h11_, h12_, h13_, h14_, h15_, h16_, h17_, h18_, h19_, h20_, h21_, h22_, h23_⟩
           have n0_ : Aside0 (Kd.R Kd.string 9 w148 w.heap.size (fun k_ => some k_ ≠ (v565 : Value).ownBlock ∧ nb Ao32 t506.length co32 k_ ∧ nb Ao43 t544.length co43 k_ ∧ nb Ao53 t528.length co53 k_) v553 t552) := ⟨h0_⟩
           have n1_ : Aside0 (Kd.R Kd.string 9 w148 w.heap.size (fun k_ => some k_ ≠ (v553 : Value).ownBlock ∧ nb Ao32 t506.length co32 k_ ∧ nb Ao43 t544.length co43 k_ ∧ nb Ao53 t528.length co53 k_) v565 t564) := ⟨h1_⟩
           have n2_ : Aside0 (Kd.R Kd.string 9 w148 w.heap.size (fun k_ => some k_ ≠ (v553 : Value).ownBlock ∧ some k_ ≠ (v565 : Value).ownBlock ∧ nb Ao43 t544.length co43 k_ ∧ nb Ao53 t528.length co53 k_) (.slice Ao32 t506.length co32) t506) := ⟨h2_⟩
           have n3_ : Aside0 (Kd.R Kd.string 9 w148 w.heap.size (fun k_ => some k_ ≠ (v553 : Value).ownBlock ∧ some k_ ≠ (v565 : Value).ownBlock ∧ nb Ao32 t506.length co32 k_ ∧ nb Ao53 t528.length co53 k_) (.slice Ao43 t544.length co43) t544) := ⟨h3_⟩
           have n4_ : Aside0 (Kd.R Kd.string 9 w148 w.heap.size (fun k_ => some k_ ≠ (v553 : Value).ownBlock ∧ some k_ ≠ (v565 : Value).ownBlock ∧ nb Ao32 t506.length co32 k_ ∧ nb Ao43 t544.length co43 k_) (.slice Ao53 t528.length co53) t547) := ⟨h4_⟩
           have n5_ : Aside0 (w148.heap[gb488]? = some (.cells #[.int .i64 a0_0, .int .i64 a0_1, .int .i64 a0_2, .slice A0_3 l0_3.length c0_3, .bool a0_4] 45 (0, 0))) := ⟨h5_⟩
           have n6_ : Aside0 (w148.heap[gb489]? = some (.cells #[.bool a1_0, .bool a1_1, .bool a1_2, .int .i64 a1_3, .int .i64 a1_4] 46 (0, 0))) := ⟨h6_⟩
           have n7_ : Aside0 (w148.heap[gb511]? = some (.cells #[.int .i64 t503, .int .i64 t504, .int .i64 t505, .slice Ao32 t506.length co32, .bool t509] 25 (0, 0))) := ⟨h7_⟩
           have n8_ : Aside0 (w148.heap[gb519]? = some (.cells #[.int .i64 t512, .int .i64 t513, .int .i64 t514, .slice Ao43 t544.length co43, .bool t518] 25 (0, 0))) := ⟨h8_⟩
           have n9_ : Aside0 (w148.heap[gb533]? = some (.cells #[.int .i64 t525, .int .i64 t526, .int .i64 t527, .slice Ao53 t528.length co53, .bool t531] 25 (0, 0))) := ⟨h9_⟩
           have n10_ : Aside0 (w148.heap[gb569]? = some (.cells #[.int .i64 0, .int .i64 0, .int .i64 0, .slice none 0 0, .bool false] 25 (0, 0))) := ⟨h10_⟩
           have n11_ : Aside0 (w.heap.size ≤ gb569) := ⟨h11_⟩
           have n12_ : Aside0 (w.heap.size ≤ gb569) := ⟨h12_⟩
           have n13_ : Aside0 (gb488 ≠ gb569) := ⟨h13_⟩
           have n14_ : Aside0 (gb569 ≠ gb488) := ⟨h14_⟩
           have n15_ : Aside0 (gb489 ≠ gb569) := ⟨h15_⟩
           have n16_ : Aside0 (gb569 ≠ gb489) := ⟨h16_⟩
           have n17_ : Aside0 (gb511 ≠ gb569) := ⟨h17_⟩
           have n18_ : Aside0 (gb569 ≠ gb511) := ⟨h18_⟩
           have n19_ : Aside0 (gb519 ≠ gb569) := ⟨h19_⟩
           have n20_ : Aside0 (gb569 ≠ gb519) := ⟨h20_⟩
           have n21_ : Aside0 (gb533 ≠ gb569) := ⟨h21_⟩
           have n22_ : Aside0 (gb569 ≠ gb533) := ⟨h22_⟩
           have n23_ : Aside0 (Below w.heap.size w w148) := ⟨h23_⟩
           clear HO_512003
           clear HO_520003
           clear HO_534003
           clear BK488
           clear BK489
           clear BK511
           clear BK519
           clear BK533
           clear HB
           clear h0_ h1_ h2_ h3_ h4_ h5_ h6_ h7_ h8_ h9_ h10_ h11_ h12_ h13_ h14_ h15_ h16_ h17_ h18_ h19_ h20_ h21_ h22_ h23_
           have HO554 := n0_
           have HO566 := n1_
           have HO_512003 := n2_
           have HO_520003 := n3_
           have HO_534003 := n4_
           have BK488 := n5_
           have BK489 := n6_
           have BK511 := n7_
           have BK519 := n8_
           have BK533 := n9_
           have BK569 := n10_
           have GW569 := n11_
           have GE569 := n12_
           have NB488_569 := n13_
           have NB569_488 := n14_
           have NB489_569 := n15_
           have NB569_489 := n16_
           have NB511_569 := n17_
           have NB569_511 := n18_
           have NB519_569 := n19_
           have NB569_519 := n20_
           have NB533_569 := n21_
           have NB569_533 := n22_
           have HB := n23_
           clear n0_ n1_ n2_ n3_ n4_ n5_ n6_ n7_ n8_ n9_ n10_ n11_ n12_ n13_ n14_ n15_ n16_ n17_ n18_ n19_ n20_ n21_ n22_ n23_
           have hHeld : w148.cell? ⟨gb488, 0, none⟩ = some (.int .i64 a0_0) ∧ w148.cell? ⟨gb488, 1, none⟩ = some (.int .i64 a0_1) ∧ w148.cell? ⟨gb488, 2, none⟩ = some (.int .i64 a0_2) ∧ w148.cell? ⟨gb488, 3, none⟩ = some (.slice A0_3 l0_3.length c0_3) ∧ w148.cell? ⟨gb488, 4, none⟩ = some (.bool a0_4) ∧ w148.cell? ⟨gb489, 0, none⟩ = some (.bool a1_0) ∧ w148.cell? ⟨gb489, 1, none⟩ = some (.bool a1_1) ∧ w148.cell? ⟨gb489, 2, none⟩ = some (.bool a1_2) ∧ w148.cell? ⟨gb489, 3, none⟩ = some (.int .i64 a1_3) ∧ w148.cell? ⟨gb489, 4, none⟩ = some (.int .i64 a1_4) := hS_
           obtain ⟨Ao152, co152, eo152⟩ := Kd.R_slice HO566.out
           (first | subst eo152 | (injection eo152 with f1_ f2_ f3_; have f4_ := f1_.symm; have f5_ := f3_.symm; clear f1_ f2_ f3_; subst f4_; subst f5_))
           refine norm_ (a' := ?_) ?_ ?_
           rotate_left
           ·simp only [putAll, Act.put, List.setIfInBounds_toArray, List.set_cons_zero, List.set_cons_succ]
            rfl
           refine one_ (i := 9) (N := none) #[true, true, true, true, true, true, true, true, true, true, false] rfl rfl (one_of HT_.out (by kernel_rfl)) (by decide) (fun K hK => ?_)
           have hs149 : w148.cell? ⟨gb569, 0, none⟩ = some (.int .i64 0) := bc BK569 0
           have hfs149 := blk_frozen BK569.out 0
           have hns149_0 := NB488_569.out
           have hns149_1 := NB489_569.out
           have hns149_2 := NB511_569.out
           have hns149_3 := NB519_569.out
           have hns149_4 := NB533_569.out
           have hms149_0 := NB569_488.out
           have hms149_1 := NB569_489.out
           have hms149_2 := NB569_511.out
           have hms149_3 := NB569_519.out
           have hms149_4 := NB569_533.out
           have hs150 : w148.cell? ⟨gb569, 1, none⟩ = some (.int .i64 0) := bc BK569 1
           have hfs150 := blk_frozen BK569.out 1
           have hns150_0 := NB488_569.out
           have hns150_1 := NB489_569.out
           have hns150_2 := NB511_569.out
           have hns150_3 := NB519_569.out
           have hns150_4 := NB533_569.out
           have hms150_0 := NB569_488.out
           have hms150_1 := NB569_489.out
           have hms150_2 := NB569_511.out
           have hms150_3 := NB569_519.out
           have hms150_4 := NB569_533.out
           have hs151 : w148.cell? ⟨gb569, 2, none⟩ = some (.int .i64 0) := bc BK569 2
           have hfs151 := blk_frozen BK569.out 2
           have hns151_0 := NB488_569.out
           have hns151_1 := NB489_569.out
           have hns151_2 := NB511_569.out
           have hns151_3 := NB519_569.out
           have hns151_4 := NB533_569.out
           have hms151_0 := NB569_488.out
           have hms151_1 := NB569_489.out
           have hms151_2 := NB569_511.out
           have hms151_3 := NB569_519.out
           have hms151_4 := NB569_533.out
           have hs153 : w148.cell? ⟨gb569, 3, none⟩ = some (.slice none 0 0) := bc BK569 3
           have hfs153 := blk_frozen BK569.out 3
           have hns153_0 := NB488_569.out
           have hns153_1 := NB489_569.out
           have hns153_2 := NB511_569.out
           have hns153_3 := NB519_569.out
           have hns153_4 := NB533_569.out
           have hms153_0 := NB569_488.out
           have hms153_1 := NB569_489.out
           have hms153_2 := NB569_511.out
           have hms153_3 := NB569_519.out
           have hms153_4 := NB569_533.out
           have hs154 : w148.cell? ⟨gb569, 4, none⟩ = some (.bool false) := bc BK569 4
           have hfs154 := blk_frozen BK569.out 4
           have hns154_0 := NB488_569.out
           have hns154_1 := NB489_569.out
           have hns154_2 := NB511_569.out
           have hns154_3 := NB519_569.out
           have hns154_4 := NB533_569.out
           have hms154_0 := NB569_488.out
           have hms154_1 := NB569_489.out
           have hms154_2 := NB569_511.out
           have hms154_3 := NB569_519.out
           have hms154_4 := NB569_533.out
           refine skip_ (w1 := ?_) (by rfl) rfl ?_ ?_
           rotate_left
           ·go_simp
            rfl
           refine hK.out _ _ ⟨((cell_far (p := ⟨gb569, _, none⟩) NB488_569.out _).trans (((cell_far (p := ⟨gb569, _, none⟩) NB488_569.out _).trans (((cell_far (p := ⟨gb569, _, none⟩) NB488_569.out _).trans (((cell_far (p := ⟨gb569, _, none⟩) NB488_569.out _).trans (((cell_far (p := ⟨gb569, _, none⟩) NB488_569.out _).trans (hHeld.1)))))))))), ((cell_far (p := ⟨gb569, _, none⟩) NB488_569.out _).trans (((cell_far (p := ⟨gb569, _, none⟩) NB488_569.out _).trans (((cell_far (p := ⟨gb569, _, none⟩) NB488_569.out _).trans (((cell_far (p := ⟨gb569, _, none⟩) NB488_569.out _).trans (((cell_far (p := ⟨gb569, _, none⟩) NB488_569.out _).trans (hHeld.2.1)))))))))), ((cell_far (p := ⟨gb569, _, none⟩) NB488_569.out _).trans (((cell_far (p := ⟨gb569, _, none⟩) NB488_569.out _).trans (((cell_far (p := ⟨gb569, _, none⟩) NB488_569.out _).trans (((cell_far (p := ⟨gb569, _, none⟩) NB488_569.out _).trans (((cell_far (p := ⟨gb569, _, none⟩) NB488_569.out _).trans (hHeld.2.2.1)))))))))), ((cell_far (p := ⟨gb569, _, none⟩) NB488_569.out _).trans (((cell_far (p := ⟨gb569, _, none⟩) NB488_569.out _).trans (((cell_far (p := ⟨gb569, _, none⟩) NB488_569.out _).trans (((cell_far (p := ⟨gb569, _, none⟩) NB488_569.out _).trans (((cell_far (p := ⟨gb569, _, none⟩) NB488_569.out _).trans (hHeld.2.2.2.1)))))))))), ((cell_far (p := ⟨gb569, _, none⟩) NB488_569.out _).trans (((cell_far (p := ⟨gb569, _, none⟩) NB488_569.out _).trans (((cell_far (p := ⟨gb569, _, none⟩) NB488_569.out _).trans (((cell_far (p := ⟨gb569, _, none⟩) NB488_569.out _).trans (((cell_far (p := ⟨gb569, _, none⟩) NB488_569.out _).trans (hHeld.2.2.2.2.1)))))))))), ((cell_far (p := ⟨gb569, _, none⟩) NB489_569.out _).trans (((cell_far (p := ⟨gb569, _, none⟩) NB489_569.out _).trans (((cell_far (p := ⟨gb569, _, none⟩) NB489_569.out _).trans (((cell_far (p := ⟨gb569, _, none⟩) NB489_569.out _).trans (((cell_far (p := ⟨gb569, _, none⟩) NB489_569.out _).trans (hHeld.2.2.2.2.2.1)))))))))), ((cell_far (p := ⟨gb569, _, none⟩) NB489_569.out _).trans (((cell_far (p := ⟨gb569, _, none⟩) NB489_569.out _).trans (((cell_far (p := ⟨gb569, _, none⟩) NB489_569.out _).trans (((cell_far (p := ⟨gb569, _, none⟩) NB489_569.out _).trans (((cell_far (p := ⟨gb569, _, none⟩) NB489_569.out _).trans (hHeld.2.2.2.2.2.2.1)))))))))), ((cell_far (p := ⟨gb569, _, none⟩) NB489_569.out _).trans (((cell_far (p := ⟨gb569, _, none⟩) NB489_569.out _).trans (((cell_far (p := ⟨gb569, _, none⟩) NB489_569.out _).trans (((cell_far (p := ⟨gb569, _, none⟩) NB489_569.out _).trans (((cell_far (p := ⟨gb569, _, none⟩) NB489_569.out _).trans (hHeld.2.2.2.2.2.2.2.1)))))))))), ((cell_far (p := ⟨gb569, _, none⟩) NB489_569.out _).trans (((cell_far (p := ⟨gb569, _, none⟩) NB489_569.out _).trans (((cell_far (p := ⟨gb569, _, none⟩) NB489_569.out _).trans (((cell_far (p := ⟨gb569, _, none⟩) NB489_569.out _).trans (((cell_far (p := ⟨gb569, _, none⟩) NB489_569.out _).trans (hHeld.2.2.2.2.2.2.2.2.1)))))))))), ((cell_far (p := ⟨gb569, _, none⟩) NB489_569.out _).trans (((cell_far (p := ⟨gb569, _, none⟩) NB489_569.out _).trans (((cell_far (p := ⟨gb569, _, none⟩) NB489_569.out _).trans (((cell_far (p := ⟨gb569, _, none⟩) NB489_569.out _).trans (((cell_far (p := ⟨gb569, _, none⟩) NB489_569.out _).trans (hHeld.2.2.2.2.2.2.2.2.2))))))))))⟩ (fun hHeld => ?_)
           clear hK K
           refine pu 10 15 HT_ (h := ?_)
           refine done_ (done_of HT_.out (by kernel_rfl)) ?_
           go_upto_region 25 with (fail)
           go_cut [95] (fun v95 wc => ∃ (kq : Nat) (x95_132 : Bool), v95 = .bool x95_132 ∧ Aside0 (laws_FnExactFopHear.j2 kq t546 x95_132 t525 t526 t527 t547 t531 = some r) ∧ Aside0 (kq ≤ kj82) ∧ Aside0 (Kd.R Kd.string 9 wc w.heap.size (fun k_ => some k_ ≠ ((.slice Ao43 t544.length co43) : Value).ownBlock ∧ some k_ ≠ ((.slice Ao53 t528.length co53) : Value).ownBlock ∧ some k_ ≠ ((.slice Ao152 t564.length co152) : Value).ownBlock) (.slice Ao32 t506.length co32) t506) ∧ Aside0 (Kd.R Kd.string 9 wc w.heap.size (fun k_ => some k_ ≠ ((.slice Ao32 t506.length co32) : Value).ownBlock ∧ some k_ ≠ ((.slice Ao53 t528.length co53) : Value).ownBlock ∧ some k_ ≠ ((.slice Ao152 t564.length co152) : Value).ownBlock) (.slice Ao43 t544.length co43) t544) ∧ Aside0 (Kd.R Kd.string 9 wc w.heap.size (fun k_ => some k_ ≠ ((.slice Ao32 t506.length co32) : Value).ownBlock ∧ some k_ ≠ ((.slice Ao43 t544.length co43) : Value).ownBlock ∧ some k_ ≠ ((.slice Ao152 t564.length co152) : Value).ownBlock) (.slice Ao53 t528.length co53) t547) ∧ Aside0 (Kd.R Kd.string 9 wc w.heap.size (fun k_ => some k_ ≠ ((.slice Ao32 t506.length co32) : Value).ownBlock ∧ some k_ ≠ ((.slice Ao43 t544.length co43) : Value).ownBlock ∧ some k_ ≠ ((.slice Ao53 t528.length co53) : Value).ownBlock) (.slice Ao152 t564.length co152) t564) ∧ Aside0 (wc.heap[gb488]? = some (.cells #[.int .i64 a0_0, .int .i64 a0_1, .int .i64 a0_2, (.slice A0_3 l0_3.length c0_3), .bool a0_4] 45 (0, 0))) ∧ Aside0 (wc.heap[gb489]? = some (.cells #[.bool a1_0, .bool a1_1, .bool a1_2, .int .i64 a1_3, .int .i64 a1_4] 46 (0, 0))) ∧ Aside0 (wc.heap[gb511]? = some (.cells #[.int .i64 t503, .int .i64 t504, .int .i64 t505, (.slice Ao32 t506.length co32), .bool t509] 25 (0, 0))) ∧ Aside0 (wc.heap[gb519]? = some (.cells #[.int .i64 t512, .int .i64 t513, .int .i64 t514, (.slice Ao43 t544.length co43), .bool t518] 25 (0, 0))) ∧ Aside0 (wc.heap[gb533]? = some (.cells #[.int .i64 t525, .int .i64 t526, .int .i64 t527, (.slice Ao53 t528.length co53), .bool t531] 25 (0, 0))) ∧ Aside0 (wc.heap[gb569]? = some (.cells #[.int .i64 t561, .int .i64 t562, .int .i64 t563, (.slice Ao152 t564.length co152), .bool t567] 25 (0, 0))) ∧ Aside0 (Below w.heap.size w wc))
           case first =>
            have H := HC133.out
            clear HC133
            replace H := Option.bind_eq_some_iff.mp H
            obtain ⟨t570, A1550, H⟩ := H
            replace H : (if t570 = true then (laws_FnExactFopHear.j2 kj82 t546 (t568 != t510) t525 t526 t527 t547 t531) else (laws_FnExactFopHear.j2 kj82 t546 true t525 t526 t527 t547 t531)) = some r := H
            have A155 := Aside0.mk A1550
            clear A1550
            by_cases c156 : t570 = true
            ·subst c156
             have H1 : (laws_FnExactFopHear.j2 kj82 t546 (t568 != t510) t525 t526 t527 t547 t531) = some r := by rw [if_pos rfl] at H; exact H
             clear H
             have H := H1
             clear H1
             have H' := Aside0.mk H
             clear H
             have hnb157 := NB569_488.out
             have hnc157 := NB488_569.out
             have hnb158 := NB569_489.out
             have hnc158 := NB489_569.out
             have hnb159 := NB569_511.out
             have hnc159 := NB511_569.out
             have hnb160 := NB569_519.out
             have hnc160 := NB519_569.out
             have hnb161 := NB569_533.out
             have hnc161 := NB533_569.out
             have hcz162_0 : w148.cell? ⟨gb569, 0, none⟩ = some (.int .i64 0) := bc BK569 0
             have hcz162_1 : w148.cell? ⟨gb569, 1, none⟩ = some (.int .i64 0) := bc BK569 1
             have hcz162_2 : w148.cell? ⟨gb569, 2, none⟩ = some (.int .i64 0) := bc BK569 2
             have hcz162_3 : w148.cell? ⟨gb569, 3, none⟩ = some (.slice none 0 0) := bc BK569 3
             have hcz162_4 : w148.cell? ⟨gb569, 4, none⟩ = some (.bool false) := bc BK569 4
             have hfz162_0 := blk_frozen BK569.out 0
             have hfz162_1 := blk_frozen BK569.out 1
             have hfz162_2 := blk_frozen BK569.out 2
             have hfz162_3 := blk_frozen BK569.out 3
             have hfz162_4 := blk_frozen BK569.out 4
             have hnb163 := NB511_488.out
             have hnc163 := NB488_511.out
             have hnb164 := NB511_489.out
             have hnc164 := NB489_511.out
             have hnb165 := NB511_519.out
             have hnc165 := NB519_511.out
             have hnb166 := NB511_533.out
             have hnc166 := NB533_511.out
             have hcz167_0 : w148.cell? ⟨gb511, 0, none⟩ = some (.int .i64 t503) := bc BK511 0
             have hcz167_1 : w148.cell? ⟨gb511, 1, none⟩ = some (.int .i64 t504) := bc BK511 1
             have hcz167_2 : w148.cell? ⟨gb511, 2, none⟩ = some (.int .i64 t505) := bc BK511 2
             have hcz167_3 : w148.cell? ⟨gb511, 3, none⟩ = some (.slice Ao32 t506.length co32) := bc BK511 3
             have hcz167_4 : w148.cell? ⟨gb511, 4, none⟩ = some (.bool t509) := bc BK511 4
             have hfz167_0 := blk_frozen BK511.out 0
             have hfz167_1 := blk_frozen BK511.out 1
             have hfz167_2 := blk_frozen BK511.out 2
             have hfz167_3 := blk_frozen BK511.out 3
             have hfz167_4 := blk_frozen BK511.out 4
             go_wp2_with (first | ((with_reducible refine gate_callee (f := 22) rfl ?_); refine goesL_ (some 89) rfl rfl Try.func22 (by kernel_rfl) rfl #[.agg #[.int .i64 t561, .int .i64 t562, .int .i64 t563, .slice Ao152 t564.length co152, .bool t567], .agg #[.int .i64 t503, .int .i64 t504, .int .i64 t505, .slice Ao32 t506.length co32, .bool t509]] rfl gl_ ?_; (with_reducible refine (laws_eqFop.calls kj82 t561 t562 t563 _ _ t564 t567 t503 t504 t505 _ _ t506 t509 true _ ?side1 ?side2 ?side3 ?side4 A155.out).mono ?_); (case side1 => refine (Kd.R_reads' (e := 9) (base := w.heap.size) (ok := fun k_ => (some k_ ≠ (v553 : Value).ownBlock ∧ (nb Ao32 t506.length co32 k_ ∧ (nb Ao43 t544.length co43 k_ ∧ nb Ao53 t528.length co53 k_)))) (n := t564.length) (c := co152) ?_).2.2; exact (frN (Kd.R_types HO566.out BK569.out (by decide)))); (case side2 => exact (Kd.R_reads' HO566.out).2.1); (case side3 => refine (Kd.R_reads' (e := 9) (base := w.heap.size) (ok := fun k_ => (some k_ ≠ (v553 : Value).ownBlock ∧ (nb Ao152 t564.length co152 k_ ∧ (nb Ao43 t544.length co43 k_ ∧ nb Ao53 t528.length co53 k_)))) (n := t506.length) (c := co32) ?_).2.2; exact (frN (Kd.R_types HO_512003.out BK569.out (by decide)))); (case side4 => exact (Kd.R_reads' HO_512003.out).2.1); rintro e w168 ⟨rfl, hb⟩; refine ⟨_, rfl, ?_⟩; have n0_ := m_ (Kd.R_below (frN (Kd.R_types HO_512003.out BK569.out (by decide))) hb); have n1_ := m_ (Kd.R_below (frN (Kd.R_types HO_520003.out BK569.out (by decide))) hb); have n2_ := m_ (Kd.R_below (frN (Kd.R_types HO_534003.out BK569.out (by decide))) hb); have n3_ := m_ (Kd.R_below (frN (Kd.R_types HO554.out BK569.out (by decide))) hb); have n4_ := m_ (Kd.R_below (frN (Kd.R_types HO566.out BK569.out (by decide))) hb); have n5_ := m_ (blk_below (g := gb488) (o := .cells #[.int .i64 a0_0, .int .i64 a0_1, .int .i64 a0_2, .slice A0_3 l0_3.length c0_3, .bool a0_4] 45 (0, 0)) (kF BK488.out NB488_569.out) hb); have n6_ := m_ (blk_below (g := gb489) (o := .cells #[.bool a1_0, .bool a1_1, .bool a1_2, .int .i64 a1_3, .int .i64 a1_4] 46 (0, 0)) (kF BK489.out NB489_569.out) hb); have n7_ := m_ (blk_below (g := gb511) (o := .cells #[.int .i64 t503, .int .i64 t504, .int .i64 t505, .slice Ao32 t506.length co32, .bool t509] 25 (0, 0)) (kF BK511.out NB511_569.out) hb); have n8_ := m_ (blk_below (g := gb519) (o := .cells #[.int .i64 t512, .int .i64 t513, .int .i64 t514, .slice Ao43 t544.length co43, .bool t518] 25 (0, 0)) (kF BK519.out NB519_569.out) hb); have n9_ := m_ (blk_below (g := gb533) (o := .cells #[.int .i64 t525, .int .i64 t526, .int .i64 t527, .slice Ao53 t528.length co53, .bool t531] 25 (0, 0)) (kF BK533.out NB533_569.out) hb); have n10_ := m_ (blk_below (g := gb569) (o := .cells #[.int .i64 t561, .int .i64 t562, .int .i64 t563, .slice Ao152 t564.length co152, .bool t567] 25 (0, 0)) (kP BK569.out) hb); have n11_ := m_ (below_step (bN HB.out) hb); clear HO_512003; clear HO_520003; clear HO_534003; clear HO554; clear HO566; clear BK488; clear BK489; clear BK511; clear BK519; clear BK533; clear BK569; clear HB; have HO_512003 := n0_; have HO_520003 := n1_; have HO_534003 := n2_; have HO554 := n3_; have HO566 := n4_; have BK488 := n5_; have BK489 := n6_; have BK511 := n7_; have BK519 := n8_; have BK533 := n9_; have BK569 := n10_; have HB := n11_; clear n0_ n1_ n2_ n3_ n4_ n5_ n6_ n7_ n8_ n9_ n10_ n11_; (try clear hb); (try clear hb2); (try clear hk); (try clear hi)))
             go_meet
             case rel => exact ⟨_, ((t568 != t510)), (by first | rfl | (simp; done) | (simp [*]; done)), H', ⟨by have := HJ15.out; have := HJ82.out; first | omega | exact Nat.le_refl _⟩, ⟨by (try simp only [hl520003_82]); (with_reducible repeat (first | apply Kd.R_alloc | apply Kd.R_drewN | apply Kd.R_drew)); exact Kd.R_mono HO_512003.out (fun _ hk => ⟨hk.2.2.1, ⟨hk.2.2.2, hk.2.1⟩⟩)⟩, ⟨by (try simp only [hl520003_82]); (with_reducible repeat (first | apply Kd.R_alloc | apply Kd.R_drewN | apply Kd.R_drew)); exact Kd.R_mono HO_520003.out (fun _ hk => ⟨hk.2.2.1, ⟨hk.2.2.2, hk.2.1⟩⟩)⟩, ⟨by (try simp only [hl520003_82]); (with_reducible repeat (first | apply Kd.R_alloc | apply Kd.R_drewN | apply Kd.R_drew)); exact Kd.R_mono HO_534003.out (fun _ hk => ⟨hk.2.2.1, ⟨hk.2.2.2, hk.2.1⟩⟩)⟩, ⟨by (try simp only [hl520003_82]); (with_reducible repeat (first | apply Kd.R_alloc | apply Kd.R_drewN | apply Kd.R_drew)); exact Kd.R_mono HO566.out (fun _ hk => ⟨hk.2.1, ⟨hk.2.2.1, hk.2.2.2⟩⟩)⟩, ⟨by (try simp only [hl520003_82]); (with_reducible repeat (first | refine blk_drewN ?_ _ | refine blk_drew ?_ | refine blk_alloc ?_ _)); exact BK488.out⟩, ⟨by (try simp only [hl520003_82]); (with_reducible repeat (first | refine blk_drewN ?_ _ | refine blk_drew ?_ | refine blk_alloc ?_ _)); exact BK489.out⟩, ⟨by (try simp only [hl520003_82]); (with_reducible repeat (first | refine blk_drewN ?_ _ | refine blk_drew ?_ | refine blk_alloc ?_ _)); exact BK511.out⟩, ⟨by (try simp only [hl520003_82]); (with_reducible repeat (first | refine blk_drewN ?_ _ | refine blk_drew ?_ | refine blk_alloc ?_ _)); exact BK519.out⟩, ⟨by (try simp only [hl520003_82]); (with_reducible repeat (first | refine blk_drewN ?_ _ | refine blk_drew ?_ | refine blk_alloc ?_ _)); exact BK533.out⟩, ⟨by (try simp only [hl520003_82]); (with_reducible repeat (first | refine blk_drewN ?_ _ | refine blk_drew ?_ | refine blk_alloc ?_ _)); exact BK569.out⟩, ⟨by repeat (first | (with_reducible first | exact HB.out | apply below_alloc | apply pw_below_drewN | apply below_drew1 | refine below_set ?_ GE488.out | refine below_set ?_ GE489.out | refine below_set ?_ GE511.out | refine below_set ?_ GE519.out | refine below_set ?_ GE533.out | refine below_set ?_ GE569.out) | exact HB.out)⟩⟩
            ·replace c156 := Bool.eq_false_iff.mpr c156
             subst c156
             have H1 : (laws_FnExactFopHear.j2 kj82 t546 true t525 t526 t527 t547 t531) = some r := by rw [if_neg (show ¬ (false = true) by decide)] at H; exact H
             clear H
             have H := H1
             clear H1
             have H' := Aside0.mk H
             clear H
             have hnb169 := NB569_488.out
             have hnc169 := NB488_569.out
             have hnb170 := NB569_489.out
             have hnc170 := NB489_569.out
             have hnb171 := NB569_511.out
             have hnc171 := NB511_569.out
             have hnb172 := NB569_519.out
             have hnc172 := NB519_569.out
             have hnb173 := NB569_533.out
             have hnc173 := NB533_569.out
             have hcz174_0 : w148.cell? ⟨gb569, 0, none⟩ = some (.int .i64 0) := bc BK569 0
             have hcz174_1 : w148.cell? ⟨gb569, 1, none⟩ = some (.int .i64 0) := bc BK569 1
             have hcz174_2 : w148.cell? ⟨gb569, 2, none⟩ = some (.int .i64 0) := bc BK569 2
             have hcz174_3 : w148.cell? ⟨gb569, 3, none⟩ = some (.slice none 0 0) := bc BK569 3
             have hcz174_4 : w148.cell? ⟨gb569, 4, none⟩ = some (.bool false) := bc BK569 4
             have hfz174_0 := blk_frozen BK569.out 0
             have hfz174_1 := blk_frozen BK569.out 1
             have hfz174_2 := blk_frozen BK569.out 2
             have hfz174_3 := blk_frozen BK569.out 3
             have hfz174_4 := blk_frozen BK569.out 4
             have hnb175 := NB511_488.out
             have hnc175 := NB488_511.out
             have hnb176 := NB511_489.out
             have hnc176 := NB489_511.out
             have hnb177 := NB511_519.out
             have hnc177 := NB519_511.out
             have hnb178 := NB511_533.out
             have hnc178 := NB533_511.out
             have hcz179_0 : w148.cell? ⟨gb511, 0, none⟩ = some (.int .i64 t503) := bc BK511 0
             have hcz179_1 : w148.cell? ⟨gb511, 1, none⟩ = some (.int .i64 t504) := bc BK511 1
             have hcz179_2 : w148.cell? ⟨gb511, 2, none⟩ = some (.int .i64 t505) := bc BK511 2
             have hcz179_3 : w148.cell? ⟨gb511, 3, none⟩ = some (.slice Ao32 t506.length co32) := bc BK511 3
             have hcz179_4 : w148.cell? ⟨gb511, 4, none⟩ = some (.bool t509) := bc BK511 4
             have hfz179_0 := blk_frozen BK511.out 0
             have hfz179_1 := blk_frozen BK511.out 1
             have hfz179_2 := blk_frozen BK511.out 2
             have hfz179_3 := blk_frozen BK511.out 3
             have hfz179_4 := blk_frozen BK511.out 4
             go_wp2_with (first | ((with_reducible refine gate_callee (f := 22) rfl ?_); refine goesL_ (some 89) rfl rfl Try.func22 (by kernel_rfl) rfl #[.agg #[.int .i64 t561, .int .i64 t562, .int .i64 t563, .slice Ao152 t564.length co152, .bool t567], .agg #[.int .i64 t503, .int .i64 t504, .int .i64 t505, .slice Ao32 t506.length co32, .bool t509]] rfl gl_ ?_; (with_reducible refine (laws_eqFop.calls kj82 t561 t562 t563 _ _ t564 t567 t503 t504 t505 _ _ t506 t509 false _ ?side1 ?side2 ?side3 ?side4 A155.out).mono ?_); (case side1 => refine (Kd.R_reads' (e := 9) (base := w.heap.size) (ok := fun k_ => (some k_ ≠ (v553 : Value).ownBlock ∧ (nb Ao32 t506.length co32 k_ ∧ (nb Ao43 t544.length co43 k_ ∧ nb Ao53 t528.length co53 k_)))) (n := t564.length) (c := co152) ?_).2.2; exact (frN (Kd.R_types HO566.out BK569.out (by decide)))); (case side2 => exact (Kd.R_reads' HO566.out).2.1); (case side3 => refine (Kd.R_reads' (e := 9) (base := w.heap.size) (ok := fun k_ => (some k_ ≠ (v553 : Value).ownBlock ∧ (nb Ao152 t564.length co152 k_ ∧ (nb Ao43 t544.length co43 k_ ∧ nb Ao53 t528.length co53 k_)))) (n := t506.length) (c := co32) ?_).2.2; exact (frN (Kd.R_types HO_512003.out BK569.out (by decide)))); (case side4 => exact (Kd.R_reads' HO_512003.out).2.1); rintro e w180 ⟨rfl, hb⟩; refine ⟨_, rfl, ?_⟩; have n0_ := m_ (Kd.R_below (frN (Kd.R_types HO_512003.out BK569.out (by decide))) hb); have n1_ := m_ (Kd.R_below (frN (Kd.R_types HO_520003.out BK569.out (by decide))) hb); have n2_ := m_ (Kd.R_below (frN (Kd.R_types HO_534003.out BK569.out (by decide))) hb); have n3_ := m_ (Kd.R_below (frN (Kd.R_types HO554.out BK569.out (by decide))) hb); have n4_ := m_ (Kd.R_below (frN (Kd.R_types HO566.out BK569.out (by decide))) hb); have n5_ := m_ (blk_below (g := gb488) (o := .cells #[.int .i64 a0_0, .int .i64 a0_1, .int .i64 a0_2, .slice A0_3 l0_3.length c0_3, .bool a0_4] 45 (0, 0)) (kF BK488.out NB488_569.out) hb); have n6_ := m_ (blk_below (g := gb489) (o := .cells #[.bool a1_0, .bool a1_1, .bool a1_2, .int .i64 a1_3, .int .i64 a1_4] 46 (0, 0)) (kF BK489.out NB489_569.out) hb); have n7_ := m_ (blk_below (g := gb511) (o := .cells #[.int .i64 t503, .int .i64 t504, .int .i64 t505, .slice Ao32 t506.length co32, .bool t509] 25 (0, 0)) (kF BK511.out NB511_569.out) hb); have n8_ := m_ (blk_below (g := gb519) (o := .cells #[.int .i64 t512, .int .i64 t513, .int .i64 t514, .slice Ao43 t544.length co43, .bool t518] 25 (0, 0)) (kF BK519.out NB519_569.out) hb); have n9_ := m_ (blk_below (g := gb533) (o := .cells #[.int .i64 t525, .int .i64 t526, .int .i64 t527, .slice Ao53 t528.length co53, .bool t531] 25 (0, 0)) (kF BK533.out NB533_569.out) hb); have n10_ := m_ (blk_below (g := gb569) (o := .cells #[.int .i64 t561, .int .i64 t562, .int .i64 t563, .slice Ao152 t564.length co152, .bool t567] 25 (0, 0)) (kP BK569.out) hb); have n11_ := m_ (below_step (bN HB.out) hb); clear HO_512003; clear HO_520003; clear HO_534003; clear HO554; clear HO566; clear BK488; clear BK489; clear BK511; clear BK519; clear BK533; clear BK569; clear HB; have HO_512003 := n0_; have HO_520003 := n1_; have HO_534003 := n2_; have HO554 := n3_; have HO566 := n4_; have BK488 := n5_; have BK489 := n6_; have BK511 := n7_; have BK519 := n8_; have BK533 := n9_; have BK569 := n10_; have HB := n11_; clear n0_ n1_ n2_ n3_ n4_ n5_ n6_ n7_ n8_ n9_ n10_ n11_; (try clear hb); (try clear hb2); (try clear hk); (try clear hi)))
             go_meet
             case rel => exact ⟨_, (true), (by first | rfl | (simp; done) | (simp [*]; done)), H', ⟨by have := HJ15.out; have := HJ82.out; first | omega | exact Nat.le_refl _⟩, ⟨by (try simp only [hl520003_82]); (with_reducible repeat (first | apply Kd.R_alloc | apply Kd.R_drewN | apply Kd.R_drew)); exact Kd.R_mono HO_512003.out (fun _ hk => ⟨hk.2.2.1, ⟨hk.2.2.2, hk.2.1⟩⟩)⟩, ⟨by (try simp only [hl520003_82]); (with_reducible repeat (first | apply Kd.R_alloc | apply Kd.R_drewN | apply Kd.R_drew)); exact Kd.R_mono HO_520003.out (fun _ hk => ⟨hk.2.2.1, ⟨hk.2.2.2, hk.2.1⟩⟩)⟩, ⟨by (try simp only [hl520003_82]); (with_reducible repeat (first | apply Kd.R_alloc | apply Kd.R_drewN | apply Kd.R_drew)); exact Kd.R_mono HO_534003.out (fun _ hk => ⟨hk.2.2.1, ⟨hk.2.2.2, hk.2.1⟩⟩)⟩, ⟨by (try simp only [hl520003_82]); (with_reducible repeat (first | apply Kd.R_alloc | apply Kd.R_drewN | apply Kd.R_drew)); exact Kd.R_mono HO566.out (fun _ hk => ⟨hk.2.1, ⟨hk.2.2.1, hk.2.2.2⟩⟩)⟩, ⟨by (try simp only [hl520003_82]); (with_reducible repeat (first | refine blk_drewN ?_ _ | refine blk_drew ?_ | refine blk_alloc ?_ _)); exact BK488.out⟩, ⟨by (try simp only [hl520003_82]); (with_reducible repeat (first | refine blk_drewN ?_ _ | refine blk_drew ?_ | refine blk_alloc ?_ _)); exact BK489.out⟩, ⟨by (try simp only [hl520003_82]); (with_reducible repeat (first | refine blk_drewN ?_ _ | refine blk_drew ?_ | refine blk_alloc ?_ _)); exact BK511.out⟩, ⟨by (try simp only [hl520003_82]); (with_reducible repeat (first | refine blk_drewN ?_ _ | refine blk_drew ?_ | refine blk_alloc ?_ _)); exact BK519.out⟩, ⟨by (try simp only [hl520003_82]); (with_reducible repeat (first | refine blk_drewN ?_ _ | refine blk_drew ?_ | refine blk_alloc ?_ _)); exact BK533.out⟩, ⟨by (try simp only [hl520003_82]); (with_reducible repeat (first | refine blk_drewN ?_ _ | refine blk_drew ?_ | refine blk_alloc ?_ _)); exact BK569.out⟩, ⟨by repeat (first | (with_reducible first | exact HB.out | apply below_alloc | apply pw_below_drewN | apply below_drew1 | refine below_set ?_ GE488.out | refine below_set ?_ GE489.out | refine below_set ?_ GE511.out | refine below_set ?_ GE519.out | refine below_set ?_ GE533.out | refine below_set ?_ GE569.out) | exact HB.out)⟩⟩
           case rest =>
            clear HC133
            try clear c1
            try clear c2
            try clear p2
            try clear c15
            try clear c16
            try clear c17
            try clear c20
            try clear c21
            try clear c22
            try clear c156
            try clear c157
            try clear c158
            try clear c159
            try clear c160
            try clear c161
            try clear c163
            try clear c164
            try clear c165
            try clear c166
            try clear c169
            try clear c170
            try clear c171
            try clear c172
            try clear c173
            try clear c175
            try clear c176
            try clear c177
            try clear c178
            try clear hcz162_0
            try clear hcz162_1
            try clear hcz162_2
            try clear hcz162_3
            try clear hcz162_4
            try clear hcz167_0
            try clear hcz167_1
            try clear hcz167_2
            try clear hcz167_3
            try clear hcz167_4
            try clear hcz174_0
            try clear hcz174_1
            try clear hcz174_2
            try clear hcz174_3
            try clear hcz174_4
            try clear hcz179_0
            try clear hcz179_1
            try clear hcz179_2
            try clear hcz179_3
            try clear hcz179_4
            try clear hfz162_0
            try clear hfz162_1
            try clear hfz162_2
            try clear hfz162_3
            try clear hfz162_4
            try clear hfz167_0
            try clear hfz167_1
            try clear hfz167_2
            try clear hfz167_3
            try clear hfz167_4
            try clear hfz174_0
            try clear hfz174_1
            try clear hfz174_2
            try clear hfz174_3
            try clear hfz174_4
            try clear hfz179_0
            try clear hfz179_1
            try clear hfz179_2
            try clear hfz179_3
            try clear hfz179_4
            obtain ⟨kq, x95_132, rfl, HA, HJ132, HO_512003, HO_520003, HO_534003, HO_570003, BK488, BK489, BK511, BK519, BK533, BK569, HB⟩ := hcut
            have hl534003_132 := (Kd.R_reads' HO_534003.out).1
            rw [hl534003_132] at HO_534003
            (try simp only [hl534003_132])
            (try simp only [hl534003_132] at BK488)
            (try simp only [hl534003_132] at BK489)
            (try simp only [hl534003_132] at BK511)
            (try simp only [hl534003_132] at BK519)
            (try simp only [hl534003_132] at BK533)
            (try simp only [hl534003_132] at BK569)
            (try simp only [hl534003_132] at HO_512003)
            (try simp only [hl534003_132] at HO_520003)
            (try simp only [hl534003_132] at HO_570003)
            cases kq with
            | zero => exact absurd HA.out (by simp [laws_FnExactFopHear.j2])
            | succ kj132 =>
             have H := HA.out
             clear HA
             simp only [laws_FnExactFopHear.j2] at H
             by_cases c181 : x95_132 = true
             ·subst c181
              have H1 : (some false) = some r := by rw [if_pos rfl] at H; exact H
              clear H
              have H := H1
              clear H1
              obtain rfl := Option.some.inj H
              go_wp2
              go_ret
              exact ⟨by first | rfl | (simp [errW_none, errW_some] <;> rfl) | (simp [*, errW_none, errW_some] <;> rfl), by repeat (first | (with_reducible first | exact HB.out | apply below_alloc | apply pw_below_drewN | apply below_drew1 | refine below_set ?_ GE488.out | refine below_set ?_ GE489.out | refine below_set ?_ GE511.out | refine below_set ?_ GE519.out | refine below_set ?_ GE533.out | refine below_set ?_ GE569.out) | exact HB.out)⟩
             ·replace c181 := Bool.eq_false_iff.mpr c181
              subst c181
              have H1 : ((laws_heldFop.f kj132 t525 t526 t527 t547 t531 1).bind fun t571 => (if t571 < 0 then (some false) else (if t571 = t546 then (some true) else (some false)))) = some r := by rw [if_neg (show ¬ (false = true) by decide)] at H; exact H
              clear H
              have H := H1
              clear H1
              replace H := Option.bind_eq_some_iff.mp H
              obtain ⟨t571, A1820, H⟩ := H
              replace H : (if t571 < 0 then (some false) else (if t571 = t546 then (some true) else (some false))) = some r := H
              have A182 := Aside0.mk A1820
              clear A1820
              by_cases c183 : t571 < 0
              ·rw [if_pos c183] at H
               have c183b0 : decide (t571 < 0) = true := decide_eq_true c183
               clear c183
               obtain rfl := Option.some.inj H
               have hnb184 := NB533_488.out
               have hnc184 := NB488_533.out
               have hnb185 := NB533_489.out
               have hnc185 := NB489_533.out
               have hnb186 := NB533_511.out
               have hnc186 := NB511_533.out
               have hnb187 := NB533_519.out
               have hnc187 := NB519_533.out
               have hnb188 := NB533_569.out
               have hnc188 := NB569_533.out
               have hcz189_0 : wc.cell? ⟨gb533, 0, none⟩ = some (.int .i64 t525) := bc BK533 0
               have hcz189_1 : wc.cell? ⟨gb533, 1, none⟩ = some (.int .i64 t526) := bc BK533 1
               have hcz189_2 : wc.cell? ⟨gb533, 2, none⟩ = some (.int .i64 t527) := bc BK533 2
               have hcz189_3 : wc.cell? ⟨gb533, 3, none⟩ = some (.slice Ao53 t547.length co53) := bc BK533 3
               have hcz189_4 : wc.cell? ⟨gb533, 4, none⟩ = some (.bool t531) := bc BK533 4
               have hfz189_0 := blk_frozen BK533.out 0
               have hfz189_1 := blk_frozen BK533.out 1
               have hfz189_2 := blk_frozen BK533.out 2
               have hfz189_3 := blk_frozen BK533.out 3
               have hfz189_4 := blk_frozen BK533.out 4
               go_wp2_with (first | ((with_reducible refine gate_callee (f := 24) rfl ?_); refine goesL_ (some 98) rfl rfl Try.func24 (by kernel_rfl) rfl #[.agg #[.int .i64 t525, .int .i64 t526, .int .i64 t527, .slice Ao53 t547.length co53, .bool t531], .int .i64 1] rfl gl_ ?_; (with_reducible refine (laws_heldFop.calls kj132 t525 t526 t527 _ _ t547 t531 1 t571 _ ?side1 ?side2 A182.out).mono ?_); (case side1 => exact cN (Kd.R_reads' HO_534003.out).2.2); (case side2 => exact (Kd.R_reads' HO_534003.out).2.1); rintro e w190 ⟨rfl, hb⟩; refine ⟨_, rfl, ?_⟩; have n0_ := m_ (Kd.R_below (rN HO_512003.out) hb); have n1_ := m_ (Kd.R_below (rN HO_520003.out) hb); have n2_ := m_ (Kd.R_below (rN HO_534003.out) hb); have n3_ := m_ (Kd.R_below (rN HO_570003.out) hb); have n4_ := m_ (blk_below (kN BK488.out) hb); have n5_ := m_ (blk_below (kN BK489.out) hb); have n6_ := m_ (blk_below (kN BK511.out) hb); have n7_ := m_ (blk_below (kN BK519.out) hb); have n8_ := m_ (blk_below (kN BK533.out) hb); have n9_ := m_ (blk_below (kN BK569.out) hb); have n10_ := m_ (below_step (bN HB.out) hb); clear HO_512003; clear HO_520003; clear HO_534003; clear HO_570003; clear BK488; clear BK489; clear BK511; clear BK519; clear BK533; clear BK569; clear HB; have HO_512003 := n0_; have HO_520003 := n1_; have HO_534003 := n2_; have HO_570003 := n3_; have BK488 := n4_; have BK489 := n5_; have BK511 := n6_; have BK519 := n7_; have BK533 := n8_; have BK569 := n9_; have HB := n10_; clear n0_ n1_ n2_ n3_ n4_ n5_ n6_ n7_ n8_ n9_ n10_; (try clear hb); (try clear hb2); (try clear hk); (try clear hi)))
               go_ret
               exact ⟨by first | rfl | (simp [errW_none, errW_some] <;> rfl) | (simp [*, errW_none, errW_some] <;> rfl), by repeat (first | (with_reducible first | exact HB.out | apply below_alloc | apply pw_below_drewN | apply below_drew1 | refine below_set ?_ GE488.out | refine below_set ?_ GE489.out | refine below_set ?_ GE511.out | refine below_set ?_ GE519.out | refine below_set ?_ GE533.out | refine below_set ?_ GE569.out) | exact HB.out)⟩
              ·rw [if_neg c183] at H
               have c183b0 : decide (t571 < 0) = false := decide_eq_false c183
               clear c183
               by_cases c191 : t571 = t546
               ·rw [if_pos c191] at H
                have c191b0 : (t571 == t546) = true := beq_iff_eq.mpr c191
                have c191b1 : (t571 != t546) = false := bne_eq_false_iff_eq.mpr c191
                clear c191
                obtain rfl := Option.some.inj H
                have hnb192 := NB533_488.out
                have hnc192 := NB488_533.out
                have hnb193 := NB533_489.out
                have hnc193 := NB489_533.out
                have hnb194 := NB533_511.out
                have hnc194 := NB511_533.out
                have hnb195 := NB533_519.out
                have hnc195 := NB519_533.out
                have hnb196 := NB533_569.out
                have hnc196 := NB569_533.out
                have hcz197_0 : wc.cell? ⟨gb533, 0, none⟩ = some (.int .i64 t525) := bc BK533 0
                have hcz197_1 : wc.cell? ⟨gb533, 1, none⟩ = some (.int .i64 t526) := bc BK533 1
                have hcz197_2 : wc.cell? ⟨gb533, 2, none⟩ = some (.int .i64 t527) := bc BK533 2
                have hcz197_3 : wc.cell? ⟨gb533, 3, none⟩ = some (.slice Ao53 t547.length co53) := bc BK533 3
                have hcz197_4 : wc.cell? ⟨gb533, 4, none⟩ = some (.bool t531) := bc BK533 4
                have hfz197_0 := blk_frozen BK533.out 0
                have hfz197_1 := blk_frozen BK533.out 1
                have hfz197_2 := blk_frozen BK533.out 2
                have hfz197_3 := blk_frozen BK533.out 3
                have hfz197_4 := blk_frozen BK533.out 4
                go_wp2_with (first | ((with_reducible refine gate_callee (f := 24) rfl ?_); refine goesL_ (some 98) rfl rfl Try.func24 (by kernel_rfl) rfl #[.agg #[.int .i64 t525, .int .i64 t526, .int .i64 t527, .slice Ao53 t547.length co53, .bool t531], .int .i64 1] rfl gl_ ?_; (with_reducible refine (laws_heldFop.calls kj132 t525 t526 t527 _ _ t547 t531 1 t571 _ ?side1 ?side2 A182.out).mono ?_); (case side1 => exact cN (Kd.R_reads' HO_534003.out).2.2); (case side2 => exact (Kd.R_reads' HO_534003.out).2.1); rintro e w198 ⟨rfl, hb⟩; refine ⟨_, rfl, ?_⟩; have n0_ := m_ (Kd.R_below (rN HO_512003.out) hb); have n1_ := m_ (Kd.R_below (rN HO_520003.out) hb); have n2_ := m_ (Kd.R_below (rN HO_534003.out) hb); have n3_ := m_ (Kd.R_below (rN HO_570003.out) hb); have n4_ := m_ (blk_below (kN BK488.out) hb); have n5_ := m_ (blk_below (kN BK489.out) hb); have n6_ := m_ (blk_below (kN BK511.out) hb); have n7_ := m_ (blk_below (kN BK519.out) hb); have n8_ := m_ (blk_below (kN BK533.out) hb); have n9_ := m_ (blk_below (kN BK569.out) hb); have n10_ := m_ (below_step (bN HB.out) hb); clear HO_512003; clear HO_520003; clear HO_534003; clear HO_570003; clear BK488; clear BK489; clear BK511; clear BK519; clear BK533; clear BK569; clear HB; have HO_512003 := n0_; have HO_520003 := n1_; have HO_534003 := n2_; have HO_570003 := n3_; have BK488 := n4_; have BK489 := n5_; have BK511 := n6_; have BK519 := n7_; have BK533 := n8_; have BK569 := n9_; have HB := n10_; clear n0_ n1_ n2_ n3_ n4_ n5_ n6_ n7_ n8_ n9_ n10_; (try clear hb); (try clear hb2); (try clear hk); (try clear hi)))
                go_ret
                exact ⟨by first | rfl | (simp [errW_none, errW_some] <;> rfl) | (simp [*, errW_none, errW_some] <;> rfl), by repeat (first | (with_reducible first | exact HB.out | apply below_alloc | apply pw_below_drewN | apply below_drew1 | refine below_set ?_ GE488.out | refine below_set ?_ GE489.out | refine below_set ?_ GE511.out | refine below_set ?_ GE519.out | refine below_set ?_ GE533.out | refine below_set ?_ GE569.out) | exact HB.out)⟩
               ·rw [if_neg c191] at H
                have c191b0 : (t571 == t546) = false := beq_eq_false_iff_ne.mpr c191
                have c191b1 : (t571 != t546) = true := bne_iff_ne.mpr c191
                obtain rfl := Option.some.inj H
                have hnb199 := NB533_488.out
                have hnc199 := NB488_533.out
                have hnb200 := NB533_489.out
                have hnc200 := NB489_533.out
                have hnb201 := NB533_511.out
                have hnc201 := NB511_533.out
                have hnb202 := NB533_519.out
                have hnc202 := NB519_533.out
                have hnb203 := NB533_569.out
                have hnc203 := NB569_533.out
                have hcz204_0 : wc.cell? ⟨gb533, 0, none⟩ = some (.int .i64 t525) := bc BK533 0
                have hcz204_1 : wc.cell? ⟨gb533, 1, none⟩ = some (.int .i64 t526) := bc BK533 1
                have hcz204_2 : wc.cell? ⟨gb533, 2, none⟩ = some (.int .i64 t527) := bc BK533 2
                have hcz204_3 : wc.cell? ⟨gb533, 3, none⟩ = some (.slice Ao53 t547.length co53) := bc BK533 3
                have hcz204_4 : wc.cell? ⟨gb533, 4, none⟩ = some (.bool t531) := bc BK533 4
                have hfz204_0 := blk_frozen BK533.out 0
                have hfz204_1 := blk_frozen BK533.out 1
                have hfz204_2 := blk_frozen BK533.out 2
                have hfz204_3 := blk_frozen BK533.out 3
                have hfz204_4 := blk_frozen BK533.out 4
                go_wp2_with (first | ((with_reducible refine gate_callee (f := 24) rfl ?_); refine goesL_ (some 98) rfl rfl Try.func24 (by kernel_rfl) rfl #[.agg #[.int .i64 t525, .int .i64 t526, .int .i64 t527, .slice Ao53 t547.length co53, .bool t531], .int .i64 1] rfl gl_ ?_; (with_reducible refine (laws_heldFop.calls kj132 t525 t526 t527 _ _ t547 t531 1 t571 _ ?side1 ?side2 A182.out).mono ?_); (case side1 => exact cN (Kd.R_reads' HO_534003.out).2.2); (case side2 => exact (Kd.R_reads' HO_534003.out).2.1); rintro e w205 ⟨rfl, hb⟩; refine ⟨_, rfl, ?_⟩; have n0_ := m_ (Kd.R_below (rN HO_512003.out) hb); have n1_ := m_ (Kd.R_below (rN HO_520003.out) hb); have n2_ := m_ (Kd.R_below (rN HO_534003.out) hb); have n3_ := m_ (Kd.R_below (rN HO_570003.out) hb); have n4_ := m_ (blk_below (kN BK488.out) hb); have n5_ := m_ (blk_below (kN BK489.out) hb); have n6_ := m_ (blk_below (kN BK511.out) hb); have n7_ := m_ (blk_below (kN BK519.out) hb); have n8_ := m_ (blk_below (kN BK533.out) hb); have n9_ := m_ (blk_below (kN BK569.out) hb); have n10_ := m_ (below_step (bN HB.out) hb); clear HO_512003; clear HO_520003; clear HO_534003; clear HO_570003; clear BK488; clear BK489; clear BK511; clear BK519; clear BK533; clear BK569; clear HB; have HO_512003 := n0_; have HO_520003 := n1_; have HO_534003 := n2_; have HO_570003 := n3_; have BK488 := n4_; have BK489 := n5_; have BK511 := n6_; have BK519 := n7_; have BK533 := n8_; have BK569 := n9_; have HB := n10_; clear n0_ n1_ n2_ n3_ n4_ n5_ n6_ n7_ n8_ n9_ n10_; (try clear hb); (try clear hb2); (try clear hk); (try clear hi)))
                go_ret
                exact ⟨by first | rfl | (simp [errW_none, errW_some] <;> rfl) | (simp [*, errW_none, errW_some] <;> rfl), by repeat (first | (with_reducible first | exact HB.out | apply below_alloc | apply pw_below_drewN | apply below_drew1 | refine below_set ?_ GE488.out | refine below_set ?_ GE489.out | refine below_set ?_ GE511.out | refine below_set ?_ GE519.out | refine below_set ?_ GE533.out | refine below_set ?_ GE569.out) | exact HB.out)⟩
          ·rw [if_neg c129] at H
           have c129b0 : (t548 == t546) = false := beq_eq_false_iff_ne.mpr c129
           have c129b1 : (t548 != t546) = true := bne_iff_ne.mpr c129
           obtain rfl := Option.some.inj H
           have hnb206 := NB533_488.out
           have hnc206 := NB488_533.out
           have hnb207 := NB533_489.out
           have hnc207 := NB489_533.out
           have hnb208 := NB533_511.out
           have hnc208 := NB511_533.out
           have hnb209 := NB533_519.out
           have hnc209 := NB519_533.out
           have hcz210_0 : wc.cell? ⟨gb533, 0, none⟩ = some (.int .i64 t525) := bc BK533 0
           have hcz210_1 : wc.cell? ⟨gb533, 1, none⟩ = some (.int .i64 t526) := bc BK533 1
           have hcz210_2 : wc.cell? ⟨gb533, 2, none⟩ = some (.int .i64 t527) := bc BK533 2
           have hcz210_3 : wc.cell? ⟨gb533, 3, none⟩ = some (.slice Ao53 t528.length co53) := bc BK533 3
           have hcz210_4 : wc.cell? ⟨gb533, 4, none⟩ = some (.bool t531) := bc BK533 4
           have hfz210_0 := blk_frozen BK533.out 0
           have hfz210_1 := blk_frozen BK533.out 1
           have hfz210_2 := blk_frozen BK533.out 2
           have hfz210_3 := blk_frozen BK533.out 3
           have hfz210_4 := blk_frozen BK533.out 4
           go_wp2_with (first | ((with_reducible refine gate_callee (f := 23) rfl ?_); refine goesL_ (some 70) rfl rfl Try.func23 (by kernel_rfl) rfl #[.agg #[.int .i64 t525, .int .i64 t526, .int .i64 t527, .slice Ao53 t528.length co53, .bool t531], .int .i64 1] rfl gl_ ?_; (with_reducible refine (laws_markFop.calls kj82 t525 t526 t527 (fun k_ => some k_ = (.slice Ao53 t528.length co53 : Value).ownBlock) (.slice Ao53 t528.length co53) t528 t531 1 t546 t547 w _ ?side1 ?side2 A118.out).mono ?_); (case side1 => repeat (first | (with_reducible first | exact HB.out | apply below_alloc | apply pw_below_drewN | apply below_drew1 | refine below_set ?_ GE488.out | refine below_set ?_ GE489.out | refine below_set ?_ GE511.out | refine below_set ?_ GE519.out | refine below_set ?_ GE533.out) | exact HB.out)); (case side2 => exact Kd.R_tight rfl HO_534003.out); rintro e w211 ⟨rfl, hy0, hb, hkp⟩; refine ⟨_, rfl, ?_⟩; have n0_ := m_ (Kd.R_mono (ok' := fun k_ => nb Ao43 t544.length co43 k_ ∧ nb Ao53 t528.length co53 k_) (Kd.R_keptB (HO_512003.out) hkp (fun k_ hk_ hs_ => (hk_.2) hs_)) (fun k_ hk_ => ⟨hk_.1.1, hk_.1.2⟩)); have n1_ := m_ (Kd.R_mono (ok' := fun k_ => nb Ao32 t506.length co32 k_ ∧ nb Ao53 t528.length co53 k_) (Kd.R_keptB (HO_520003.out) hkp (fun k_ hk_ hs_ => (hk_.2) hs_)) (fun k_ hk_ => ⟨hk_.1.1, hk_.1.2⟩)); have n2_ := m_ (Kd.R_reok rfl hy0 (fun k_ e_ => HO_534003.out.1 k_ e_)); have n3_ := m_ (blk_kept (kN BK488.out) hkp (fun hs_ => (fun e_ => (Kd.R_ne HO_534003.out BK488.out (by decide)) e_) hs_)); have n4_ := m_ (blk_kept (kN BK489.out) hkp (fun hs_ => (fun e_ => (Kd.R_ne HO_534003.out BK489.out (by decide)) e_) hs_)); have n5_ := m_ (blk_kept (kN BK511.out) hkp (fun hs_ => (fun e_ => (Kd.R_ne HO_534003.out BK511.out (by decide)) e_) hs_)); have n6_ := m_ (blk_kept (kN BK519.out) hkp (fun hs_ => (fun e_ => (Kd.R_ne HO_534003.out BK519.out (by decide)) e_) hs_)); have n7_ := m_ (blk_kept (kN BK533.out) hkp (fun hs_ => (fun e_ => (Kd.R_ne HO_534003.out BK533.out (by decide)) e_) hs_)); have n8_ := m_ (hb); clear HO_512003; clear HO_520003; clear HO_534003; clear BK488; clear BK489; clear BK511; clear BK519; clear BK533; clear HB; have HO_512003 := n0_; have HO_520003 := n1_; have HO_534003 := n2_; have BK488 := n3_; have BK489 := n4_; have BK511 := n5_; have BK519 := n6_; have BK533 := n7_; have HB := n8_; clear n0_ n1_ n2_ n3_ n4_ n5_ n6_ n7_ n8_; (try clear hb); (try clear hkp); (try clear hy0); have hcz212_0 : w211.cell? ⟨gb533, 0, none⟩ = some (.int .i64 t525) := bc BK533 0; have hcz212_1 : w211.cell? ⟨gb533, 1, none⟩ = some (.int .i64 t526) := bc BK533 1; have hcz212_2 : w211.cell? ⟨gb533, 2, none⟩ = some (.int .i64 t527) := bc BK533 2; have hcz212_3 : w211.cell? ⟨gb533, 3, none⟩ = some (.slice Ao53 t528.length co53) := bc BK533 3; have hcz212_4 : w211.cell? ⟨gb533, 4, none⟩ = some (.bool t531) := bc BK533 4; have hfz212_0 := blk_frozen BK533.out 0; have hfz212_1 := blk_frozen BK533.out 1; have hfz212_2 := blk_frozen BK533.out 2; have hfz212_3 := blk_frozen BK533.out 3; have hfz212_4 := blk_frozen BK533.out 4) | ((with_reducible refine gate_callee (f := 24) rfl ?_); refine goesL_ (some 73) rfl rfl Try.func24 (by kernel_rfl) rfl #[.agg #[.int .i64 t525, .int .i64 t526, .int .i64 t527, .slice Ao53 t547.length co53, .bool t531], .int .i64 1] rfl (by (try simp only [List.map_toArray, List.map_cons, List.map_nil]); first | done | (rw [show t547.length = t528.length from (Kd.R_reads' HO_534003.out).1.symm] <;> rfl) | rfl | (simp only [List.length_drop, List.length_take]; rfl)) ?_; (with_reducible refine (laws_heldFop.calls kj82 t525 t526 t527 _ _ t547 t531 1 t548 _ ?side1 ?side2 A119.out).mono ?_); (case side1 => exact cN (Kd.R_reads' HO_534003.out).2.2); (case side2 => rw [show t547.length = t528.length from (Kd.R_reads' HO_534003.out).1.symm]; exact (Kd.R_reads' HO_534003.out).2.1); rintro e w213 ⟨rfl, hb⟩; refine ⟨_, rfl, ?_⟩; have n0_ := m_ (Kd.R_below (rN HO_512003.out) hb); have n1_ := m_ (Kd.R_below (rN HO_520003.out) hb); have n2_ := m_ (Kd.R_below (rN HO_534003.out) hb); have n3_ := m_ (blk_below (kN BK488.out) hb); have n4_ := m_ (blk_below (kN BK489.out) hb); have n5_ := m_ (blk_below (kN BK511.out) hb); have n6_ := m_ (blk_below (kN BK519.out) hb); have n7_ := m_ (blk_below (kN BK533.out) hb); have n8_ := m_ (below_step (bN HB.out) hb); clear HO_512003; clear HO_520003; clear HO_534003; clear BK488; clear BK489; clear BK511; clear BK519; clear BK533; clear HB; have HO_512003 := n0_; have HO_520003 := n1_; have HO_534003 := n2_; have BK488 := n3_; have BK489 := n4_; have BK511 := n5_; have BK519 := n6_; have BK533 := n7_; have HB := n8_; clear n0_ n1_ n2_ n3_ n4_ n5_ n6_ n7_ n8_; (try clear hb); (try clear hb2); (try clear hk); (try clear hi)))
           go_ret
           exact ⟨by first | rfl | (simp [errW_none, errW_some] <;> rfl) | (simp [*, errW_none, errW_some] <;> rfl), by repeat (first | (with_reducible first | exact HB.out | apply below_alloc | apply pw_below_drewN | apply below_drew1 | refine below_set ?_ GE488.out | refine below_set ?_ GE489.out | refine below_set ?_ GE511.out | refine below_set ?_ GE519.out | refine below_set ?_ GE533.out) | exact HB.out)⟩
     ·replace c81 := Bool.eq_false_iff.mpr c81
      subst c81
      have H1 : (some false) = some r := by rw [if_neg (show ¬ (false = true) by decide)] at H; exact H
      clear H
      have H := H1
      clear H1
      obtain rfl := Option.some.inj H
      try go_wp2
      have n0_ := m_ (Kd.R_drew HO_512003.out)
      have n1_ := m_ (Kd.R_drew HO_520003.out)
      have n2_ := m_ (Kd.R_drew HO_534003.out)
      have n3_ := m_ (blk_drew BK488.out)
      have n4_ := m_ (blk_drew BK489.out)
      have n5_ := m_ (blk_drew BK511.out)
      have n6_ := m_ (blk_drew BK519.out)
      have n7_ := m_ (blk_drew BK533.out)
      have n8_ := m_ (below_drew1 HB.out)
      clear HO_512003
      clear HO_520003
      clear HO_534003
      clear BK488
      clear BK489
      clear BK511
      clear BK519
      clear BK533
      clear HB
      have HO_512003 := n0_
      have HO_520003 := n1_
      have HO_534003 := n2_
      have BK488 := n3_
      have BK489 := n4_
      have BK511 := n5_
      have BK519 := n6_
      have BK533 := n7_
      have HB := n8_
      clear n0_ n1_ n2_ n3_ n4_ n5_ n6_ n7_ n8_
      refine start_ (n := 5) (S := fun w' => w'.cell? ⟨gb519, 0, none⟩ = some (.int .i64 t512) ∧ w'.cell? ⟨gb519, 1, none⟩ = some (.int .i64 t513) ∧ w'.cell? ⟨gb519, 2, none⟩ = some (.int .i64 t514) ∧ w'.cell? ⟨gb519, 3, none⟩ = some (.slice Ao43 t515.length co43) ∧ w'.cell? ⟨gb519, 4, none⟩ = some (.bool t518) ∧ w'.cell? ⟨gb488, 0, none⟩ = some (.int .i64 a0_0) ∧ w'.cell? ⟨gb488, 1, none⟩ = some (.int .i64 a0_1) ∧ w'.cell? ⟨gb488, 2, none⟩ = some (.int .i64 a0_2) ∧ w'.cell? ⟨gb488, 3, none⟩ = some (.slice A0_3 l0_3.length c0_3) ∧ w'.cell? ⟨gb488, 4, none⟩ = some (.bool a0_4)) (ds := []) #[false, false, false, false, false] (by kernel_rfl) rfl rfl ⟨bc BK519 0, bc BK519 1, bc BK519 2, bc BK519 3, bc BK519 4, bc BK488 0, bc BK488 1, bc BK488 2, bc BK488 3, bc BK488 4⟩ (fun hHeld => ?_)
      generalize wc.drew = w214 at HO_512003 HO_520003 HO_534003 BK488 BK489 BK511 BK519 BK533 HB hHeld ⊢
      refine take_ (i := 0) (N := some 47) (v := ?_) (a' := ?_) #[true, false, false, false, false] rfl rfl (by kernel_rfl) (fun _ _ _ h => h) (Or.inl ⟨by rfl, ?_⟩) hHeld ?_ ?_
      rotate_left
      ·rintro w' ⟨s0, s1, s2, s3, s4, s5, s6, s7, s8, s9⟩
       go_simp
       with_reducible rfl
      rotate_left
      ·simp only [Act.put, List.setIfInBounds_toArray, List.set_cons_zero, List.set_cons_succ, i64_w, i32_w]
       rfl
      refine take_ (i := 1) (N := some 48) (v := ?_) (a' := ?_) #[true, true, false, false, false] rfl rfl (by kernel_rfl) (fun _ _ _ h => h) (Or.inl ⟨by rfl, ?_⟩) hHeld ?_ ?_
      rotate_left
      ·rintro w' ⟨s0, s1, s2, s3, s4, s5, s6, s7, s8, s9⟩
       go_simp
       with_reducible rfl
      rotate_left
      ·simp only [Act.put, List.setIfInBounds_toArray, List.set_cons_zero, List.set_cons_succ, i64_w, i32_w]
       rfl
      refine one_ (i := 2) (N := some 49) #[true, true, true, false, false] rfl rfl (by kernel_rfl) (by decide) (fun K hK => ?_)
      refine goes_ Try.func20 (by kernel_rfl) rfl #[.agg #[.int .i64 a0_0, .int .i64 a0_1, .int .i64 a0_2, .slice A0_3 l0_3.length c0_3, .bool a0_4]] (by rfl) rfl rfl gl_ ?_
      with_reducible refine (laws_toFop.calls kj15 a0_0 a0_1 a0_2 _ _ l0_3 a0_4 t535 t536 t537 t538 t541 _ ?side1 ?side2 A79.out).mono ?_
      (case side1 => exact cN (Kd.C_below HR0_3.out HB.out))
      (case side2 => exact HC0_3.out)
      rintro e w215 ⟨v539, rfl, ho0, hb⟩
      refine ⟨_, rfl, ?_⟩
      have n0_ := m_ (Kd.R_elder' (rN HO_512003.out) (Kd.R_base ho0) hb)
      have n1_ := m_ (Kd.R_elder' (rN HO_520003.out) (Kd.R_base ho0) hb)
      have n2_ := m_ (Kd.R_elder' (rN HO_534003.out) (Kd.R_base ho0) hb)
      have n3_ := m_ (Kd.R_lower (Kd.R_new' (Kd.R_new' (Kd.R_new' ho0 (Kd.R_lt (rN HO_512003.out))) (Kd.R_lt (rN HO_520003.out))) (Kd.R_lt (rN HO_534003.out))) (below_size (bN HB.out)))
      have n4_ := m_ (blk_below (kN BK488.out) hb)
      have n5_ := m_ (blk_below (kN BK489.out) hb)
      have n6_ := m_ (blk_below (kN BK511.out) hb)
      have n7_ := m_ (blk_below (kN BK519.out) hb)
      have n8_ := m_ (blk_below (kN BK533.out) hb)
      have n9_ := m_ (below_step (bN HB.out) hb)
      clear HO_512003
      clear HO_520003
      clear HO_534003
      clear BK488
      clear BK489
      clear BK511
      clear BK519
      clear BK533
      clear HB
      have HO_512003 := n0_
      have HO_520003 := n1_
      have HO_534003 := n2_
      have HO540 := n3_
      have BK488 := n4_
      have BK489 := n5_
      have BK511 := n6_
      have BK519 := n7_
      have BK533 := n8_
      have HB := n9_
      clear n0_ n1_ n2_ n3_ n4_ n5_ n6_ n7_ n8_ n9_
      (try clear hb)
      (try clear hb2)
      (try clear hk)
      (try clear hi)
      (try clear ho0)
      obtain ⟨Ao216, co216, eo216⟩ := Kd.R_slice HO540.out
      (first | subst eo216 | (injection eo216 with f1_ f2_ f3_; have f4_ := f1_.symm; have f5_ := f3_.symm; clear f1_ f2_ f3_; subst f4_; subst f5_))
      refine hK.out _ _ ⟨bc BK519 0, bc BK519 1, bc BK519 2, bc BK519 3, bc BK519 4, bc BK488 0, bc BK488 1, bc BK488 2, bc BK488 3, bc BK488 4⟩ (fun hHeld => ?_)
      clear hK K
      refine np (h := ?_)
      refine one_ (i := 3) (N := some 50) #[true, true, true, true, false] rfl rfl (by kernel_rfl) (by decide) (fun K hK => ?_)
      refine goes_ Try.func22 (by kernel_rfl) rfl #[.agg #[.int .i64 t512, .int .i64 t513, .int .i64 t514, .slice Ao43 t515.length co43, .bool t518], .agg #[.int .i64 t535, .int .i64 t536, .int .i64 t537, .slice Ao216 t538.length co216, .bool t541]] (by rfl) rfl rfl gl_ ?_
      with_reducible refine (laws_eqFop.calls kj15 t512 t513 t514 _ _ t515 t518 t535 t536 t537 _ _ t538 t541 false _ ?side1 ?side2 ?side3 ?side4 A80.out).mono ?_
      (case side1 => exact cN (Kd.R_reads' HO_520003.out).2.2)
      (case side2 => exact (Kd.R_reads' HO_520003.out).2.1)
      (case side3 => exact cN (Kd.R_reads' HO540.out).2.2)
      (case side4 => exact (Kd.R_reads' HO540.out).2.1)
      rintro e w217 ⟨rfl, hb⟩
      refine ⟨_, rfl, ?_⟩
      have n0_ := m_ (Kd.R_below (rN HO_512003.out) hb)
      have n1_ := m_ (Kd.R_below (rN HO_520003.out) hb)
      have n2_ := m_ (Kd.R_below (rN HO_534003.out) hb)
      have n3_ := m_ (Kd.R_below (rN HO540.out) hb)
      have n4_ := m_ (blk_below (kN BK488.out) hb)
      have n5_ := m_ (blk_below (kN BK489.out) hb)
      have n6_ := m_ (blk_below (kN BK511.out) hb)
      have n7_ := m_ (blk_below (kN BK519.out) hb)
      have n8_ := m_ (blk_below (kN BK533.out) hb)
      have n9_ := m_ (below_step (bN HB.out) hb)
      clear HO_512003
      clear HO_520003
      clear HO_534003
      clear HO540
      clear BK488
      clear BK489
      clear BK511
      clear BK519
      clear BK533
      clear HB
      have HO_512003 := n0_
      have HO_520003 := n1_
      have HO_534003 := n2_
      have HO540 := n3_
      have BK488 := n4_
      have BK489 := n5_
      have BK511 := n6_
      have BK519 := n7_
      have BK533 := n8_
      have HB := n9_
      clear n0_ n1_ n2_ n3_ n4_ n5_ n6_ n7_ n8_ n9_
      (try clear hb)
      (try clear hb2)
      (try clear hk)
      (try clear hi)
      refine hK.out _ _ ⟨bc BK519 0, bc BK519 1, bc BK519 2, bc BK519 3, bc BK519 4, bc BK488 0, bc BK488 1, bc BK488 2, bc BK488 3, bc BK488 4⟩ (fun hHeld => ?_)
      clear hK K
      refine np (h := ?_)
      refine pure_ (i := 4) (N := some 51) (v := ?_) (a' := ?_) #[true, true, true, true, true] rfl rfl (by kernel_rfl) (fun _ _ _ h => h) (Or.inl ⟨by rfl, ?_⟩) ?_ ?_
      rotate_left
      ·intro w'
       go_simp
       with_reducible rfl
      rotate_left
      ·simp only [Act.put, List.setIfInBounds_toArray, List.set_cons_zero, List.set_cons_succ, i64_w, i32_w]
       rfl
      refine done_ (by kernel_rfl) ?_
      try go_wp2
      go_ret
      exact ⟨by first | rfl | (simp [errW_none, errW_some] <;> rfl) | (simp [*, errW_none, errW_some] <;> rfl), by repeat (first | (with_reducible first | exact HB.out | apply below_alloc | apply pw_below_drewN | apply below_drew1 | refine below_set ?_ GE488.out | refine below_set ?_ GE489.out | refine below_set ?_ GE511.out | refine below_set ?_ GE519.out | refine below_set ?_ GE533.out) | exact HB.out)⟩

end Go.Proofs.Ytnlhaiihbcdmoaa.P
