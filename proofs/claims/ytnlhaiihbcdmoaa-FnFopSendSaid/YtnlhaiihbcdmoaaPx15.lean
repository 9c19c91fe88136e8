/- The machine side of these statements, function by function: what each Go function answers (as a Lean function), and that it does. Written by a program (mp.py) for this claim. -/
import Derived.Test.YtnlhaiihbcdmoaaPx0
import Derived.Test.YtnlhaiihbcdmoaaPx3
import Derived.Test.YtnlhaiihbcdmoaaPx5
import Derived.Test.YtnlhaiihbcdmoaaPx6
import Derived.Test.YtnlhaiihbcdmoaaPx9
import Derived.Test.YtnlhaiihbcdmoaaPx10
import Derived.Test.YtnlhaiihbcdmoaaPx14
namespace Go.Proofs.Ytnlhaiihbcdmoaa.P
open Go.RowKit Go.Proofs.YtnlhaiihbcdmoaaW.PrintWords Go.Proofs.YtnlhaiihbcdmoaaW.PrintLast Go.Proofs.YtnlhaiihbcdmoaaW.PrintMore
attribute [local go_sem] max2_int min2_int max_two min_two max_three min_three max_four min_four   -- for this text's walks alone
set_option linter.unusedVariables false
set_option linter.unusedSimpArgs false

/-! ### laws_FnFopSend: function 3 -/
def laws_FnFopSend.j0 : Nat → ByteArray → List (S35) → List (S35) → Bool → Int → Int → Int → List ByteArray → Bool → Int → Int → Int → List ByteArray → Bool → Int → Int → Int → List ByteArray → Bool → Option (Bool)
 | 0, _, _, _, _, _, _, _, _, _, _, _, _, _, _, _, _, _, _, _ => none
 | k + 1, x4, x6, x8, x50, x279000, x279001, x279002, x279003, x279004, x290000, x290001, x290002, x290003, x290004, x301000, x301001, x301002, x301003, x301004 => if x50 = true then ((laws_skFop.f k x290000 x290001 x290002 x290003 x290004 x301000 x301001 x301002 x301003 x301004).bind fun t306 => (if t306 = true then ((laws_skFrames.f k x6 x8).bind fun t307 => (some t307)) else (some false))) else (if (x6.length : Int) = 0 then ((laws_skFop.f k x290000 x290001 x290002 x290003 x290004 x279000 x279001 x279002 x279003 x279004).bind fun t308 => (some t308)) else (if (x6.length : Int) = 1 then (if 0 < (x6.length : Int) then (if ((rd_T35 x6 0).f4) = x279002 then (if ((rd_T35 x6 0).f5).toList = x4.toList then (if ((rd_T35 x6 0).f0 = true) then (some false) else ((impl_FopOk.f k x290000 x290001 x290002 x290003 x290004).bind fun t312 => (if t312 = true then (if (x290003.length : Int) = (wrap64 ((x279003.length : Int) + 1)) then (if (x290003.length : Int) ≤ 4 then ((impl_FopFirst.f k x290000 x290001 x290002 x290003 x290004).bind fun t313 => ((impl_FopFirst.f k x279000 x279001 x279002 x279003 x279004).bind fun t314 => (some (t313 == t314)))) else (some false)) else (some false)) else (some false)))) else (some false)) else (some false)) else (none)) else (some false)))
def laws_FnFopSend.f (k : Nat) (l0 : List Int) : Option (Bool) := if (l0.length : Int) > 1048576 then (some true) else ((spec_DrawFopSend.f k l0).bind fun bt270 => ((impl_FopSend.f k bt270.1 bt270.2.1 bt270.2.2.1 bt270.2.2.2.1 bt270.2.2.2.2.1 bt270.2.2.2.2.2).bind fun bt279 => ((spec_FopSend.f k bt270.1 bt270.2.1 bt270.2.2.1 bt270.2.2.2.1 bt270.2.2.2.2.1 bt270.2.2.2.2.2).bind fun bt290 => ((laws_skFop.f k bt279.1 bt279.2.1 bt279.2.2.1 bt279.2.2.2.1 bt279.2.2.2.2.1 bt290.1 bt290.2.1 bt290.2.2.1 bt290.2.2.2.1 bt290.2.2.2.2.1).bind fun t301 => (if t301 = true then ((laws_skFrames.f k bt279.2.2.2.2.2 bt290.2.2.2.2.2).bind fun t302 => (if t302 = true then ((impl_FopOk.f k bt270.1 bt270.2.1 bt270.2.2.1 bt270.2.2.2.1 bt270.2.2.2.2.1).bind fun t303 => ((spec_FopOk.f k bt270.1 bt270.2.1 bt270.2.2.1 bt270.2.2.2.1 bt270.2.2.2.2.1).bind fun t304 => (if (t303 != t304) = true then (laws_FnFopSend.j0 k bt270.2.2.2.2.2 bt279.2.2.2.2.2 bt290.2.2.2.2.2 true bt270.1 bt270.2.1 bt270.2.2.1 bt270.2.2.2.1 bt270.2.2.2.2.1 bt279.1 bt279.2.1 bt279.2.2.1 bt279.2.2.2.1 bt279.2.2.2.2.1 bt290.1 bt290.2.1 bt290.2.2.1 bt290.2.2.2.1 bt290.2.2.2.2.1) else ((spec_FopOk.f k bt270.1 bt270.2.1 bt270.2.2.1 bt270.2.2.2.1 bt270.2.2.2.2.1).bind fun t305 => (laws_FnFopSend.j0 k bt270.2.2.2.2.2 bt279.2.2.2.2.2 bt290.2.2.2.2.2 (!t305) bt270.1 bt270.2.1 bt270.2.2.1 bt270.2.2.2.1 bt270.2.2.2.2.1 bt279.1 bt279.2.1 bt279.2.2.1 bt279.2.2.2.1 bt279.2.2.2.2.1 bt290.1 bt290.2.1 bt290.2.2.1 bt290.2.2.2.1 bt290.2.2.2.2.1))))) else (laws_FnFopSend.j0 k bt270.2.2.2.2.2 bt279.2.2.2.2.2 bt290.2.2.2.2.2 true bt270.1 bt270.2.1 bt270.2.2.1 bt270.2.2.2.1 bt270.2.2.2.2.1 bt279.1 bt279.2.1 bt279.2.2.1 bt279.2.2.2.1 bt279.2.2.2.2.1 bt290.1 bt290.2.1 bt290.2.2.1 bt290.2.2.2.1 bt290.2.2.2.2.1))) else (laws_FnFopSend.j0 k bt270.2.2.2.2.2 bt279.2.2.2.2.2 bt290.2.2.2.2.2 true bt270.1 bt270.2.1 bt270.2.2.1 bt270.2.2.2.1 bt270.2.2.2.2.1 bt279.1 bt279.2.1 bt279.2.2.1 bt279.2.2.2.1 bt279.2.2.2.2.1 bt290.1 bt290.2.1 bt290.2.2.1 bt290.2.2.2.1 bt290.2.2.2.2.1))))))
theorem laws_FnFopSend.mono_l : ∀ k, (∀ y0 y1 y2 y3 y4 y5 y6 y7 y8 y9 y10 y11 y12 y13 y14 y15 y16 y17 y18, LeO (laws_FnFopSend.j0 k y0 y1 y2 y3 y4 y5 y6 y7 y8 y9 y10 y11 y12 y13 y14 y15 y16 y17 y18) (laws_FnFopSend.j0 (k + 1) y0 y1 y2 y3 y4 y5 y6 y7 y8 y9 y10 y11 y12 y13 y14 y15 y16 y17 y18))
 | 0 => fun _ _ _ _ _ _ _ _ _ _ _ _ _ _ _ _ _ _ _ r h => by simp [laws_FnFopSend.j0] at h
 | k + 1 => by
  have ih0 := laws_FnFopSend.mono_l k
  ·intro y0 y1 y2 y3 y4 y5 y6 y7 y8 y9 y10 y11 y12 y13 y14 y15 y16 y17 y18
   unfold laws_FnFopSend.j0
   repeat' first
   | (with_reducible exact ih0 _ _ _ _ _ _ _ _ _ _ _ _ _ _ _ _ _ _ _)
   | (with_reducible exact impl_FopFirst.mono _ _ _ _ _ _)
   | (with_reducible exact impl_FopOk.mono _ _ _ _ _ _)
   | (with_reducible exact impl_FopSend.mono _ _ _ _ _ _ _)
   | (with_reducible exact laws_skFop.mono _ _ _ _ _ _ _ _ _ _ _)
   | (with_reducible exact laws_skFrames.mono _ _ _)
   | (with_reducible exact spec_DrawFopSend.mono _ _)
   | (with_reducible exact spec_FopOk.mono _ _ _ _ _ _)
   | (with_reducible exact spec_FopSend.mono _ _ _ _ _ _ _)
   | (with_reducible exact LeO.refl _)
   | (with_reducible exact LeO.none _)
   | (with_reducible refine LeO.ite ?_ ?_)
   | (with_reducible refine LeO.bind ?_ (fun _ => ?_))
   | exact ih0 _ _ _ _ _ _ _ _ _ _ _ _ _ _ _ _ _ _ _
   | exact impl_FopFirst.mono _ _ _ _ _ _
   | exact impl_FopOk.mono _ _ _ _ _ _
   | exact impl_FopSend.mono _ _ _ _ _ _ _
   | exact laws_skFop.mono _ _ _ _ _ _ _ _ _ _ _
   | exact laws_skFrames.mono _ _ _
   | exact spec_DrawFopSend.mono _ _
   | exact spec_FopOk.mono _ _ _ _ _ _
   | exact spec_FopSend.mono _ _ _ _ _ _ _
   | exact LeO.none _
   | refine LeO.ite ?_ ?_
   | refine LeO.bind ?_ (fun _ => ?_)
theorem laws_FnFopSend.mono : ∀ a0 k, LeO (laws_FnFopSend.f k a0) (laws_FnFopSend.f (k + 1) a0) := by
 intro a0 k
 have ih0 := laws_FnFopSend.mono_l k
 unfold laws_FnFopSend.f
 repeat' first
   | (with_reducible exact ih0 _ _ _ _ _ _ _ _ _ _ _ _ _ _ _ _ _ _ _)
   | (with_reducible exact impl_FopFirst.mono _ _ _ _ _ _)
   | (with_reducible exact impl_FopOk.mono _ _ _ _ _ _)
   | (with_reducible exact impl_FopSend.mono _ _ _ _ _ _ _)
   | (with_reducible exact laws_skFop.mono _ _ _ _ _ _ _ _ _ _ _)
   | (with_reducible exact laws_skFrames.mono _ _ _)
   | (with_reducible exact spec_DrawFopSend.mono _ _)
   | (with_reducible exact spec_FopOk.mono _ _ _ _ _ _)
   | (with_reducible exact spec_FopSend.mono _ _ _ _ _ _ _)
   | (with_reducible exact LeO.refl _)
   | (with_reducible exact LeO.none _)
   | (with_reducible refine LeO.ite ?_ ?_)
   | (with_reducible refine LeO.bind ?_ (fun _ => ?_))
   | exact ih0 _ _ _ _ _ _ _ _ _ _ _ _ _ _ _ _ _ _ _
   | exact impl_FopFirst.mono _ _ _ _ _ _
   | exact impl_FopOk.mono _ _ _ _ _ _
   | exact impl_FopSend.mono _ _ _ _ _ _ _
   | exact laws_skFop.mono _ _ _ _ _ _ _ _ _ _ _
   | exact laws_skFrames.mono _ _ _
   | exact spec_DrawFopSend.mono _ _
   | exact spec_FopOk.mono _ _ _ _ _ _
   | exact spec_FopSend.mono _ _ _ _ _ _ _
   | exact LeO.none _
   | refine LeO.ite ?_ ?_
   | refine LeO.bind ?_ (fun _ => ?_)
def laws_FnFopSend.T6 : Bool × List (List Nat × List Nat) := (true, [([], []), ([], []), ([0, 1], [0, 1]), ([2], [2]), ([3, 2], [3]), ([4], [4]), ([4], [4]), ([5, 6, 4, 4], [4, 5, 6]), ([7, 4], [4, 7]), ([4, 8], [4, 8]), ([9, 7], [9]), ([10], [10]), ([11, 10, 10], [10, 11]), ([10], [10]), ([13, 12, 10], [10, 13]), ([12, 14, 10], [10, 12, 14]), ([10, 15], [10, 15]), ([16, 14], [16]), ([17], [17]), ([18, 17, 17], [17, 18]), ([19, 17], [17, 19]), ([17, 20], [17, 20])])
def laws_FnFopSend.B6 : List Nat := [0, 0, 3, 7, 15, 31, 31, 127, 255, 511, 1023, 2047, 4095, 2047, 16383, 32767, 65535, 131071, 262143, 524287, 1048575, 2097151]
theorem laws_FnFopSend.tab6 : rtab .any (opsOf Try.f3 6) = laws_FnFopSend.T6 := by kernel_rfl
theorem laws_FnFopSend.bits6 : waitsOk laws_FnFopSend.T6.2 laws_FnFopSend.B6 = true := by kernel_rfl
def laws_FnFopSend.T10 : Bool × List (List Nat × List Nat) := (true, [([], []), ([0], [0]), ([1], [1]), ([2], [2]), ([3], [3]), ([4, 3], [3, 4]), ([5, 3], [3, 5]), ([6, 3], [3, 6]), ([3], [3]), ([8, 3], [3, 8]), ([7, 9, 3], [3, 7, 9]), ([3, 10], [3, 10]), ([11, 3], [11]), ([12], [12]), ([13, 12], [12, 13]), ([14, 12], [12, 14]), ([15, 12], [12, 15]), ([12], [12]), ([16, 17, 12], [12, 16, 17]), ([12, 18], [12, 18]), ([19, 12], [19]), ([20], [20]), ([21, 20], [20, 21]), ([22, 20], [20, 22]), ([23, 20], [20, 23]), ([24, 20], [20, 24]), ([20, 25], [20, 25]), ([26, 20], [26]), ([27], [27]), ([28, 27, 27], [27, 28]), ([27, 29], [27, 29]), ([30, 29], [30]), ([31], [31]), ([32, 31], [31, 32]), ([33, 31], [31, 33]), ([31], [31]), ([35, 31], [31, 35]), ([36, 31], [31, 36]), ([37, 31], [31, 37]), ([34, 38, 31], [31, 34, 38]), ([31, 39], [31, 39]), ([40, 31], [40]), ([41], [41]), ([42, 41], [41, 42]), ([43, 41], [41, 43]), ([44, 41], [41, 44]), ([41, 45], [41, 45]), ([46, 41], [46]), ([47], [47]), ([48, 47, 47], [47, 48]), ([47], [47]), ([50, 49, 47], [47, 50]), ([49, 51, 47], [47, 49, 51]), ([47, 52], [47, 52]), ([53, 51, 0, 1, 2, 3, 4, 5, 6, 7, 8, 9, 10, 11, 12, 13, 14, 15, 16, 17, 18, 19, 20, 21, 22, 23, 24, 25, 26, 27, 28, 29, 30, 31, 32, 33, 34, 35, 36, 37, 38, 39, 40, 41, 42, 43, 44, 45, 46, 47, 48, 49, 50, 51, 52, 53], [53])])
def laws_FnFopSend.B10 : List Nat := [0, 1, 3, 7, 15, 31, 63, 127, 15, 271, 1023, 2047, 4095, 8191, 16383, 32767, 65535, 8191, 262143, 524287, 1048575, 2097151, 4194303, 8388607, 16777215, 33554431, 67108863, 134217727, 268435455, 536870911, 1073741823, 2147483647, 4294967295, 8589934591, 17179869183, 4294967295, 38654705663, 107374182399, 244813135871, 549755813887, 1099511627775, 2199023255551, 4398046511103, 8796093022207, 17592186044415, 35184372088831, 70368744177663, 140737488355327, 281474976710655, 562949953421311, 281474976710655, 2251799813685247, 4503599627370495, 9007199254740991, 18014398509481983]
theorem laws_FnFopSend.tab10 : rtab .any (opsOf Try.f3 10) = laws_FnFopSend.T10 := by kernel_rfl
theorem laws_FnFopSend.bits10 : waitsOk laws_FnFopSend.T10.2 laws_FnFopSend.B10 = true := by kernel_rfl
set_option maxHeartbeats 8000000 in
set_option maxRecDepth 100000 in
theorem laws_FnFopSend.calls (k : Nat) (A0 : Option Addr) (c0 : Nat) (l0 : List Int) (r : Bool) (w : World) (hr0 : Kd.C (Kd.int .u8) w A0 l0.length l0) (hc0 : l0.length ≤ c0) (h : laws_FnFopSend.f k l0 = some r) :
  Calls Try.prog 3 #[.slice A0 l0.length c0] w fun e w' => e = .returned (.bool r) ∧ Below w.heap.size w w' := by
 have hu25 := Try.underlying25
 have HR0 := Aside0.mk hr0
 have HC0 := Aside0.mk hc0
 clear hr0 hc0
 have HB := m_ (Below.refl w.heap.size w)
 have H : (if (l0.length : Int) > 1048576 then (some true) else ((spec_DrawFopSend.f k l0).bind fun bt270 => ((impl_FopSend.f k bt270.1 bt270.2.1 bt270.2.2.1 bt270.2.2.2.1 bt270.2.2.2.2.1 bt270.2.2.2.2.2).bind fun bt279 => ((spec_FopSend.f k bt270.1 bt270.2.1 bt270.2.2.1 bt270.2.2.2.1 bt270.2.2.2.2.1 bt270.2.2.2.2.2).bind fun bt290 => ((laws_skFop.f k bt279.1 bt279.2.1 bt279.2.2.1 bt279.2.2.2.1 bt279.2.2.2.2.1 bt290.1 bt290.2.1 bt290.2.2.1 bt290.2.2.2.1 bt290.2.2.2.2.1).bind fun t301 => (if t301 = true then ((laws_skFrames.f k bt279.2.2.2.2.2 bt290.2.2.2.2.2).bind fun t302 => (if t302 = true then ((impl_FopOk.f k bt270.1 bt270.2.1 bt270.2.2.1 bt270.2.2.2.1 bt270.2.2.2.2.1).bind fun t303 => ((spec_FopOk.f k bt270.1 bt270.2.1 bt270.2.2.1 bt270.2.2.2.1 bt270.2.2.2.2.1).bind fun t304 => (if (t303 != t304) = true then (laws_FnFopSend.j0 k bt270.2.2.2.2.2 bt279.2.2.2.2.2 bt290.2.2.2.2.2 true bt270.1 bt270.2.1 bt270.2.2.1 bt270.2.2.2.1 bt270.2.2.2.2.1 bt279.1 bt279.2.1 bt279.2.2.1 bt279.2.2.2.1 bt279.2.2.2.2.1 bt290.1 bt290.2.1 bt290.2.2.1 bt290.2.2.2.1 bt290.2.2.2.2.1) else ((spec_FopOk.f k bt270.1 bt270.2.1 bt270.2.2.1 bt270.2.2.2.1 bt270.2.2.2.2.1).bind fun t305 => (laws_FnFopSend.j0 k bt270.2.2.2.2.2 bt279.2.2.2.2.2 bt290.2.2.2.2.2 (!t305) bt270.1 bt270.2.1 bt270.2.2.1 bt270.2.2.2.1 bt270.2.2.2.2.1 bt279.1 bt279.2.1 bt279.2.2.1 bt279.2.2.2.1 bt279.2.2.2.2.1 bt290.1 bt290.2.1 bt290.2.2.1 bt290.2.2.2.1 bt290.2.2.2.2.1))))) else (laws_FnFopSend.j0 k bt270.2.2.2.2.2 bt279.2.2.2.2.2 bt290.2.2.2.2.2 true bt270.1 bt270.2.1 bt270.2.2.1 bt270.2.2.2.1 bt270.2.2.2.2.1 bt279.1 bt279.2.1 bt279.2.2.1 bt279.2.2.2.1 bt279.2.2.2.2.1 bt290.1 bt290.2.1 bt290.2.2.1 bt290.2.2.2.1 bt290.2.2.2.2.1))) else (laws_FnFopSend.j0 k bt270.2.2.2.2.2 bt279.2.2.2.2.2 bt290.2.2.2.2.2 true bt270.1 bt270.2.1 bt270.2.2.1 bt270.2.2.2.1 bt270.2.2.2.2.1 bt279.1 bt279.2.1 bt279.2.2.1 bt279.2.2.2.1 bt279.2.2.2.2.1 bt290.1 bt290.2.1 bt290.2.2.1 bt290.2.2.2.1 bt290.2.2.2.2.1))))))) = some r := h
 clear h
 by_cases c2 : (l0.length : Int) > 1048576
 ·rw [if_pos c2] at H
  have c2b0 : decide (1048576 < (l0.length : Int)) = true := decide_eq_true c2
  have c2b1 : decide (1048576 < l0.length) = true := decide_eq_true (by omega)
  clear c2
  obtain rfl := Option.some.inj H
  go_enter Try.func3, Try.ntmps3
  go_wp2
  go_ret
  exact ⟨by first | rfl | (simp [errW_none, errW_some] <;> rfl) | (simp [*, errW_none, errW_some] <;> rfl), by repeat (first | (with_reducible first | exact HB.out | apply below_alloc | apply pw_below_drewN | apply below_drew1) | exact HB.out)⟩
 ·rw [if_neg c2] at H
  have c2b0 : decide (1048576 < (l0.length : Int)) = false := decide_eq_false c2
  have c2b1 : decide (1048576 < l0.length) = false := decide_eq_false (by omega)
  clear c2
  replace H := Option.bind_eq_some_iff.mp H
  obtain ⟨⟨t270, t271, t272, t273, t276, t277⟩, A30, H⟩ := H
  replace H : ((impl_FopSend.f k t270 t271 t272 t273 t276 t277).bind fun bt279 => ((spec_FopSend.f k t270 t271 t272 t273 t276 t277).bind fun bt290 => ((laws_skFop.f k bt279.1 bt279.2.1 bt279.2.2.1 bt279.2.2.2.1 bt279.2.2.2.2.1 bt290.1 bt290.2.1 bt290.2.2.1 bt290.2.2.2.1 bt290.2.2.2.2.1).bind fun t301 => (if t301 = true then ((laws_skFrames.f k bt279.2.2.2.2.2 bt290.2.2.2.2.2).bind fun t302 => (if t302 = true then ((impl_FopOk.f k t270 t271 t272 t273 t276).bind fun t303 => ((spec_FopOk.f k t270 t271 t272 t273 t276).bind fun t304 => (if (t303 != t304) = true then (laws_FnFopSend.j0 k t277 bt279.2.2.2.2.2 bt290.2.2.2.2.2 true t270 t271 t272 t273 t276 bt279.1 bt279.2.1 bt279.2.2.1 bt279.2.2.2.1 bt279.2.2.2.2.1 bt290.1 bt290.2.1 bt290.2.2.1 bt290.2.2.2.1 bt290.2.2.2.2.1) else ((spec_FopOk.f k t270 t271 t272 t273 t276).bind fun t305 => (laws_FnFopSend.j0 k t277 bt279.2.2.2.2.2 bt290.2.2.2.2.2 (!t305) t270 t271 t272 t273 t276 bt279.1 bt279.2.1 bt279.2.2.1 bt279.2.2.2.1 bt279.2.2.2.2.1 bt290.1 bt290.2.1 bt290.2.2.1 bt290.2.2.2.1 bt290.2.2.2.2.1))))) else (laws_FnFopSend.j0 k t277 bt279.2.2.2.2.2 bt290.2.2.2.2.2 true t270 t271 t272 t273 t276 bt279.1 bt279.2.1 bt279.2.2.1 bt279.2.2.2.1 bt279.2.2.2.2.1 bt290.1 bt290.2.1 bt290.2.2.1 bt290.2.2.2.1 bt290.2.2.2.2.1))) else (laws_FnFopSend.j0 k t277 bt279.2.2.2.2.2 bt290.2.2.2.2.2 true t270 t271 t272 t273 t276 bt279.1 bt279.2.1 bt279.2.2.1 bt279.2.2.2.1 bt279.2.2.2.2.1 bt290.1 bt290.2.1 bt290.2.2.1 bt290.2.2.2.1 bt290.2.2.2.2.1))))) = some r := H
  have A3 := Aside0.mk A30
  clear A30
  replace H := Option.bind_eq_some_iff.mp H
  obtain ⟨⟨t279, t280, t281, t282, t285, t286⟩, A40, H⟩ := H
  replace H : ((spec_FopSend.f k t270 t271 t272 t273 t276 t277).bind fun bt290 => ((laws_skFop.f k t279 t280 t281 t282 t285 bt290.1 bt290.2.1 bt290.2.2.1 bt290.2.2.2.1 bt290.2.2.2.2.1).bind fun t301 => (if t301 = true then ((laws_skFrames.f k t286 bt290.2.2.2.2.2).bind fun t302 => (if t302 = true then ((impl_FopOk.f k t270 t271 t272 t273 t276).bind fun t303 => ((spec_FopOk.f k t270 t271 t272 t273 t276).bind fun t304 => (if (t303 != t304) = true then (laws_FnFopSend.j0 k t277 t286 bt290.2.2.2.2.2 true t270 t271 t272 t273 t276 t279 t280 t281 t282 t285 bt290.1 bt290.2.1 bt290.2.2.1 bt290.2.2.2.1 bt290.2.2.2.2.1) else ((spec_FopOk.f k t270 t271 t272 t273 t276).bind fun t305 => (laws_FnFopSend.j0 k t277 t286 bt290.2.2.2.2.2 (!t305) t270 t271 t272 t273 t276 t279 t280 t281 t282 t285 bt290.1 bt290.2.1 bt290.2.2.1 bt290.2.2.2.1 bt290.2.2.2.2.1))))) else (laws_FnFopSend.j0 k t277 t286 bt290.2.2.2.2.2 true t270 t271 t272 t273 t276 t279 t280 t281 t282 t285 bt290.1 bt290.2.1 bt290.2.2.1 bt290.2.2.2.1 bt290.2.2.2.2.1))) else (laws_FnFopSend.j0 k t277 t286 bt290.2.2.2.2.2 true t270 t271 t272 t273 t276 t279 t280 t281 t282 t285 bt290.1 bt290.2.1 bt290.2.2.1 bt290.2.2.2.1 bt290.2.2.2.2.1)))) = some r := H
  have A4 := Aside0.mk A40
  clear A40
  replace H := Option.bind_eq_some_iff.mp H
  obtain ⟨⟨t290, t291, t292, t293, t296, t297⟩, A50, H⟩ := H
  replace H : ((laws_skFop.f k t279 t280 t281 t282 t285 t290 t291 t292 t293 t296).bind fun t301 => (if t301 = true then ((laws_skFrames.f k t286 t297).bind fun t302 => (if t302 = true then ((impl_FopOk.f k t270 t271 t272 t273 t276).bind fun t303 => ((spec_FopOk.f k t270 t271 t272 t273 t276).bind fun t304 => (if (t303 != t304) = true then (laws_FnFopSend.j0 k t277 t286 t297 true t270 t271 t272 t273 t276 t279 t280 t281 t282 t285 t290 t291 t292 t293 t296) else ((spec_FopOk.f k t270 t271 t272 t273 t276).bind fun t305 => (laws_FnFopSend.j0 k t277 t286 t297 (!t305) t270 t271 t272 t273 t276 t279 t280 t281 t282 t285 t290 t291 t292 t293 t296))))) else (laws_FnFopSend.j0 k t277 t286 t297 true t270 t271 t272 t273 t276 t279 t280 t281 t282 t285 t290 t291 t292 t293 t296))) else (laws_FnFopSend.j0 k t277 t286 t297 true t270 t271 t272 t273 t276 t279 t280 t281 t282 t285 t290 t291 t292 t293 t296))) = some r := H
  have A5 := Aside0.mk A50
  clear A50
  have HC6 := Aside0.mk H
  clear H
  go_enter Try.func3, Try.ntmps3
  go_upto_region 6 with (first | ((with_reducible refine gate_callee (f := 7) rfl ?_); refine goesL_ (some 14) rfl rfl Try.func7 (by kernel_rfl) rfl #[.slice A0 l0.length c0] rfl gl_ ?_; (with_reducible refine (spec_DrawFopSend.calls k _ _ l0 t270 t271 t272 t273 t276 t277 _ ?side1 ?side2 A3.out).mono ?_); (case side1 => exact cN HR0.out); (case side2 => exact HC0.out); rintro e w7 ⟨v274, rfl, ho0, hb⟩; refine ⟨_, rfl, ?_⟩; have n0_ := m_ (Kd.R_lower ho0 (below_size (bN HB.out))); have n1_ := m_ (below_step (bN HB.out) hb); clear HB; have HO275 := n0_; have HB := n1_; clear n0_ n1_; (try clear hb); (try clear hb2); (try clear hk); (try clear hi); (try clear ho0)) | ((with_reducible refine gate_dst (N := 3) rfl ?_); (try (refine gate_guard (by rfl) ?_; dsimp only)); refine box_event ?hg (N := 3) ?hd (cs := #[.int .i64 0, .int .i64 0, .int .i64 0, .slice none 0 0, .bool false]) (t := 25) ?hr ?_; (case hd => rfl); (case hg => rfl); (case hr => first | (go_simp; done) | (go_simp; rfl)); intro gb278 hg w8 hbox hb; have n0_ := m_ (Kd.R_below (rN HO275.out) hb); have n1_ := m_ (below_step (bN HB.out) hb); have n2_ := m_ (hbox); have n3_ := m_ ((by rw [hg]; exact (below_size (bN HB.out)) : w.heap.size ≤ gb278)); have n4_ := m_ ((by rw [hg]; exact (below_size (bN HB.out)) : w.heap.size ≤ gb278)); clear HO275; clear HB; have HO275 := n0_; have HB := n1_; have BK278 := n2_; have GW278 := n3_; have GE278 := n4_; clear n0_ n1_ n2_ n3_ n4_; clear hb hbox hg; have hcz9_0 : w8.cell? ⟨gb278, 0, none⟩ = some (.int .i64 0) := bc BK278 0; have hcz9_1 : w8.cell? ⟨gb278, 1, none⟩ = some (.int .i64 0) := bc BK278 1; have hcz9_2 : w8.cell? ⟨gb278, 2, none⟩ = some (.int .i64 0) := bc BK278 2; have hcz9_3 : w8.cell? ⟨gb278, 3, none⟩ = some (.slice none 0 0) := bc BK278 3; have hcz9_4 : w8.cell? ⟨gb278, 4, none⟩ = some (.bool false) := bc BK278 4; have hfz9_0 := blk_frozen BK278.out 0; have hfz9_1 := blk_frozen BK278.out 1; have hfz9_2 := blk_frozen BK278.out 2; have hfz9_3 := blk_frozen BK278.out 3; have hfz9_4 := blk_frozen BK278.out 4; obtain ⟨Ao10, co10, eo10⟩ := Kd.R_slice HO275.out; subst eo10) | ((with_reducible refine gate_callee (f := 8) rfl ?_); refine goesL_ (some 20) rfl rfl Try.func8 (by kernel_rfl) rfl #[.agg #[.int .i64 t270, .int .i64 t271, .int .i64 t272, .slice Ao10 t273.length co10, .bool t276], .string t277] rfl gl_ ?_; (with_reducible refine (impl_FopSend.calls k t270 t271 t272 _ _ t273 t276 t277 t279 t280 t281 t282 t285 t286 _ ?side1 ?side2 A4.out).mono ?_); (case side1 => refine (Kd.R_reads' (e := 9) (base := w.heap.size) (ok := fun k_ => True) (n := t273.length) (c := co10) ?_).2.2; exact (frN (Kd.R_types HO275.out BK278.out (by decide)))); (case side2 => exact (Kd.R_reads' HO275.out).2.1); rintro e w11 ⟨v283, v287, rfl, ho0, ho1, hb⟩; refine ⟨_, rfl, ?_⟩; have n0_ := m_ (Kd.R_elder' (frN (Kd.R_types HO275.out BK278.out (by decide))) (Kd.R_base ho0) hb); have n1_ := m_ (Kd.R_lower (Kd.R_new' ho0 (Kd.R_lt (frN (Kd.R_types HO275.out BK278.out (by decide))))) (below_size (bN HB.out))); have n2_ := m_ (Kd.R_lower ho1 (below_size (bN HB.out))); have n3_ := m_ (blk_below (g := gb278) (o := .cells #[.int .i64 t270, .int .i64 t271, .int .i64 t272, .slice Ao10 t273.length co10, .bool t276] 25 (0, 0)) (kP BK278.out) hb); have n4_ := m_ (below_step (bN HB.out) hb); clear HO275; clear BK278; clear HB; have HO275 := n0_; have HO284 := n1_; have HO288 := n2_; have BK278 := n3_; have HB := n4_; clear n0_ n1_ n2_ n3_ n4_; (try clear hb); (try clear hb2); (try clear hk); (try clear hi); (try clear ho0); (try clear ho1)) | ((with_reducible refine gate_dst (N := 5) rfl ?_); (try (refine gate_guard (by rfl) ?_; dsimp only)); refine box_event ?hg (N := 5) ?hd (cs := #[.int .i64 0, .int .i64 0, .int .i64 0, .slice none 0 0, .bool false]) (t := 25) ?hr ?_; (case hd => rfl); (case hg => rfl); (case hr => first | (go_simp; done) | (go_simp; rfl)); intro gb289 hg w12 hbox hb; have n0_ := m_ (Kd.R_below (rN HO275.out) hb); have n1_ := m_ (Kd.R_below (rN HO284.out) hb); have n2_ := m_ (Kd.R_below (rN HO288.out) hb); have n3_ := m_ (blk_below (kN BK278.out) hb); have n4_ := m_ (below_step (bN HB.out) hb); have n5_ := m_ (hbox); have n6_ := m_ ((by rw [hg]; exact (below_size (bN HB.out)) : w.heap.size ≤ gb289)); have n7_ := m_ ((by rw [hg]; exact (below_size (bN HB.out)) : w.heap.size ≤ gb289)); have n8_ := m_ (nL hg BK278.out); have n9_ := m_ (nG hg BK278.out); clear HO275; clear HO284; clear HO288; clear BK278; clear HB; have HO275 := n0_; have HO284 := n1_; have HO288 := n2_; have BK278 := n3_; have HB := n4_; have BK289 := n5_; have GW289 := n6_; have GE289 := n7_; have NB278_289 := n8_; have NB289_278 := n9_; clear n0_ n1_ n2_ n3_ n4_ n5_ n6_ n7_ n8_ n9_; clear hb hbox hg; have hnb13 := NB289_278.out; have hnc13 := NB278_289.out; have hcz14_0 : w12.cell? ⟨gb289, 0, none⟩ = some (.int .i64 0) := bc BK289 0; have hcz14_1 : w12.cell? ⟨gb289, 1, none⟩ = some (.int .i64 0) := bc BK289 1; have hcz14_2 : w12.cell? ⟨gb289, 2, none⟩ = some (.int .i64 0) := bc BK289 2; have hcz14_3 : w12.cell? ⟨gb289, 3, none⟩ = some (.slice none 0 0) := bc BK289 3; have hcz14_4 : w12.cell? ⟨gb289, 4, none⟩ = some (.bool false) := bc BK289 4; have hfz14_0 := blk_frozen BK289.out 0; have hfz14_1 := blk_frozen BK289.out 1; have hfz14_2 := blk_frozen BK289.out 2; have hfz14_3 := blk_frozen BK289.out 3; have hfz14_4 := blk_frozen BK289.out 4; obtain ⟨Ao15, co15, eo15⟩ := Kd.R_slice HO284.out; subst eo15; have hcz16_0 : w12.cell? ⟨gb278, 0, none⟩ = some (.int .i64 t270) := bc BK278 0; have hcz16_1 : w12.cell? ⟨gb278, 1, none⟩ = some (.int .i64 t271) := bc BK278 1; have hcz16_2 : w12.cell? ⟨gb278, 2, none⟩ = some (.int .i64 t272) := bc BK278 2; have hcz16_3 : w12.cell? ⟨gb278, 3, none⟩ = some (.slice Ao10 t273.length co10) := bc BK278 3; have hcz16_4 : w12.cell? ⟨gb278, 4, none⟩ = some (.bool t276) := bc BK278 4; have hfz16_0 := blk_frozen BK278.out 0; have hfz16_1 := blk_frozen BK278.out 1; have hfz16_2 := blk_frozen BK278.out 2; have hfz16_3 := blk_frozen BK278.out 3; have hfz16_4 := blk_frozen BK278.out 4) | ((with_reducible refine gate_callee (f := 9) rfl ?_); refine goesL_ (some 26) rfl rfl Try.func9 (by kernel_rfl) rfl #[.agg #[.int .i64 t270, .int .i64 t271, .int .i64 t272, .slice Ao10 t273.length co10, .bool t276], .string t277] rfl gl_ ?_; (with_reducible refine (spec_FopSend.calls k t270 t271 t272 _ _ t273 t276 t277 t290 t291 t292 t293 t296 t297 _ ?side1 ?side2 A5.out).mono ?_); (case side1 => refine (Kd.R_reads' (e := 9) (base := w.heap.size) (ok := fun k_ => (True ∧ nb Ao15 t282.length co15 k_)) (n := t273.length) (c := co10) ?_).2.2; exact (frN (Kd.R_types HO275.out BK289.out (by decide)))); (case side2 => exact (Kd.R_reads' HO275.out).2.1); rintro e w17 ⟨v294, v298, rfl, ho0, ho1, hb⟩; refine ⟨_, rfl, ?_⟩; have n0_ := m_ (Kd.R_elder' (frN (Kd.R_types HO275.out BK289.out (by decide))) (Kd.R_base ho0) hb); have n1_ := m_ (Kd.R_elder' (frN (Kd.R_types HO284.out BK289.out (by decide))) (Kd.R_base ho0) hb); have n2_ := m_ (Kd.R_elder' (frN (Kd.R_types HO288.out BK289.out (by decide))) (Kd.R_base ho1) hb); have n3_ := m_ (Kd.R_lower (Kd.R_new' (Kd.R_new' ho0 (Kd.R_lt (frN (Kd.R_types HO275.out BK289.out (by decide))))) (Kd.R_lt (frN (Kd.R_types HO284.out BK289.out (by decide))))) (below_size (bN HB.out))); have n4_ := m_ (Kd.R_lower (Kd.R_new' ho1 (Kd.R_lt (frN (Kd.R_types HO288.out BK289.out (by decide))))) (below_size (bN HB.out))); have n5_ := m_ (blk_below (g := gb278) (o := .cells #[.int .i64 t270, .int .i64 t271, .int .i64 t272, .slice Ao10 t273.length co10, .bool t276] 25 (0, 0)) (kF BK278.out NB278_289.out) hb); have n6_ := m_ (blk_below (g := gb289) (o := .cells #[.int .i64 t279, .int .i64 t280, .int .i64 t281, .slice Ao15 t282.length co15, .bool t285] 25 (0, 0)) (kP BK289.out) hb); have n7_ := m_ (below_step (bN HB.out) hb); clear HO275; clear HO284; clear HO288; clear BK278; clear BK289; clear HB; have HO275 := n0_; have HO284 := n1_; have HO288 := n2_; have HO295 := n3_; have HO299 := n4_; have BK278 := n5_; have BK289 := n6_; have HB := n7_; clear n0_ n1_ n2_ n3_ n4_ n5_ n6_ n7_; (try clear hb); (try clear hb2); (try clear hk); (try clear hi); (try clear ho0); (try clear ho1)) | ((with_reducible refine gate_dst (N := 7) rfl ?_); (try (refine gate_guard (by rfl) ?_; dsimp only)); refine box_event ?hg (N := 7) ?hd (cs := #[.int .i64 0, .int .i64 0, .int .i64 0, .slice none 0 0, .bool false]) (t := 25) ?hr ?_; (case hd => rfl); (case hg => rfl); (case hr => first | (go_simp; done) | (go_simp; rfl)); intro gb300 hg w18 hbox hb; have n0_ := m_ (Kd.R_below (rN HO275.out) hb); have n1_ := m_ (Kd.R_below (rN HO284.out) hb); have n2_ := m_ (Kd.R_below (rN HO288.out) hb); have n3_ := m_ (Kd.R_below (rN HO295.out) hb); have n4_ := m_ (Kd.R_below (rN HO299.out) hb); have n5_ := m_ (blk_below (kN BK278.out) hb); have n6_ := m_ (blk_below (kN BK289.out) hb); have n7_ := m_ (below_step (bN HB.out) hb); have n8_ := m_ (hbox); have n9_ := m_ ((by rw [hg]; exact (below_size (bN HB.out)) : w.heap.size ≤ gb300)); have n10_ := m_ ((by rw [hg]; exact (below_size (bN HB.out)) : w.heap.size ≤ gb300)); have n11_ := m_ (nL hg BK278.out); have n12_ := m_ (nG hg BK278.out); have n13_ := m_ (nL hg BK289.out); have n14_ := m_ (nG hg BK289.out); clear HO275; clear HO284; clear HO288; clear HO295; clear HO299; clear BK278; clear BK289; clear HB; have HO275 := n0_; have HO284 := n1_; have HO288 := n2_; have HO295 := n3_; have HO299 := n4_; have BK278 := n5_; have BK289 := n6_; have HB := n7_; have BK300 := n8_; have GW300 := n9_; have GE300 := n10_; have NB278_300 := n11_; have NB300_278 := n12_; have NB289_300 := n13_; have NB300_289 := n14_; clear n0_ n1_ n2_ n3_ n4_ n5_ n6_ n7_ n8_ n9_ n10_ n11_ n12_ n13_ n14_; clear hb hbox hg; have hnb19 := NB300_278.out; have hnc19 := NB278_300.out; have hnb20 := NB300_289.out; have hnc20 := NB289_300.out; have hcz21_0 : w18.cell? ⟨gb300, 0, none⟩ = some (.int .i64 0) := bc BK300 0; have hcz21_1 : w18.cell? ⟨gb300, 1, none⟩ = some (.int .i64 0) := bc BK300 1; have hcz21_2 : w18.cell? ⟨gb300, 2, none⟩ = some (.int .i64 0) := bc BK300 2; have hcz21_3 : w18.cell? ⟨gb300, 3, none⟩ = some (.slice none 0 0) := bc BK300 3; have hcz21_4 : w18.cell? ⟨gb300, 4, none⟩ = some (.bool false) := bc BK300 4; have hfz21_0 := blk_frozen BK300.out 0; have hfz21_1 := blk_frozen BK300.out 1; have hfz21_2 := blk_frozen BK300.out 2; have hfz21_3 := blk_frozen BK300.out 3; have hfz21_4 := blk_frozen BK300.out 4; obtain ⟨Ao22, co22, eo22⟩ := Kd.R_slice HO295.out; subst eo22))
  (try simp only [Act.put, List.setIfInBounds_toArray, List.set_cons_zero, List.set_cons_succ])
  go_cut [50] (fun v50 wc => ∃ (kq : Nat) (x50_5 : Bool), v50 = .bool x50_5 ∧ Aside0 (laws_FnFopSend.j0 kq t277 t286 t297 x50_5 t270 t271 t272 t273 t276 t279 t280 t281 t282 t285 t290 t291 t292 t293 t296 = some r) ∧ Aside0 (kq ≤ k) ∧ Aside0 (Kd.R k35 35 wc w.heap.size (fun k_ => some k_ ≠ (v298 : Value).ownBlock) v287 t286) ∧ Aside0 (Kd.R k35 35 wc w.heap.size (fun k_ => some k_ ≠ (v287 : Value).ownBlock) v298 t297) ∧ Aside0 (Kd.R Kd.string 9 wc w.heap.size (fun k_ => some k_ ≠ ((.slice Ao15 t282.length co15) : Value).ownBlock ∧ some k_ ≠ ((.slice Ao22 t293.length co22) : Value).ownBlock) (.slice Ao10 t273.length co10) t273) ∧ Aside0 (Kd.R Kd.string 9 wc w.heap.size (fun k_ => some k_ ≠ ((.slice Ao10 t273.length co10) : Value).ownBlock ∧ some k_ ≠ ((.slice Ao22 t293.length co22) : Value).ownBlock) (.slice Ao15 t282.length co15) t282) ∧ Aside0 (Kd.R Kd.string 9 wc w.heap.size (fun k_ => some k_ ≠ ((.slice Ao10 t273.length co10) : Value).ownBlock ∧ some k_ ≠ ((.slice Ao15 t282.length co15) : Value).ownBlock) (.slice Ao22 t293.length co22) t293) ∧ Aside0 (wc.heap[gb278]? = some (.cells #[.int .i64 t270, .int .i64 t271, .int .i64 t272, (.slice Ao10 t273.length co10), .bool t276] 25 (0, 0))) ∧ Aside0 (wc.heap[gb289]? = some (.cells #[.int .i64 t279, .int .i64 t280, .int .i64 t281, (.slice Ao15 t282.length co15), .bool t285] 25 (0, 0))) ∧ Aside0 (wc.heap[gb300]? = some (.cells #[.int .i64 t290, .int .i64 t291, .int .i64 t292, (.slice Ao22 t293.length co22), .bool t296] 25 (0, 0))) ∧ Aside0 (Below w.heap.size w wc))
  case first =>
   have H := HC6.out
   clear HC6
   replace H := Option.bind_eq_some_iff.mp H
   obtain ⟨t301, A230, H⟩ := H
   replace H : (if t301 = true then ((laws_skFrames.f k t286 t297).bind fun t302 => (if t302 = true then ((impl_FopOk.f k t270 t271 t272 t273 t276).bind fun t303 => ((spec_FopOk.f k t270 t271 t272 t273 t276).bind fun t304 => (if (t303 != t304) = true then (laws_FnFopSend.j0 k t277 t286 t297 true t270 t271 t272 t273 t276 t279 t280 t281 t282 t285 t290 t291 t292 t293 t296) else ((spec_FopOk.f k t270 t271 t272 t273 t276).bind fun t305 => (laws_FnFopSend.j0 k t277 t286 t297 (!t305) t270 t271 t272 t273 t276 t279 t280 t281 t282 t285 t290 t291 t292 t293 t296))))) else (laws_FnFopSend.j0 k t277 t286 t297 true t270 t271 t272 t273 t276 t279 t280 t281 t282 t285 t290 t291 t292 t293 t296))) else (laws_FnFopSend.j0 k t277 t286 t297 true t270 t271 t272 t273 t276 t279 t280 t281 t282 t285 t290 t291 t292 t293 t296)) = some r := H
   have A23 := Aside0.mk A230
   clear A230
   by_cases c24 : t301 = true
   ·subst c24
    have H1 : ((laws_skFrames.f k t286 t297).bind fun t302 => (if t302 = true then ((impl_FopOk.f k t270 t271 t272 t273 t276).bind fun t303 => ((spec_FopOk.f k t270 t271 t272 t273 t276).bind fun t304 => (if (t303 != t304) = true then (laws_FnFopSend.j0 k t277 t286 t297 true t270 t271 t272 t273 t276 t279 t280 t281 t282 t285 t290 t291 t292 t293 t296) else ((spec_FopOk.f k t270 t271 t272 t273 t276).bind fun t305 => (laws_FnFopSend.j0 k t277 t286 t297 (!t305) t270 t271 t272 t273 t276 t279 t280 t281 t282 t285 t290 t291 t292 t293 t296))))) else (laws_FnFopSend.j0 k t277 t286 t297 true t270 t271 t272 t273 t276 t279 t280 t281 t282 t285 t290 t291 t292 t293 t296))) = some r := by rw [if_pos rfl] at H; exact H
    clear H
    have H := H1
    clear H1
    replace H := Option.bind_eq_some_iff.mp H
    obtain ⟨t302, A250, H⟩ := H
    replace H : (if t302 = true then ((impl_FopOk.f k t270 t271 t272 t273 t276).bind fun t303 => ((spec_FopOk.f k t270 t271 t272 t273 t276).bind fun t304 => (if (t303 != t304) = true then (laws_FnFopSend.j0 k t277 t286 t297 true t270 t271 t272 t273 t276 t279 t280 t281 t282 t285 t290 t291 t292 t293 t296) else ((spec_FopOk.f k t270 t271 t272 t273 t276).bind fun t305 => (laws_FnFopSend.j0 k t277 t286 t297 (!t305) t270 t271 t272 t273 t276 t279 t280 t281 t282 t285 t290 t291 t292 t293 t296))))) else (laws_FnFopSend.j0 k t277 t286 t297 true t270 t271 t272 t273 t276 t279 t280 t281 t282 t285 t290 t291 t292 t293 t296)) = some r := H
    have A25 := Aside0.mk A250
    clear A250
    by_cases c26 : t302 = true
    ·subst c26
     have H1 : ((impl_FopOk.f k t270 t271 t272 t273 t276).bind fun t303 => ((spec_FopOk.f k t270 t271 t272 t273 t276).bind fun t304 => (if (t303 != t304) = true then (laws_FnFopSend.j0 k t277 t286 t297 true t270 t271 t272 t273 t276 t279 t280 t281 t282 t285 t290 t291 t292 t293 t296) else ((spec_FopOk.f k t270 t271 t272 t273 t276).bind fun t305 => (laws_FnFopSend.j0 k t277 t286 t297 (!t305) t270 t271 t272 t273 t276 t279 t280 t281 t282 t285 t290 t291 t292 t293 t296))))) = some r := by rw [if_pos rfl] at H; exact H
     clear H
     have H := H1
     clear H1
     replace H := Option.bind_eq_some_iff.mp H
     obtain ⟨t303, A270, H⟩ := H
     replace H : ((spec_FopOk.f k t270 t271 t272 t273 t276).bind fun t304 => (if (t303 != t304) = true then (laws_FnFopSend.j0 k t277 t286 t297 true t270 t271 t272 t273 t276 t279 t280 t281 t282 t285 t290 t291 t292 t293 t296) else ((spec_FopOk.f k t270 t271 t272 t273 t276).bind fun t305 => (laws_FnFopSend.j0 k t277 t286 t297 (!t305) t270 t271 t272 t273 t276 t279 t280 t281 t282 t285 t290 t291 t292 t293 t296)))) = some r := H
     have A27 := Aside0.mk A270
     clear A270
     replace H := Option.bind_eq_some_iff.mp H
     obtain ⟨t304, A280, H⟩ := H
     replace H : (if (t303 != t304) = true then (laws_FnFopSend.j0 k t277 t286 t297 true t270 t271 t272 t273 t276 t279 t280 t281 t282 t285 t290 t291 t292 t293 t296) else ((spec_FopOk.f k t270 t271 t272 t273 t276).bind fun t305 => (laws_FnFopSend.j0 k t277 t286 t297 (!t305) t270 t271 t272 t273 t276 t279 t280 t281 t282 t285 t290 t291 t292 t293 t296))) = some r := H
     have A28 := Aside0.mk A280
     clear A280
     by_cases c29 : (t303 != t304) = true
     ·rw [if_pos c29] at H
      have c29b0 : (t303 != t304) = true := c29
      (try (have c29b1 : decide (t303 = t304) = false := by simpa using c29))
      (try (have c29b2 : (t303 == t304) = false := by simpa using c29))
      (try (have c29b3 : ¬ (t303 = t304) := by simpa using c29))
      clear c29
      (first | rw [c29b0] | (simp only [i64_w, i32_w]; rw [c29b0]) | skip)
      have H' := Aside0.mk H
      clear H
      try go_wp2
      have n0_ : Aside0 (Kd.R Kd.string 9 (((((w18.setCell ⟨gb300, 0, none⟩ (.int .i64 t290)).setCell ⟨gb300, 1, none⟩ (.int .i64 t291)).setCell ⟨gb300, 2, none⟩ (.int .i64 t292)).setCell ⟨gb300, 3, none⟩ (.slice Ao22 t293.length co22)).setCell ⟨gb300, 4, none⟩ (.bool t296)) w.heap.size (fun k_ => nb Ao15 t282.length co15 k_ ∧ nb Ao22 t293.length co22 k_) (.slice Ao10 t273.length co10) t273) := ⟨by (with_reducible repeat (first | apply Kd.R_alloc | apply Kd.R_drewN | apply Kd.R_drew)); exact frM (Kd.R_types HO275.out BK300.out (by decide))⟩
      have n1_ : Aside0 (Kd.R Kd.string 9 (((((w18.setCell ⟨gb300, 0, none⟩ (.int .i64 t290)).setCell ⟨gb300, 1, none⟩ (.int .i64 t291)).setCell ⟨gb300, 2, none⟩ (.int .i64 t292)).setCell ⟨gb300, 3, none⟩ (.slice Ao22 t293.length co22)).setCell ⟨gb300, 4, none⟩ (.bool t296)) w.heap.size (fun k_ => nb Ao10 t273.length co10 k_ ∧ nb Ao22 t293.length co22 k_) (.slice Ao15 t282.length co15) t282) := ⟨by (with_reducible repeat (first | apply Kd.R_alloc | apply Kd.R_drewN | apply Kd.R_drew)); exact frM (Kd.R_types HO284.out BK300.out (by decide))⟩
      have n2_ : Aside0 (Kd.R k35 35 (((((w18.setCell ⟨gb300, 0, none⟩ (.int .i64 t290)).setCell ⟨gb300, 1, none⟩ (.int .i64 t291)).setCell ⟨gb300, 2, none⟩ (.int .i64 t292)).setCell ⟨gb300, 3, none⟩ (.slice Ao22 t293.length co22)).setCell ⟨gb300, 4, none⟩ (.bool t296)) w.heap.size (fun k_ => some k_ ≠ (v298 : Value).ownBlock) v287 t286) := ⟨by (with_reducible repeat (first | apply Kd.R_alloc | apply Kd.R_drewN | apply Kd.R_drew)); exact frM (Kd.R_types HO288.out BK300.out (by decide))⟩
      have n3_ : Aside0 (Kd.R Kd.string 9 (((((w18.setCell ⟨gb300, 0, none⟩ (.int .i64 t290)).setCell ⟨gb300, 1, none⟩ (.int .i64 t291)).setCell ⟨gb300, 2, none⟩ (.int .i64 t292)).setCell ⟨gb300, 3, none⟩ (.slice Ao22 t293.length co22)).setCell ⟨gb300, 4, none⟩ (.bool t296)) w.heap.size (fun k_ => nb Ao10 t273.length co10 k_ ∧ nb Ao15 t282.length co15 k_) (.slice Ao22 t293.length co22) t293) := ⟨by (with_reducible repeat (first | apply Kd.R_alloc | apply Kd.R_drewN | apply Kd.R_drew)); exact frM (Kd.R_types HO295.out BK300.out (by decide))⟩
      have n4_ : Aside0 (Kd.R k35 35 (((((w18.setCell ⟨gb300, 0, none⟩ (.int .i64 t290)).setCell ⟨gb300, 1, none⟩ (.int .i64 t291)).setCell ⟨gb300, 2, none⟩ (.int .i64 t292)).setCell ⟨gb300, 3, none⟩ (.slice Ao22 t293.length co22)).setCell ⟨gb300, 4, none⟩ (.bool t296)) w.heap.size (fun k_ => some k_ ≠ (v287 : Value).ownBlock) v298 t297) := ⟨by (with_reducible repeat (first | apply Kd.R_alloc | apply Kd.R_drewN | apply Kd.R_drew)); exact frM (Kd.R_types HO299.out BK300.out (by decide))⟩
      have n5_ : Aside0 ((((((w18.setCell ⟨gb300, 0, none⟩ (.int .i64 t290)).setCell ⟨gb300, 1, none⟩ (.int .i64 t291)).setCell ⟨gb300, 2, none⟩ (.int .i64 t292)).setCell ⟨gb300, 3, none⟩ (.slice Ao22 t293.length co22)).setCell ⟨gb300, 4, none⟩ (.bool t296)).heap[gb278]? = some (.cells #[.int .i64 t270, .int .i64 t271, .int .i64 t272, .slice Ao10 t273.length co10, .bool t276] 25 (0, 0))) := ⟨kF BK278.out NB278_300.out⟩
      have n6_ : Aside0 ((((((w18.setCell ⟨gb300, 0, none⟩ (.int .i64 t290)).setCell ⟨gb300, 1, none⟩ (.int .i64 t291)).setCell ⟨gb300, 2, none⟩ (.int .i64 t292)).setCell ⟨gb300, 3, none⟩ (.slice Ao22 t293.length co22)).setCell ⟨gb300, 4, none⟩ (.bool t296)).heap[gb289]? = some (.cells #[.int .i64 t279, .int .i64 t280, .int .i64 t281, .slice Ao15 t282.length co15, .bool t285] 25 (0, 0))) := ⟨kF BK289.out NB289_300.out⟩
      have n7_ : Aside0 ((((((w18.setCell ⟨gb300, 0, none⟩ (.int .i64 t290)).setCell ⟨gb300, 1, none⟩ (.int .i64 t291)).setCell ⟨gb300, 2, none⟩ (.int .i64 t292)).setCell ⟨gb300, 3, none⟩ (.slice Ao22 t293.length co22)).setCell ⟨gb300, 4, none⟩ (.bool t296)).heap[gb300]? = some (.cells #[.int .i64 t290, .int .i64 t291, .int .i64 t292, .slice Ao22 t293.length co22, .bool t296] 25 (0, 0))) := ⟨kP BK300.out⟩
      have n8_ : Aside0 (Below w.heap.size w (((((w18.setCell ⟨gb300, 0, none⟩ (.int .i64 t290)).setCell ⟨gb300, 1, none⟩ (.int .i64 t291)).setCell ⟨gb300, 2, none⟩ (.int .i64 t292)).setCell ⟨gb300, 3, none⟩ (.slice Ao22 t293.length co22)).setCell ⟨gb300, 4, none⟩ (.bool t296))) := ⟨by repeat (first | (with_reducible first | exact HB.out | apply below_alloc | apply pw_below_drewN | apply below_drew1 | refine below_set ?_ GE278.out | refine below_set ?_ GE289.out | refine below_set ?_ GE300.out) | exact HB.out)⟩
      (try clear HO275)
      (try clear HO284)
      (try clear HO288)
      (try clear HO295)
      (try clear HO299)
      (try clear BK278)
      (try clear BK289)
      (try clear BK300)
      (try clear HB)
      generalize (((((w18.setCell ⟨gb300, 0, none⟩ (.int .i64 t290)).setCell ⟨gb300, 1, none⟩ (.int .i64 t291)).setCell ⟨gb300, 2, none⟩ (.int .i64 t292)).setCell ⟨gb300, 3, none⟩ (.slice Ao22 t293.length co22)).setCell ⟨gb300, 4, none⟩ (.bool t296)) = w30 at n0_ n1_ n2_ n3_ n4_ n5_ n6_ n7_ n8_ ⊢
      have HO275 := n0_
      have HO284 := n1_
      have HO288 := n2_
      have HO295 := n3_
      have HO299 := n4_
      have BK278 := n5_
      have BK289 := n6_
      have BK300 := n7_
      have HB := n8_
      clear n0_ n1_ n2_ n3_ n4_ n5_ n6_ n7_ n8_
      have n0_ := m_ (Kd.R_drew HO275.out)
      have n1_ := m_ (Kd.R_drew HO284.out)
      have n2_ := m_ (Kd.R_drew HO288.out)
      have n3_ := m_ (Kd.R_drew HO295.out)
      have n4_ := m_ (Kd.R_drew HO299.out)
      have n5_ := m_ (blk_drew BK278.out)
      have n6_ := m_ (blk_drew BK289.out)
      have n7_ := m_ (blk_drew BK300.out)
      have n8_ := m_ (below_drew1 HB.out)
      clear HO275
      clear HO284
      clear HO288
      clear HO295
      clear HO299
      clear BK278
      clear BK289
      clear BK300
      clear HB
      have HO275 := n0_
      have HO284 := n1_
      have HO288 := n2_
      have HO295 := n3_
      have HO299 := n4_
      have BK278 := n5_
      have BK289 := n6_
      have BK300 := n7_
      have HB := n8_
      clear n0_ n1_ n2_ n3_ n4_ n5_ n6_ n7_ n8_
      refine start_ (n := 22) (S := fun w' => w'.cell? ⟨gb289, 0, none⟩ = some (.int .i64 t279) ∧ w'.cell? ⟨gb289, 1, none⟩ = some (.int .i64 t280) ∧ w'.cell? ⟨gb289, 2, none⟩ = some (.int .i64 t281) ∧ w'.cell? ⟨gb289, 3, none⟩ = some (.slice Ao15 t282.length co15) ∧ w'.cell? ⟨gb289, 4, none⟩ = some (.bool t285) ∧ w'.cell? ⟨gb300, 0, none⟩ = some (.int .i64 t290) ∧ w'.cell? ⟨gb300, 1, none⟩ = some (.int .i64 t291) ∧ w'.cell? ⟨gb300, 2, none⟩ = some (.int .i64 t292) ∧ w'.cell? ⟨gb300, 3, none⟩ = some (.slice Ao22 t293.length co22) ∧ w'.cell? ⟨gb300, 4, none⟩ = some (.bool t296) ∧ w'.cell? ⟨gb278, 0, none⟩ = some (.int .i64 t270) ∧ w'.cell? ⟨gb278, 1, none⟩ = some (.int .i64 t271) ∧ w'.cell? ⟨gb278, 2, none⟩ = some (.int .i64 t272) ∧ w'.cell? ⟨gb278, 3, none⟩ = some (.slice Ao10 t273.length co10) ∧ w'.cell? ⟨gb278, 4, none⟩ = some (.bool t276)) (ds := []) #[false, false, false, false, false, false, false, false, false, false, false, false, false, false, false, false, false, false, false, false, false, false] (by kernel_rfl) rfl rfl ⟨bc BK289 0, bc BK289 1, bc BK289 2, bc BK289 3, bc BK289 4, bc BK300 0, bc BK300 1, bc BK300 2, bc BK300 3, bc BK300 4, bc BK278 0, bc BK278 1, bc BK278 2, bc BK278 3, bc BK278 4⟩ (fun hHeld => ?_); refine with_tabW laws_FnFopSend.tab6 laws_FnFopSend.bits6 (fun HT_ HW_ => ?_)
      generalize w30.drew = w31 at HO275 HO284 HO288 HO295 HO299 BK278 BK289 BK300 HB hHeld ⊢
      refine take_ (i := 0) (N := some 29) (v := ?_) (a' := ?_) #[true, false, false, false, false, false, false, false, false, false, false, false, false, false, false, false, false, false, false, false, false, false] rfl rfl (take_ofW HT_.out HW_.out (by kernel_rfl)) (fun _ _ _ h => h) (Or.inl ⟨by rfl, ?_⟩) hHeld ?_ ?_
      rotate_left
      ·rintro w' ⟨s0, s1, s2, s3, s4, s5, s6, s7, s8, s9, s10, s11, s12, s13, s14⟩
       go_simp
       with_reducible rfl
      rotate_left
      ·simp only [Act.put, List.setIfInBounds_toArray, List.set_cons_zero, List.set_cons_succ, i64_w, i32_w]
       rfl
      refine take_ (i := 1) (N := some 30) (v := ?_) (a' := ?_) #[true, true, false, false, false, false, false, false, false, false, false, false, false, false, false, false, false, false, false, false, false, false] rfl rfl (take_ofW HT_.out HW_.out (by kernel_rfl)) (fun _ _ _ h => h) (Or.inl ⟨by rfl, ?_⟩) hHeld ?_ ?_
      rotate_left
      ·rintro w' ⟨s0, s1, s2, s3, s4, s5, s6, s7, s8, s9, s10, s11, s12, s13, s14⟩
       go_simp
       with_reducible rfl
      rotate_left
      ·simp only [Act.put, List.setIfInBounds_toArray, List.set_cons_zero, List.set_cons_succ, i64_w, i32_w]
       rfl
      refine one_ (i := 2) (N := some 31) #[true, true, true, false, false, false, false, false, false, false, false, false, false, false, false, false, false, false, false, false, false, false] rfl rfl (one_of HT_.out (by kernel_rfl)) (by decide) (fun K hK => ?_)
      refine goes_ Try.func10 (by kernel_rfl) rfl #[.agg #[.int .i64 t279, .int .i64 t280, .int .i64 t281, .slice Ao15 t282.length co15, .bool t285], .agg #[.int .i64 t290, .int .i64 t291, .int .i64 t292, .slice Ao22 t293.length co22, .bool t296]] (by rfl) rfl rfl gl_ ?_
      with_reducible refine (laws_skFop.calls k t279 t280 t281 _ _ t282 t285 t290 t291 t292 _ _ t293 t296 true _ ?side1 ?side2 ?side3 ?side4 A23.out).mono ?_
      (case side1 => exact cN (Kd.R_reads' HO284.out).2.2)
      (case side2 => exact (Kd.R_reads' HO284.out).2.1)
      (case side3 => exact cN (Kd.R_reads' HO295.out).2.2)
      (case side4 => exact (Kd.R_reads' HO295.out).2.1)
      rintro e w32 ⟨rfl, hb⟩
      refine ⟨_, rfl, ?_⟩
      have n0_ := m_ (Kd.R_below (rN HO275.out) hb)
      have n1_ := m_ (Kd.R_below (rN HO284.out) hb)
      have n2_ := m_ (Kd.R_below (rN HO288.out) hb)
      have n3_ := m_ (Kd.R_below (rN HO295.out) hb)
      have n4_ := m_ (Kd.R_below (rN HO299.out) hb)
      have n5_ := m_ (blk_below (kN BK278.out) hb)
      have n6_ := m_ (blk_below (kN BK289.out) hb)
      have n7_ := m_ (blk_below (kN BK300.out) hb)
      have n8_ := m_ (below_step (bN HB.out) hb)
      clear HO275
      clear HO284
      clear HO288
      clear HO295
      clear HO299
      clear BK278
      clear BK289
      clear BK300
      clear HB
      have HO275 := n0_
      have HO284 := n1_
      have HO288 := n2_
      have HO295 := n3_
      have HO299 := n4_
      have BK278 := n5_
      have BK289 := n6_
      have BK300 := n7_
      have HB := n8_
      clear n0_ n1_ n2_ n3_ n4_ n5_ n6_ n7_ n8_
      (try clear hb)
      (try clear hb2)
      (try clear hk)
      (try clear hi)
      obtain ⟨Ao33, co33, eo33⟩ := Kd.R_slice HO288.out
      (first | subst eo33 | (injection eo33 with f1_ f2_ f3_; have f4_ := f1_.symm; have f5_ := f3_.symm; clear f1_ f2_ f3_; subst f4_; subst f5_))
      obtain ⟨Ao34, co34, eo34⟩ := Kd.R_slice HO299.out
      (first | subst eo34 | (injection eo34 with f1_ f2_ f3_; have f4_ := f1_.symm; have f5_ := f3_.symm; clear f1_ f2_ f3_; subst f4_; subst f5_))
      refine hK.out _ _ ⟨bc BK289 0, bc BK289 1, bc BK289 2, bc BK289 3, bc BK289 4, bc BK300 0, bc BK300 1, bc BK300 2, bc BK300 3, bc BK300 4, bc BK278 0, bc BK278 1, bc BK278 2, bc BK278 3, bc BK278 4⟩ (fun hHeld => ?_)
      clear hK K
      refine np (h := ?_)
      refine pu 3 32 HT_ (h := ?_)
      refine pu 4 33 HT_ (h := ?_)
      refine pu 5 34 HT_ (h := ?_)
      refine pu 6 35 HT_ (h := ?_)
      refine one_ (i := 7) (N := some 36) #[true, true, true, true, true, true, true, true, false, false, false, false, false, false, false, false, false, false, false, false, false, false] rfl rfl (one_of HT_.out (by kernel_rfl)) (by decide) (fun K hK => ?_)
      refine goes_ Try.func11 (by kernel_rfl) rfl #[.slice Ao33 t286.length co33, .slice Ao34 t297.length co34] (by rfl) rfl rfl gl_ ?_
      with_reducible refine (laws_skFrames.calls k _ _ t286 _ _ t297 true _ ?side1 ?side2 ?side3 ?side4 A25.out).mono ?_
      (case side1 => exact cN (Kd.R_reads' HO288.out).2.2)
      (case side2 => exact (Kd.R_reads' HO288.out).2.1)
      (case side3 => exact cN (Kd.R_reads' HO299.out).2.2)
      (case side4 => exact (Kd.R_reads' HO299.out).2.1)
      rintro e w' ⟨rfl, ⟨nd, rfl⟩⟩
      refine ⟨_, rfl, ?_⟩
      refine hK.out _ _ ⟨bc BK289 0, bc BK289 1, bc BK289 2, bc BK289 3, bc BK289 4, bc BK300 0, bc BK300 1, bc BK300 2, bc BK300 3, bc BK300 4, bc BK278 0, bc BK278 1, bc BK278 2, bc BK278 3, bc BK278 4⟩ (fun hHeld => ?_)
      clear hK K
      refine np (h := ?_)
      refine pu 8 37 HT_ (h := ?_)
      refine pu 9 38 HT_ (h := ?_)
      refine pu 10 39 HT_ (h := ?_)
      refine take_ (i := 11) (N := some 40) (v := ?_) (a' := ?_) #[true, true, true, true, true, true, true, true, true, true, true, true, false, false, false, false, false, false, false, false, false, false] rfl rfl (take_ofW HT_.out HW_.out (by kernel_rfl)) (fun _ _ _ h => h) (Or.inl ⟨by rfl, ?_⟩) hHeld ?_ ?_
      rotate_left
      ·rintro w' ⟨s0, s1, s2, s3, s4, s5, s6, s7, s8, s9, s10, s11, s12, s13, s14⟩
       go_simp
       with_reducible rfl
      rotate_left
      ·simp only [Act.put, List.setIfInBounds_toArray, List.set_cons_zero, List.set_cons_succ, i64_w, i32_w]
       rfl
      refine take_ (i := 13) (N := some 42) (v := ?_) (a' := ?_) #[true, true, true, true, true, true, true, true, true, true, true, true, false, true, false, false, false, false, false, false, false, false] rfl rfl (take_ofW HT_.out HW_.out (by kernel_rfl)) (fun _ _ _ h => h) (Or.inl ⟨by rfl, ?_⟩) hHeld ?_ ?_
      rotate_left
      ·rintro w' ⟨s0, s1, s2, s3, s4, s5, s6, s7, s8, s9, s10, s11, s12, s13, s14⟩
       go_simp
       with_reducible rfl
      rotate_left
      ·simp only [Act.put, List.setIfInBounds_toArray, List.set_cons_zero, List.set_cons_succ, i64_w, i32_w]
       rfl
      refine one_ (i := 12) (N := some 41) #[true, true, true, true, true, true, true, true, true, true, true, true, true, true, false, false, false, false, false, false, false, false] rfl rfl (one_of HT_.out (by kernel_rfl)) (by decide) (fun K hK => ?_)
      refine goes_ Try.func12 (by kernel_rfl) rfl #[.agg #[.int .i64 t270, .int .i64 t271, .int .i64 t272, .slice Ao10 t273.length co10, .bool t276]] (by rfl) rfl rfl gl_ ?_
      with_reducible refine (impl_FopOk.calls k t270 t271 t272 _ _ t273 t276 t303 _ ?side1 ?side2 A27.out).mono ?_
      (case side1 => exact cN (Kd.R_reads' HO275.out).2.2)
      (case side2 => exact (Kd.R_reads' HO275.out).2.1)
      rintro e w35 ⟨rfl, hb⟩
      refine ⟨_, rfl, ?_⟩
      have n0_ := m_ (Kd.R_below (rN HO275.out) hb)
      have n1_ := m_ (Kd.R_below (rN HO284.out) hb)
      have n2_ := m_ (Kd.R_below (rN HO288.out) hb)
      have n3_ := m_ (Kd.R_below (rN HO295.out) hb)
      have n4_ := m_ (Kd.R_below (rN HO299.out) hb)
      have n5_ := m_ (blk_below (kN BK278.out) hb)
      have n6_ := m_ (blk_below (kN BK289.out) hb)
      have n7_ := m_ (blk_below (kN BK300.out) hb)
      have n8_ := m_ (below_step (bN HB.out) hb)
      clear HO275
      clear HO284
      clear HO288
      clear HO295
      clear HO299
      clear BK278
      clear BK289
      clear BK300
      clear HB
      have HO275 := n0_
      have HO284 := n1_
      have HO288 := n2_
      have HO295 := n3_
      have HO299 := n4_
      have BK278 := n5_
      have BK289 := n6_
      have BK300 := n7_
      have HB := n8_
      clear n0_ n1_ n2_ n3_ n4_ n5_ n6_ n7_ n8_
      (try clear hb)
      (try clear hb2)
      (try clear hk)
      (try clear hi)
      refine hK.out _ _ ⟨bc BK289 0, bc BK289 1, bc BK289 2, bc BK289 3, bc BK289 4, bc BK300 0, bc BK300 1, bc BK300 2, bc BK300 3, bc BK300 4, bc BK278 0, bc BK278 1, bc BK278 2, bc BK278 3, bc BK278 4⟩ (fun hHeld => ?_)
      clear hK K
      refine np (h := ?_)
      refine one_ (i := 14) (N := some 43) #[true, true, true, true, true, true, true, true, true, true, true, true, true, true, true, false, false, false, false, false, false, false] rfl rfl (one_of HT_.out (by kernel_rfl)) (by decide) (fun K hK => ?_)
      refine goes_ Try.func13 (by kernel_rfl) rfl #[.agg #[.int .i64 t270, .int .i64 t271, .int .i64 t272, .slice Ao10 t273.length co10, .bool t276]] (by rfl) rfl rfl gl_ ?_
      with_reducible refine (spec_FopOk.calls k t270 t271 t272 _ _ t273 t276 t304 _ ?side1 ?side2 A28.out).mono ?_
      (case side1 => exact cN (Kd.R_reads' HO275.out).2.2)
      (case side2 => exact (Kd.R_reads' HO275.out).2.1)
      rintro e w36 ⟨rfl, hb⟩
      refine ⟨_, rfl, ?_⟩
      have n0_ := m_ (Kd.R_below (rN HO275.out) hb)
      have n1_ := m_ (Kd.R_below (rN HO284.out) hb)
      have n2_ := m_ (Kd.R_below (rN HO288.out) hb)
      have n3_ := m_ (Kd.R_below (rN HO295.out) hb)
      have n4_ := m_ (Kd.R_below (rN HO299.out) hb)
      have n5_ := m_ (blk_below (kN BK278.out) hb)
      have n6_ := m_ (blk_below (kN BK289.out) hb)
      have n7_ := m_ (blk_below (kN BK300.out) hb)
      have n8_ := m_ (below_step (bN HB.out) hb)
      clear HO275
      clear HO284
      clear HO288
      clear HO295
      clear HO299
      clear BK278
      clear BK289
      clear BK300
      clear HB
      have HO275 := n0_
      have HO284 := n1_
      have HO288 := n2_
      have HO295 := n3_
      have HO299 := n4_
      have BK278 := n5_
      have BK289 := n6_
      have BK300 := n7_
      have HB := n8_
      clear n0_ n1_ n2_ n3_ n4_ n5_ n6_ n7_ n8_
      (try clear hb)
      (try clear hb2)
      (try clear hk)
      (try clear hi)
      refine hK.out _ _ ⟨bc BK289 0, bc BK289 1, bc BK289 2, bc BK289 3, bc BK289 4, bc BK300 0, bc BK300 1, bc BK300 2, bc BK300 3, bc BK300 4, bc BK278 0, bc BK278 1, bc BK278 2, bc BK278 3, bc BK278 4⟩ (fun hHeld => ?_)
      clear hK K
      refine np (h := ?_)
      refine pu 15 44 HT_ (h := ?_)
      refine pu 16 45 HT_ (h := ?_)
      refine pu 17 46 HT_ (h := ?_)
      refine pv 18 47 HT_ (h := ?_)
      refine pv 19 48 HT_ (h := ?_)
      refine pv 20 49 HT_ (h := ?_)
      refine pu 21 50 HT_ (h := ?_)
      refine done_ (done_of HT_.out (by kernel_rfl)) ?_
      try go_wp2
      go_meet
      case rel => exact ⟨_, (true), (by first | rfl | (simp; done) | (simp [*]; done)), H', ⟨by first | omega | exact Nat.le_refl _⟩, ⟨by (with_reducible repeat (first | apply Kd.R_alloc | apply Kd.R_drewN | apply Kd.R_drew)); exact HO288.out⟩, ⟨by (with_reducible repeat (first | apply Kd.R_alloc | apply Kd.R_drewN | apply Kd.R_drew)); exact HO299.out⟩, ⟨by (with_reducible repeat (first | apply Kd.R_alloc | apply Kd.R_drewN | apply Kd.R_drew)); exact HO275.out⟩, ⟨by (with_reducible repeat (first | apply Kd.R_alloc | apply Kd.R_drewN | apply Kd.R_drew)); exact HO284.out⟩, ⟨by (with_reducible repeat (first | apply Kd.R_alloc | apply Kd.R_drewN | apply Kd.R_drew)); exact HO295.out⟩, ⟨kN BK278.out⟩, ⟨kN BK289.out⟩, ⟨kN BK300.out⟩, ⟨by repeat (first | (with_reducible first | exact HB.out | apply below_alloc | apply pw_below_drewN | apply below_drew1 | refine below_set ?_ GE278.out | refine below_set ?_ GE289.out | refine below_set ?_ GE300.out) | exact HB.out)⟩⟩
     ·rw [if_neg c29] at H
      have c29b0 : (t303 != t304) = false := by simpa using c29
      (try (have c29b1 : decide (t303 = t304) = true := by simpa using c29))
      (try (have c29b2 : (t303 == t304) = true := by simpa using c29))
      clear c29
      (first | rw [c29b0] | (simp only [i64_w, i32_w]; rw [c29b0]) | skip)
      replace H := Option.bind_eq_some_iff.mp H
      obtain ⟨t305, A370, H⟩ := H
      replace H : (laws_FnFopSend.j0 k t277 t286 t297 (!t305) t270 t271 t272 t273 t276 t279 t280 t281 t282 t285 t290 t291 t292 t293 t296) = some r := H
      have A37 := Aside0.mk A370
      clear A370
      have H' := Aside0.mk H
      clear H
      try go_wp2
      have n0_ : Aside0 (Kd.R Kd.string 9 (((((w18.setCell ⟨gb300, 0, none⟩ (.int .i64 t290)).setCell ⟨gb300, 1, none⟩ (.int .i64 t291)).setCell ⟨gb300, 2, none⟩ (.int .i64 t292)).setCell ⟨gb300, 3, none⟩ (.slice Ao22 t293.length co22)).setCell ⟨gb300, 4, none⟩ (.bool t296)) w.heap.size (fun k_ => nb Ao15 t282.length co15 k_ ∧ nb Ao22 t293.length co22 k_) (.slice Ao10 t273.length co10) t273) := ⟨by (with_reducible repeat (first | apply Kd.R_alloc | apply Kd.R_drewN | apply Kd.R_drew)); exact frM (Kd.R_types HO275.out BK300.out (by decide))⟩
      have n1_ : Aside0 (Kd.R Kd.string 9 (((((w18.setCell ⟨gb300, 0, none⟩ (.int .i64 t290)).setCell ⟨gb300, 1, none⟩ (.int .i64 t291)).setCell ⟨gb300, 2, none⟩ (.int .i64 t292)).setCell ⟨gb300, 3, none⟩ (.slice Ao22 t293.length co22)).setCell ⟨gb300, 4, none⟩ (.bool t296)) w.heap.size (fun k_ => nb Ao10 t273.length co10 k_ ∧ nb Ao22 t293.length co22 k_) (.slice Ao15 t282.length co15) t282) := ⟨by (with_reducible repeat (first | apply Kd.R_alloc | apply Kd.R_drewN | apply Kd.R_drew)); exact frM (Kd.R_types HO284.out BK300.out (by decide))⟩
      have n2_ : Aside0 (Kd.R k35 35 (((((w18.setCell ⟨gb300, 0, none⟩ (.int .i64 t290)).setCell ⟨gb300, 1, none⟩ (.int .i64 t291)).setCell ⟨gb300, 2, none⟩ (.int .i64 t292)).setCell ⟨gb300, 3, none⟩ (.slice Ao22 t293.length co22)).setCell ⟨gb300, 4, none⟩ (.bool t296)) w.heap.size (fun k_ => some k_ ≠ (v298 : Value).ownBlock) v287 t286) := ⟨by (with_reducible repeat (first | apply Kd.R_alloc | apply Kd.R_drewN | apply Kd.R_drew)); exact frM (Kd.R_types HO288.out BK300.out (by decide))⟩
      have n3_ : Aside0 (Kd.R Kd.string 9 (((((w18.setCell ⟨gb300, 0, none⟩ (.int .i64 t290)).setCell ⟨gb300, 1, none⟩ (.int .i64 t291)).setCell ⟨gb300, 2, none⟩ (.int .i64 t292)).setCell ⟨gb300, 3, none⟩ (.slice Ao22 t293.length co22)).setCell ⟨gb300, 4, none⟩ (.bool t296)) w.heap.size (fun k_ => nb Ao10 t273.length co10 k_ ∧ nb Ao15 t282.length co15 k_) (.slice Ao22 t293.length co22) t293) := ⟨by (with_reducible repeat (first | apply Kd.R_alloc | apply Kd.R_drewN | apply Kd.R_drew)); exact frM (Kd.R_types HO295.out BK300.out (by decide))⟩
      have n4_ : Aside0 (Kd.R k35 35 (((((w18.setCell ⟨gb300, 0, none⟩ (.int .i64 t290)).setCell ⟨gb300, 1, none⟩ (.int .i64 t291)).setCell ⟨gb300, 2, none⟩ (.int .i64 t292)).setCell ⟨gb300, 3, none⟩ (.slice Ao22 t293.length co22)).setCell ⟨gb300, 4, none⟩ (.bool t296)) w.heap.size (fun k_ => some k_ ≠ (v287 : Value).ownBlock) v298 t297) := ⟨by (with_reducible repeat (first | apply Kd.R_alloc | apply Kd.R_drewN | apply Kd.R_drew)); exact frM (Kd.R_types HO299.out BK300.out (by decide))⟩
      have n5_ : Aside0 ((((((w18.setCell ⟨gb300, 0, none⟩ (.int .i64 t290)).setCell ⟨gb300, 1, none⟩ (.int .i64 t291)).setCell ⟨gb300, 2, none⟩ (.int .i64 t292)).setCell ⟨gb300, 3, none⟩ (.slice Ao22 t293.length co22)).setCell ⟨gb300, 4, none⟩ (.bool t296)).heap[gb278]? = some (.cells #[.int .i64 t270, .int .i64 t271, .int .i64 t272, .slice Ao10 t273.length co10, .bool t276] 25 (0, 0))) := ⟨kF BK278.out NB278_300.out⟩
      have n6_ : Aside0 ((((((w18.setCell ⟨gb300, 0, none⟩ (.int .i64 t290)).setCell ⟨gb300, 1, none⟩ (.int .i64 t291)).setCell ⟨gb300, 2, none⟩ (.int .i64 t292)).setCell ⟨gb300, 3, none⟩ (.slice Ao22 t293.length co22)).setCell ⟨gb300, 4, none⟩ (.bool t296)).heap[gb289]? = some (.cells #[.int .i64 t279, .int .i64 t280, .int .i64 t281, .slice Ao15 t282.length co15, .bool t285] 25 (0, 0))) := ⟨kF BK289.out NB289_300.out⟩
      have n7_ : Aside0 ((((((w18.setCell ⟨gb300, 0, none⟩ (.int .i64 t290)).setCell ⟨gb300, 1, none⟩ (.int .i64 t291)).setCell ⟨gb300, 2, none⟩ (.int .i64 t292)).setCell ⟨gb300, 3, none⟩ (.slice Ao22 t293.length co22)).setCell ⟨gb300, 4, none⟩ (.bool t296)).heap[gb300]? = some (.cells #[.int .i64 t290, .int .i64 t291, .int .i64 t292, .slice Ao22 t293.length co22, .bool t296] 25 (0, 0))) := ⟨kP BK300.out⟩
      have n8_ : Aside0 (Below w.heap.size w (((((w18.setCell ⟨gb300, 0, none⟩ (.int .i64 t290)).setCell ⟨gb300, 1, none⟩ (.int .i64 t291)).setCell ⟨gb300, 2, none⟩ (.int .i64 t292)).setCell ⟨gb300, 3, none⟩ (.slice Ao22 t293.length co22)).setCell ⟨gb300, 4, none⟩ (.bool t296))) := ⟨by repeat (first | (with_reducible first | exact HB.out | apply below_alloc | apply pw_below_drewN | apply below_drew1 | refine below_set ?_ GE278.out | refine below_set ?_ GE289.out | refine below_set ?_ GE300.out) | exact HB.out)⟩
      (try clear HO275)
      (try clear HO284)
      (try clear HO288)
      (try clear HO295)
      (try clear HO299)
      (try clear BK278)
      (try clear BK289)
      (try clear BK300)
      (try clear HB)
      generalize (((((w18.setCell ⟨gb300, 0, none⟩ (.int .i64 t290)).setCell ⟨gb300, 1, none⟩ (.int .i64 t291)).setCell ⟨gb300, 2, none⟩ (.int .i64 t292)).setCell ⟨gb300, 3, none⟩ (.slice Ao22 t293.length co22)).setCell ⟨gb300, 4, none⟩ (.bool t296)) = w38 at n0_ n1_ n2_ n3_ n4_ n5_ n6_ n7_ n8_ ⊢
      have HO275 := n0_
      have HO284 := n1_
      have HO288 := n2_
      have HO295 := n3_
      have HO299 := n4_
      have BK278 := n5_
      have BK289 := n6_
      have BK300 := n7_
      have HB := n8_
      clear n0_ n1_ n2_ n3_ n4_ n5_ n6_ n7_ n8_
      have n0_ := m_ (Kd.R_drew HO275.out)
      have n1_ := m_ (Kd.R_drew HO284.out)
      have n2_ := m_ (Kd.R_drew HO288.out)
      have n3_ := m_ (Kd.R_drew HO295.out)
      have n4_ := m_ (Kd.R_drew HO299.out)
      have n5_ := m_ (blk_drew BK278.out)
      have n6_ := m_ (blk_drew BK289.out)
      have n7_ := m_ (blk_drew BK300.out)
      have n8_ := m_ (below_drew1 HB.out)
      clear HO275
      clear HO284
      clear HO288
      clear HO295
      clear HO299
      clear BK278
      clear BK289
      clear BK300
      clear HB
      have HO275 := n0_
      have HO284 := n1_
      have HO288 := n2_
      have HO295 := n3_
      have HO299 := n4_
      have BK278 := n5_
      have BK289 := n6_
      have BK300 := n7_
      have HB := n8_
      clear n0_ n1_ n2_ n3_ n4_ n5_ n6_ n7_ n8_
      refine start_ (n := 22) (S := fun w' => w'.cell? ⟨gb289, 0, none⟩ = some (.int .i64 t279) ∧ w'.cell? ⟨gb289, 1, none⟩ = some (.int .i64 t280) ∧ w'.cell? ⟨gb289, 2, none⟩ = some (.int .i64 t281) ∧ w'.cell? ⟨gb289, 3, none⟩ = some (.slice Ao15 t282.length co15) ∧ w'.cell? ⟨gb289, 4, none⟩ = some (.bool t285) ∧ w'.cell? ⟨gb300, 0, none⟩ = some (.int .i64 t290) ∧ w'.cell? ⟨gb300, 1, none⟩ = some (.int .i64 t291) ∧ w'.cell? ⟨gb300, 2, none⟩ = some (.int .i64 t292) ∧ w'.cell? ⟨gb300, 3, none⟩ = some (.slice Ao22 t293.length co22) ∧ w'.cell? ⟨gb300, 4, none⟩ = some (.bool t296) ∧ w'.cell? ⟨gb278, 0, none⟩ = some (.int .i64 t270) ∧ w'.cell? ⟨gb278, 1, none⟩ = some (.int .i64 t271) ∧ w'.cell? ⟨gb278, 2, none⟩ = some (.int .i64 t272) ∧ w'.cell? ⟨gb278, 3, none⟩ = some (.slice Ao10 t273.length co10) ∧ w'.cell? ⟨gb278, 4, none⟩ = some (.bool t276)) (ds := []) #[false, false, false, false, false, false, false, false, false, false, false, false, false, false, false, false, false, false, false, false, false, false] (by kernel_rfl) rfl rfl ⟨bc BK289 0, bc BK289 1, bc BK289 2, bc BK289 3, bc BK289 4, bc BK300 0, bc BK300 1, bc BK300 2, bc BK300 3, bc BK300 4, bc BK278 0, bc BK278 1, bc BK278 2, bc BK278 3, bc BK278 4⟩ (fun hHeld => ?_); refine with_tabW laws_FnFopSend.tab6 laws_FnFopSend.bits6 (fun HT_ HW_ => ?_)
      generalize w38.drew = w39 at HO275 HO284 HO288 HO295 HO299 BK278 BK289 BK300 HB hHeld ⊢
      refine take_ (i := 0) (N := some 29) (v := ?_) (a' := ?_) #[true, false, false, false, false, false, false, false, false, false, false, false, false, false, false, false, false, false, false, false, false, false] rfl rfl (take_ofW HT_.out HW_.out (by kernel_rfl)) (fun _ _ _ h => h) (Or.inl ⟨by rfl, ?_⟩) hHeld ?_ ?_
      rotate_left
      ·rintro w' ⟨s0, s1, s2, s3, s4, s5, s6, s7, s8, s9, s10, s11, s12, s13, s14⟩
       go_simp
       with_reducible rfl
      rotate_left
      ·simp only [Act.put, List.setIfInBounds_toArray, List.set_cons_zero, List.set_cons_succ, i64_w, i32_w]
       rfl
      refine take_ (i := 1) (N := some 30) (v := ?_) (a' := ?_) #[true, true, false, false, false, false, false, false, false, false, false, false, false, false, false, false, false, false, false, false, false, false] rfl rfl (take_ofW HT_.out HW_.out (by kernel_rfl)) (fun _ _ _ h => h) (Or.inl ⟨by rfl, ?_⟩) hHeld ?_ ?_
      rotate_left
      ·rintro w' ⟨s0, s1, s2, s3, s4, s5, s6, s7, s8, s9, s10, s11, s12, s13, s14⟩
       go_simp
       with_reducible rfl
      rotate_left
      ·simp only [Act.put, List.setIfInBounds_toArray, List.set_cons_zero, List.set_cons_succ, i64_w, i32_w]
       rfl
      refine one_ (i := 2) (N := some 31) #[true, true, true, false, false, false, false, false, false, false, false, false, false, false, false, false, false, false, false, false, false, false] rfl rfl (one_of HT_.out (by kernel_rfl)) (by decide) (fun K hK => ?_)
      refine goes_ Try.func10 (by kernel_rfl) rfl #[.agg #[.int .i64 t279, .int .i64 t280, .int .i64 t281, .slice Ao15 t282.length co15, .bool t285], .agg #[.int .i64 t290, .int .i64 t291, .int .i64 t292, .slice Ao22 t293.length co22, .bool t296]] (by rfl) rfl rfl gl_ ?_
      with_reducible refine (laws_skFop.calls k t279 t280 t281 _ _ t282 t285 t290 t291 t292 _ _ t293 t296 true _ ?side1 ?side2 ?side3 ?side4 A23.out).mono ?_
      (case side1 => exact cN (Kd.R_reads' HO284.out).2.2)
      (case side2 => exact (Kd.R_reads' HO284.out).2.1)
      (case side3 => exact cN (Kd.R_reads' HO295.out).2.2)
      (case side4 => exact (Kd.R_reads' HO295.out).2.1)
      rintro e w40 ⟨rfl, hb⟩
      refine ⟨_, rfl, ?_⟩
      have n0_ := m_ (Kd.R_below (rN HO275.out) hb)
      have n1_ := m_ (Kd.R_below (rN HO284.out) hb)
      have n2_ := m_ (Kd.R_below (rN HO288.out) hb)
      have n3_ := m_ (Kd.R_below (rN HO295.out) hb)
      have n4_ := m_ (Kd.R_below (rN HO299.out) hb)
      have n5_ := m_ (blk_below (kN BK278.out) hb)
      have n6_ := m_ (blk_below (kN BK289.out) hb)
      have n7_ := m_ (blk_below (kN BK300.out) hb)
      have n8_ := m_ (below_step (bN HB.out) hb)
      clear HO275
      clear HO284
      clear HO288
      clear HO295
      clear HO299
      clear BK278
      clear BK289
      clear BK300
      clear HB
      have HO275 := n0_
      have HO284 := n1_
      have HO288 := n2_
      have HO295 := n3_
      have HO299 := n4_
      have BK278 := n5_
      have BK289 := n6_
      have BK300 := n7_
      have HB := n8_
      clear n0_ n1_ n2_ n3_ n4_ n5_ n6_ n7_ n8_
      (try clear hb)
      (try clear hb2)
      (try clear hk)
      (try clear hi)
      obtain ⟨Ao41, co41, eo41⟩ := Kd.R_slice HO288.out
      (first | subst eo41 | (injection eo41 with f1_ f2_ f3_; have f4_ := f1_.symm; have f5_ := f3_.symm; clear f1_ f2_ f3_; subst f4_; subst f5_))
      obtain ⟨Ao42, co42, eo42⟩ := Kd.R_slice HO299.out
      (first | subst eo42 | (injection eo42 with f1_ f2_ f3_; have f4_ := f1_.symm; have f5_ := f3_.symm; clear f1_ f2_ f3_; subst f4_; subst f5_))
      refine hK.out _ _ ⟨bc BK289 0, bc BK289 1, bc BK289 2, bc BK289 3, bc BK289 4, bc BK300 0, bc BK300 1, bc BK300 2, bc BK300 3, bc BK300 4, bc BK278 0, bc BK278 1, bc BK278 2, bc BK278 3, bc BK278 4⟩ (fun hHeld => ?_)
      clear hK K
      refine np (h := ?_)
      refine pu 3 32 HT_ (h := ?_)
      refine pu 4 33 HT_ (h := ?_)
      refine pu 5 34 HT_ (h := ?_)
      refine pu 6 35 HT_ (h := ?_)
      refine one_ (i := 7) (N := some 36) #[true, true, true, true, true, true, true, true, false, false, false, false, false, false, false, false, false, false, false, false, false, false] rfl rfl (one_of HT_.out (by kernel_rfl)) (by decide) (fun K hK => ?_)
      refine goes_ Try.func11 (by kernel_rfl) rfl #[.slice Ao41 t286.length co41, .slice Ao42 t297.length co42] (by rfl) rfl rfl gl_ ?_
      with_reducible refine (laws_skFrames.calls k _ _ t286 _ _ t297 true _ ?side1 ?side2 ?side3 ?side4 A25.out).mono ?_
      (case side1 => exact cN (Kd.R_reads' HO288.out).2.2)
      (case side2 => exact (Kd.R_reads' HO288.out).2.1)
      (case side3 => exact cN (Kd.R_reads' HO299.out).2.2)
      (case side4 => exact (Kd.R_reads' HO299.out).2.1)
      rintro e w' ⟨rfl, ⟨nd, rfl⟩⟩
      refine ⟨_, rfl, ?_⟩
      refine hK.out _ _ ⟨bc BK289 0, bc BK289 1, bc BK289 2, bc BK289 3, bc BK289 4, bc BK300 0, bc BK300 1, bc BK300 2, bc BK300 3, bc BK300 4, bc BK278 0, bc BK278 1, bc BK278 2, bc BK278 3, bc BK278 4⟩ (fun hHeld => ?_)
      clear hK K
      refine np (h := ?_)
      refine pu 8 37 HT_ (h := ?_)
      refine pu 9 38 HT_ (h := ?_)
      refine pu 10 39 HT_ (h := ?_)
      refine take_ (i := 11) (N := some 40) (v := ?_) (a' := ?_) #[true, true, true, true, true, true, true, true, true, true, true, true, false, false, false, false, false, false, false, false, false, false] rfl rfl (take_ofW HT_.out HW_.out (by kernel_rfl)) (fun _ _ _ h => h) (Or.inl ⟨by rfl, ?_⟩) hHeld ?_ ?_
      rotate_left
      ·rintro w' ⟨s0, s1, s2, s3, s4, s5, s6, s7, s8, s9, s10, s11, s12, s13, s14⟩
       go_simp
       with_reducible rfl
      rotate_left
      ·simp only [Act.put, List.setIfInBounds_toArray, List.set_cons_zero, List.set_cons_succ, i64_w, i32_w]
       rfl
      refine take_ (i := 13) (N := some 42) (v := ?_) (a' := ?_) #[true, true, true, true, true, true, true, true, true, true, true, true, false, true, false, false, false, false, false, false, false, false] rfl rfl (take_ofW HT_.out HW_.out (by kernel_rfl)) (fun _ _ _ h => h) (Or.inl ⟨by rfl, ?_⟩) hHeld ?_ ?_
      rotate_left
      ·rintro w' ⟨s0, s1, s2, s3, s4, s5, s6, s7, s8, s9, s10, s11, s12, s13, s14⟩
       go_simp
       with_reducible rfl
      rotate_left
      ·simp only [Act.put, List.setIfInBounds_toArray, List.set_cons_zero, List.set_cons_succ, i64_w, i32_w]
       rfl
      refine one_ (i := 12) (N := some 41) #[true, true, true, true, true, true, true, true, true, true, true, true, true, true, false, false, false, false, false, false, false, false] rfl rfl (one_of HT_.out (by kernel_rfl)) (by decide) (fun K hK => ?_)
      refine goes_ Try.func12 (by kernel_rfl) rfl #[.agg #[.int .i64 t270, .int .i64 t271, .int .i64 t272, .slice Ao10 t273.length co10, .bool t276]] (by rfl) rfl rfl gl_ ?_
      with_reducible refine (impl_FopOk.calls k t270 t271 t272 _ _ t273 t276 t303 _ ?side1 ?side2 A27.out).mono ?_
      (case side1 => exact cN (Kd.R_reads' HO275.out).2.2)
      (case side2 => exact (Kd.R_reads' HO275.out).2.1)
      rintro e w43 ⟨rfl, hb⟩
      refine ⟨_, rfl, ?_⟩
      have n0_ := m_ (Kd.R_below (rN HO275.out) hb)
      have n1_ := m_ (Kd.R_below (rN HO284.out) hb)
      have n2_ := m_ (Kd.R_below (rN HO288.out) hb)
      have n3_ := m_ (Kd.R_below (rN HO295.out) hb)
      have n4_ := m_ (Kd.R_below (rN HO299.out) hb)
      have n5_ := m_ (blk_below (kN BK278.out) hb)
      have n6_ := m_ (blk_below (kN BK289.out) hb)
      have n7_ := m_ (blk_below (kN BK300.out) hb)
      have n8_ := m_ (below_step (bN HB.out) hb)
      clear HO275
      clear HO284
      clear HO288
      clear HO295
      clear HO299
      clear BK278
      clear BK289
      clear BK300
      clear HB
      have HO275 := n0_
      have HO284 := n1_
      have HO288 := n2_
      have HO295 := n3_
      have HO299 := n4_
      have BK278 := n5_
      have BK289 := n6_
      have BK300 := n7_
      have HB := n8_
      clear n0_ n1_ n2_ n3_ n4_ n5_ n6_ n7_ n8_
      (try clear hb)
      (try clear hb2)
      (try clear hk)
      (try clear hi)
      refine hK.out _ _ ⟨bc BK289 0, bc BK289 1, bc BK289 2, bc BK289 3, bc BK289 4, bc BK300 0, bc BK300 1, bc BK300 2, bc BK300 3, bc BK300 4, bc BK278 0, bc BK278 1, bc BK278 2, bc BK278 3, bc BK278 4⟩ (fun hHeld => ?_)
      clear hK K
      refine np (h := ?_)
      refine one_ (i := 14) (N := some 43) #[true, true, true, true, true, true, true, true, true, true, true, true, true, true, true, false, false, false, false, false, false, false] rfl rfl (one_of HT_.out (by kernel_rfl)) (by decide) (fun K hK => ?_)
      refine goes_ Try.func13 (by kernel_rfl) rfl #[.agg #[.int .i64 t270, .int .i64 t271, .int .i64 t272, .slice Ao10 t273.length co10, .bool t276]] (by rfl) rfl rfl gl_ ?_
      with_reducible refine (spec_FopOk.calls k t270 t271 t272 _ _ t273 t276 t304 _ ?side1 ?side2 A28.out).mono ?_
      (case side1 => exact cN (Kd.R_reads' HO275.out).2.2)
      (case side2 => exact (Kd.R_reads' HO275.out).2.1)
      rintro e w44 ⟨rfl, hb⟩
      refine ⟨_, rfl, ?_⟩
      have n0_ := m_ (Kd.R_below (rN HO275.out) hb)
      have n1_ := m_ (Kd.R_below (rN HO284.out) hb)
      have n2_ := m_ (Kd.R_below (rN HO288.out) hb)
      have n3_ := m_ (Kd.R_below (rN HO295.out) hb)
      have n4_ := m_ (Kd.R_below (rN HO299.out) hb)
      have n5_ := m_ (blk_below (kN BK278.out) hb)
      have n6_ := m_ (blk_below (kN BK289.out) hb)
      have n7_ := m_ (blk_below (kN BK300.out) hb)
      have n8_ := m_ (below_step (bN HB.out) hb)
      clear HO275
      clear HO284
      clear HO288
      clear HO295
      clear HO299
      clear BK278
      clear BK289
      clear BK300
      clear HB
      have HO275 := n0_
      have HO284 := n1_
      have HO288 := n2_
      have HO295 := n3_
      have HO299 := n4_
      have BK278 := n5_
      have BK289 := n6_
      have BK300 := n7_
      have HB := n8_
      clear n0_ n1_ n2_ n3_ n4_ n5_ n6_ n7_ n8_
      (try clear hb)
      (try clear hb2)
      (try clear hk)
      (try clear hi)
      refine hK.out _ _ ⟨bc BK289 0, bc BK289 1, bc BK289 2, bc BK289 3, bc BK289 4, bc BK300 0, bc BK300 1, bc BK300 2, bc BK300 3, bc BK300 4, bc BK278 0, bc BK278 1, bc BK278 2, bc BK278 3, bc BK278 4⟩ (fun hHeld => ?_)
      clear hK K
      refine np (h := ?_)
      refine pu 15 44 HT_ (h := ?_)
      refine pu 16 45 HT_ (h := ?_)
      refine pu 17 46 HT_ (h := ?_)
      refine take_ (i := 18) (N := some 47) (v := ?_) (a' := ?_) #[true, true, true, true, true, true, true, true, true, true, true, true, true, true, true, true, true, true, true, false, false, false] rfl rfl (take_ofW HT_.out HW_.out (by kernel_rfl)) (fun _ _ _ h => h) (Or.inl ⟨by rfl, ?_⟩) hHeld ?_ ?_
      rotate_left
      ·rintro w' ⟨s0, s1, s2, s3, s4, s5, s6, s7, s8, s9, s10, s11, s12, s13, s14⟩
       go_simp
       with_reducible rfl
      rotate_left
      ·simp only [Act.put, List.setIfInBounds_toArray, List.set_cons_zero, List.set_cons_succ, i64_w, i32_w]
       rfl
      refine one_ (i := 19) (N := some 48) #[true, true, true, true, true, true, true, true, true, true, true, true, true, true, true, true, true, true, true, true, false, false] rfl rfl (one_of HT_.out (by kernel_rfl)) (by decide) (fun K hK => ?_)
      refine goes_ Try.func13 (by kernel_rfl) rfl #[.agg #[.int .i64 t270, .int .i64 t271, .int .i64 t272, .slice Ao10 t273.length co10, .bool t276]] (by rfl) rfl rfl gl_ ?_
      with_reducible refine (spec_FopOk.calls k t270 t271 t272 _ _ t273 t276 t305 _ ?side1 ?side2 A37.out).mono ?_
      (case side1 => exact cN (Kd.R_reads' HO275.out).2.2)
      (case side2 => exact (Kd.R_reads' HO275.out).2.1)
      rintro e w45 ⟨rfl, hb⟩
      refine ⟨_, rfl, ?_⟩
      have n0_ := m_ (Kd.R_below (rN HO275.out) hb)
      have n1_ := m_ (Kd.R_below (rN HO284.out) hb)
      have n2_ := m_ (Kd.R_below (rN HO288.out) hb)
      have n3_ := m_ (Kd.R_below (rN HO295.out) hb)
      have n4_ := m_ (Kd.R_below (rN HO299.out) hb)
      have n5_ := m_ (blk_below (kN BK278.out) hb)
      have n6_ := m_ (blk_below (kN BK289.out) hb)
      have n7_ := m_ (blk_below (kN BK300.out) hb)
      have n8_ := m_ (below_step (bN HB.out) hb)
      clear HO275
      clear HO284
      clear HO288
      clear HO295
      clear HO299
      clear BK278
      clear BK289
      clear BK300
      clear HB
      have HO275 := n0_
      have HO284 := n1_
      have HO288 := n2_
      have HO295 := n3_
      have HO299 := n4_
      have BK278 := n5_
      have BK289 := n6_
      have BK300 := n7_
      have HB := n8_
      clear n0_ n1_ n2_ n3_ n4_ n5_ n6_ n7_ n8_
      (try clear hb)
      (try clear hb2)
      (try clear hk)
      (try clear hi)
      refine hK.out _ _ ⟨bc BK289 0, bc BK289 1, bc BK289 2, bc BK289 3, bc BK289 4, bc BK300 0, bc BK300 1, bc BK300 2, bc BK300 3, bc BK300 4, bc BK278 0, bc BK278 1, bc BK278 2, bc BK278 3, bc BK278 4⟩ (fun hHeld => ?_)
      clear hK K
      refine np (h := ?_)
      refine pu 20 49 HT_ (h := ?_)
      refine pu 21 50 HT_ (h := ?_)
      refine done_ (done_of HT_.out (by kernel_rfl)) ?_
      try go_wp2
      go_meet
      case rel => exact ⟨_, (!t305), (by first | rfl | (simp; done) | (simp [*]; done)), H', ⟨by first | omega | exact Nat.le_refl _⟩, ⟨by (with_reducible repeat (first | apply Kd.R_alloc | apply Kd.R_drewN | apply Kd.R_drew)); exact HO288.out⟩, ⟨by (with_reducible repeat (first | apply Kd.R_alloc | apply Kd.R_drewN | apply Kd.R_drew)); exact HO299.out⟩, ⟨by (with_reducible repeat (first | apply Kd.R_alloc | apply Kd.R_drewN | apply Kd.R_drew)); exact HO275.out⟩, ⟨by (with_reducible repeat (first | apply Kd.R_alloc | apply Kd.R_drewN | apply Kd.R_drew)); exact HO284.out⟩, ⟨by (with_reducible repeat (first | apply Kd.R_alloc | apply Kd.R_drewN | apply Kd.R_drew)); exact HO295.out⟩, ⟨kN BK278.out⟩, ⟨kN BK289.out⟩, ⟨kN BK300.out⟩, ⟨by repeat (first | (with_reducible first | exact HB.out | apply below_alloc | apply pw_below_drewN | apply below_drew1 | refine below_set ?_ GE278.out | refine below_set ?_ GE289.out | refine below_set ?_ GE300.out) | exact HB.out)⟩⟩
    ·replace c26 := Bool.eq_false_iff.mpr c26
     subst c26
     have H1 : (laws_FnFopSend.j0 k t277 t286 t297 true t270 t271 t272 t273 t276 t279 t280 t281 t282 t285 t290 t291 t292 t293 t296) = some r := by rw [if_neg (show ¬ (false = true) by decide)] at H; exact H
     clear H
     have H := H1
     clear H1
     have H' := Aside0.mk H
     clear H
     try go_wp2
     have n0_ : Aside0 (Kd.R Kd.string 9 (((((w18.setCell ⟨gb300, 0, none⟩ (.int .i64 t290)).setCell ⟨gb300, 1, none⟩ (.int .i64 t291)).setCell ⟨gb300, 2, none⟩ (.int .i64 t292)).setCell ⟨gb300, 3, none⟩ (.slice Ao22 t293.length co22)).setCell ⟨gb300, 4, none⟩ (.bool t296)) w.heap.size (fun k_ => nb Ao15 t282.length co15 k_ ∧ nb Ao22 t293.length co22 k_) (.slice Ao10 t273.length co10) t273) := ⟨by (with_reducible repeat (first | apply Kd.R_alloc | apply Kd.R_drewN | apply Kd.R_drew)); exact frM (Kd.R_types HO275.out BK300.out (by decide))⟩
     have n1_ : Aside0 (Kd.R Kd.string 9 (((((w18.setCell ⟨gb300, 0, none⟩ (.int .i64 t290)).setCell ⟨gb300, 1, none⟩ (.int .i64 t291)).setCell ⟨gb300, 2, none⟩ (.int .i64 t292)).setCell ⟨gb300, 3, none⟩ (.slice Ao22 t293.length co22)).setCell ⟨gb300, 4, none⟩ (.bool t296)) w.heap.size (fun k_ => nb Ao10 t273.length co10 k_ ∧ nb Ao22 t293.length co22 k_) (.slice Ao15 t282.length co15) t282) := ⟨by (with_reducible repeat (first | apply Kd.R_alloc | apply Kd.R_drewN | apply Kd.R_drew)); exact frM (Kd.R_types HO284.out BK300.out (by decide))⟩
     have n2_ : Aside0 (Kd.R k35 35 (((((w18.setCell ⟨gb300, 0, none⟩ (.int .i64 t290)).setCell ⟨gb300, 1, none⟩ (.int .i64 t291)).setCell ⟨gb300, 2, none⟩ (.int .i64 t292)).setCell ⟨gb300, 3, none⟩ (.slice Ao22 t293.length co22)).setCell ⟨gb300, 4, none⟩ (.bool t296)) w.heap.size (fun k_ => some k_ ≠ (v298 : Value).ownBlock) v287 t286) := ⟨by (with_reducible repeat (first | apply Kd.R_alloc | apply Kd.R_drewN | apply Kd.R_drew)); exact frM (Kd.R_types HO288.out BK300.out (by decide))⟩
     have n3_ : Aside0 (Kd.R Kd.string 9 (((((w18.setCell ⟨gb300, 0, none⟩ (.int .i64 t290)).setCell ⟨gb300, 1, none⟩ (.int .i64 t291)).setCell ⟨gb300, 2, none⟩ (.int .i64 t292)).setCell ⟨gb300, 3, none⟩ (.slice Ao22 t293.length co22)).setCell ⟨gb300, 4, none⟩ (.bool t296)) w.heap.size (fun k_ => nb Ao10 t273.length co10 k_ ∧ nb Ao15 t282.length co15 k_) (.slice Ao22 t293.length co22) t293) := ⟨by (with_reducible repeat (first | apply Kd.R_alloc | apply Kd.R_drewN | apply Kd.R_drew)); exact frM (Kd.R_types HO295.out BK300.out (by decide))⟩
     have n4_ : Aside0 (Kd.R k35 35 (((((w18.setCell ⟨gb300, 0, none⟩ (.int .i64 t290)).setCell ⟨gb300, 1, none⟩ (.int .i64 t291)).setCell ⟨gb300, 2, none⟩ (.int .i64 t292)).setCell ⟨gb300, 3, none⟩ (.slice Ao22 t293.length co22)).setCell ⟨gb300, 4, none⟩ (.bool t296)) w.heap.size (fun k_ => some k_ ≠ (v287 : Value).ownBlock) v298 t297) := ⟨by (with_reducible repeat (first | apply Kd.R_alloc | apply Kd.R_drewN | apply Kd.R_drew)); exact frM (Kd.R_types HO299.out BK300.out (by decide))⟩
     have n5_ : Aside0 ((((((w18.setCell ⟨gb300, 0, none⟩ (.int .i64 t290)).setCell ⟨gb300, 1, none⟩ (.int .i64 t291)).setCell ⟨gb300, 2, none⟩ (.int .i64 t292)).setCell ⟨gb300, 3, none⟩ (.slice Ao22 t293.length co22)).setCell ⟨gb300, 4, none⟩ (.bool t296)).heap[gb278]? = some (.cells #[.int .i64 t270, .int .i64 t271, .int .i64 t272, .slice Ao10 t273.length co10, .bool t276] 25 (0, 0))) := ⟨kF BK278.out NB278_300.out⟩
     have n6_ : Aside0 ((((((w18.setCell ⟨gb300, 0, none⟩ (.int .i64 t290)).setCell ⟨gb300, 1, none⟩ (.int .i64 t291)).setCell ⟨gb300, 2, none⟩ (.int .i64 t292)).setCell ⟨gb300, 3, none⟩ (.slice Ao22 t293.length co22)).setCell ⟨gb300, 4, none⟩ (.bool t296)).heap[gb289]? = some (.cells #[.int .i64 t279, .int .i64 t280, .int .i64 t281, .slice Ao15 t282.length co15, .bool t285] 25 (0, 0))) := ⟨kF BK289.out NB289_300.out⟩
     have n7_ : Aside0 ((((((w18.setCell ⟨gb300, 0, none⟩ (.int .i64 t290)).setCell ⟨gb300, 1, none⟩ (.int .i64 t291)).setCell ⟨gb300, 2, none⟩ (.int .i64 t292)).setCell ⟨gb300, 3, none⟩ (.slice Ao22 t293.length co22)).setCell ⟨gb300, 4, none⟩ (.bool t296)).heap[gb300]? = some (.cells #[.int .i64 t290, .int .i64 t291, .int .i64 t292, .slice Ao22 t293.length co22, .bool t296] 25 (0, 0))) := ⟨kP BK300.out⟩
     have n8_ : Aside0 (Below w.heap.size w (((((w18.setCell ⟨gb300, 0, none⟩ (.int .i64 t290)).setCell ⟨gb300, 1, none⟩ (.int .i64 t291)).setCell ⟨gb300, 2, none⟩ (.int .i64 t292)).setCell ⟨gb300, 3, none⟩ (.slice Ao22 t293.length co22)).setCell ⟨gb300, 4, none⟩ (.bool t296))) := ⟨by repeat (first | (with_reducible first | exact HB.out | apply below_alloc | apply pw_below_drewN | apply below_drew1 | refine below_set ?_ GE278.out | refine below_set ?_ GE289.out | refine below_set ?_ GE300.out) | exact HB.out)⟩
     (try clear HO275)
     (try clear HO284)
     (try clear HO288)
     (try clear HO295)
     (try clear HO299)
     (try clear BK278)
     (try clear BK289)
     (try clear BK300)
     (try clear HB)
     generalize (((((w18.setCell ⟨gb300, 0, none⟩ (.int .i64 t290)).setCell ⟨gb300, 1, none⟩ (.int .i64 t291)).setCell ⟨gb300, 2, none⟩ (.int .i64 t292)).setCell ⟨gb300, 3, none⟩ (.slice Ao22 t293.length co22)).setCell ⟨gb300, 4, none⟩ (.bool t296)) = w46 at n0_ n1_ n2_ n3_ n4_ n5_ n6_ n7_ n8_ ⊢
     have HO275 := n0_
     have HO284 := n1_
     have HO288 := n2_
     have HO295 := n3_
     have HO299 := n4_
     have BK278 := n5_
     have BK289 := n6_
     have BK300 := n7_
     have HB := n8_
     clear n0_ n1_ n2_ n3_ n4_ n5_ n6_ n7_ n8_
     have n0_ := m_ (Kd.R_drew HO275.out)
     have n1_ := m_ (Kd.R_drew HO284.out)
     have n2_ := m_ (Kd.R_drew HO288.out)
     have n3_ := m_ (Kd.R_drew HO295.out)
     have n4_ := m_ (Kd.R_drew HO299.out)
     have n5_ := m_ (blk_drew BK278.out)
     have n6_ := m_ (blk_drew BK289.out)
     have n7_ := m_ (blk_drew BK300.out)
     have n8_ := m_ (below_drew1 HB.out)
     clear HO275
     clear HO284
     clear HO288
     clear HO295
     clear HO299
     clear BK278
     clear BK289
     clear BK300
     clear HB
     have HO275 := n0_
     have HO284 := n1_
     have HO288 := n2_
     have HO295 := n3_
     have HO299 := n4_
     have BK278 := n5_
     have BK289 := n6_
     have BK300 := n7_
     have HB := n8_
     clear n0_ n1_ n2_ n3_ n4_ n5_ n6_ n7_ n8_
     refine start_ (n := 22) (S := fun w' => w'.cell? ⟨gb289, 0, none⟩ = some (.int .i64 t279) ∧ w'.cell? ⟨gb289, 1, none⟩ = some (.int .i64 t280) ∧ w'.cell? ⟨gb289, 2, none⟩ = some (.int .i64 t281) ∧ w'.cell? ⟨gb289, 3, none⟩ = some (.slice Ao15 t282.length co15) ∧ w'.cell? ⟨gb289, 4, none⟩ = some (.bool t285) ∧ w'.cell? ⟨gb300, 0, none⟩ = some (.int .i64 t290) ∧ w'.cell? ⟨gb300, 1, none⟩ = some (.int .i64 t291) ∧ w'.cell? ⟨gb300, 2, none⟩ = some (.int .i64 t292) ∧ w'.cell? ⟨gb300, 3, none⟩ = some (.slice Ao22 t293.length co22) ∧ w'.cell? ⟨gb300, 4, none⟩ = some (.bool t296)) (ds := []) #[false, false, false, false, false, false, false, false, false, false, false, false, false, false, false, false, false, false, false, false, false, false] (by kernel_rfl) rfl rfl ⟨bc BK289 0, bc BK289 1, bc BK289 2, bc BK289 3, bc BK289 4, bc BK300 0, bc BK300 1, bc BK300 2, bc BK300 3, bc BK300 4⟩ (fun hHeld => ?_); refine with_tabW laws_FnFopSend.tab6 laws_FnFopSend.bits6 (fun HT_ HW_ => ?_)
     generalize w46.drew = w47 at HO275 HO284 HO288 HO295 HO299 BK278 BK289 BK300 HB hHeld ⊢
     refine take_ (i := 0) (N := some 29) (v := ?_) (a' := ?_) #[true, false, false, false, false, false, false, false, false, false, false, false, false, false, false, false, false, false, false, false, false, false] rfl rfl (take_ofW HT_.out HW_.out (by kernel_rfl)) (fun _ _ _ h => h) (Or.inl ⟨by rfl, ?_⟩) hHeld ?_ ?_
     rotate_left
     ·rintro w' ⟨s0, s1, s2, s3, s4, s5, s6, s7, s8, s9⟩
      go_simp
      with_reducible rfl
     rotate_left
     ·simp only [Act.put, List.setIfInBounds_toArray, List.set_cons_zero, List.set_cons_succ, i64_w, i32_w]
      rfl
     refine take_ (i := 1) (N := some 30) (v := ?_) (a' := ?_) #[true, true, false, false, false, false, false, false, false, false, false, false, false, false, false, false, false, false, false, false, false, false] rfl rfl (take_ofW HT_.out HW_.out (by kernel_rfl)) (fun _ _ _ h => h) (Or.inl ⟨by rfl, ?_⟩) hHeld ?_ ?_
     rotate_left
     ·rintro w' ⟨s0, s1, s2, s3, s4, s5, s6, s7, s8, s9⟩
      go_simp
      with_reducible rfl
     rotate_left
     ·simp only [Act.put, List.setIfInBounds_toArray, List.set_cons_zero, List.set_cons_succ, i64_w, i32_w]
      rfl
     refine one_ (i := 2) (N := some 31) #[true, true, true, false, false, false, false, false, false, false, false, false, false, false, false, false, false, false, false, false, false, false] rfl rfl (one_of HT_.out (by kernel_rfl)) (by decide) (fun K hK => ?_)
     refine goes_ Try.func10 (by kernel_rfl) rfl #[.agg #[.int .i64 t279, .int .i64 t280, .int .i64 t281, .slice Ao15 t282.length co15, .bool t285], .agg #[.int .i64 t290, .int .i64 t291, .int .i64 t292, .slice Ao22 t293.length co22, .bool t296]] (by rfl) rfl rfl gl_ ?_
     with_reducible refine (laws_skFop.calls k t279 t280 t281 _ _ t282 t285 t290 t291 t292 _ _ t293 t296 true _ ?side1 ?side2 ?side3 ?side4 A23.out).mono ?_
     (case side1 => exact cN (Kd.R_reads' HO284.out).2.2)
     (case side2 => exact (Kd.R_reads' HO284.out).2.1)
     (case side3 => exact cN (Kd.R_reads' HO295.out).2.2)
     (case side4 => exact (Kd.R_reads' HO295.out).2.1)
     rintro e w48 ⟨rfl, hb⟩
     refine ⟨_, rfl, ?_⟩
     have n0_ := m_ (Kd.R_below (rN HO275.out) hb)
     have n1_ := m_ (Kd.R_below (rN HO284.out) hb)
     have n2_ := m_ (Kd.R_below (rN HO288.out) hb)
     have n3_ := m_ (Kd.R_below (rN HO295.out) hb)
     have n4_ := m_ (Kd.R_below (rN HO299.out) hb)
     have n5_ := m_ (blk_below (kN BK278.out) hb)
     have n6_ := m_ (blk_below (kN BK289.out) hb)
     have n7_ := m_ (blk_below (kN BK300.out) hb)
     have n8_ := m_ (below_step (bN HB.out) hb)
     clear HO275
     clear HO284
     clear HO288
     clear HO295
     clear HO299
     clear BK278
     clear BK289
     clear BK300
     clear HB
     have HO275 := n0_
     have HO284 := n1_
     have HO288 := n2_
     have HO295 := n3_
     have HO299 := n4_
     have BK278 := n5_
     have BK289 := n6_
     have BK300 := n7_
     have HB := n8_
     clear n0_ n1_ n2_ n3_ n4_ n5_ n6_ n7_ n8_
     (try clear hb)
     (try clear hb2)
     (try clear hk)
     (try clear hi)
     obtain ⟨Ao49, co49, eo49⟩ := Kd.R_slice HO288.out
     (first | subst eo49 | (injection eo49 with f1_ f2_ f3_; have f4_ := f1_.symm; have f5_ := f3_.symm; clear f1_ f2_ f3_; subst f4_; subst f5_))
     obtain ⟨Ao50, co50, eo50⟩ := Kd.R_slice HO299.out
     (first | subst eo50 | (injection eo50 with f1_ f2_ f3_; have f4_ := f1_.symm; have f5_ := f3_.symm; clear f1_ f2_ f3_; subst f4_; subst f5_))
     refine hK.out _ _ ⟨bc BK289 0, bc BK289 1, bc BK289 2, bc BK289 3, bc BK289 4, bc BK300 0, bc BK300 1, bc BK300 2, bc BK300 3, bc BK300 4⟩ (fun hHeld => ?_)
     clear hK K
     refine np (h := ?_)
     refine pu 3 32 HT_ (h := ?_)
     refine pu 4 33 HT_ (h := ?_)
     refine pu 5 34 HT_ (h := ?_)
     refine pu 6 35 HT_ (h := ?_)
     refine one_ (i := 7) (N := some 36) #[true, true, true, true, true, true, true, true, false, false, false, false, false, false, false, false, false, false, false, false, false, false] rfl rfl (one_of HT_.out (by kernel_rfl)) (by decide) (fun K hK => ?_)
     refine goes_ Try.func11 (by kernel_rfl) rfl #[.slice Ao49 t286.length co49, .slice Ao50 t297.length co50] (by rfl) rfl rfl gl_ ?_
     with_reducible refine (laws_skFrames.calls k _ _ t286 _ _ t297 false _ ?side1 ?side2 ?side3 ?side4 A25.out).mono ?_
     (case side1 => exact cN (Kd.R_reads' HO288.out).2.2)
     (case side2 => exact (Kd.R_reads' HO288.out).2.1)
     (case side3 => exact cN (Kd.R_reads' HO299.out).2.2)
     (case side4 => exact (Kd.R_reads' HO299.out).2.1)
     rintro e w' ⟨rfl, ⟨nd, rfl⟩⟩
     refine ⟨_, rfl, ?_⟩
     refine hK.out _ _ ⟨bc BK289 0, bc BK289 1, bc BK289 2, bc BK289 3, bc BK289 4, bc BK300 0, bc BK300 1, bc BK300 2, bc BK300 3, bc BK300 4⟩ (fun hHeld => ?_)
     clear hK K
     refine np (h := ?_)
     refine pu 8 37 HT_ (h := ?_)
     refine pu 9 38 HT_ (h := ?_)
     refine pu 10 39 HT_ (h := ?_)
     refine pv 11 40 HT_ (h := ?_)
     refine pv 12 41 HT_ (h := ?_)
     refine pv 13 42 HT_ (h := ?_)
     refine pv 14 43 HT_ (h := ?_)
     refine pv 15 44 HT_ (h := ?_)
     refine pu 16 45 HT_ (h := ?_)
     refine pu 17 46 HT_ (h := ?_)
     refine pv 18 47 HT_ (h := ?_)
     refine pv 19 48 HT_ (h := ?_)
     refine pv 20 49 HT_ (h := ?_)
     refine pu 21 50 HT_ (h := ?_)
     refine done_ (done_of HT_.out (by kernel_rfl)) ?_
     try go_wp2
     go_meet
     case rel => exact ⟨_, (true), (by first | rfl | (simp; done) | (simp [*]; done)), H', ⟨by first | omega | exact Nat.le_refl _⟩, ⟨by (with_reducible repeat (first | apply Kd.R_alloc | apply Kd.R_drewN | apply Kd.R_drew)); exact HO288.out⟩, ⟨by (with_reducible repeat (first | apply Kd.R_alloc | apply Kd.R_drewN | apply Kd.R_drew)); exact HO299.out⟩, ⟨by (with_reducible repeat (first | apply Kd.R_alloc | apply Kd.R_drewN | apply Kd.R_drew)); exact HO275.out⟩, ⟨by (with_reducible repeat (first | apply Kd.R_alloc | apply Kd.R_drewN | apply Kd.R_drew)); exact HO284.out⟩, ⟨by (with_reducible repeat (first | apply Kd.R_alloc | apply Kd.R_drewN | apply Kd.R_drew)); exact HO295.out⟩, ⟨kN BK278.out⟩, ⟨kN BK289.out⟩, ⟨kN BK300.out⟩, ⟨by repeat (first | (with_reducible first | exact HB.out | apply below_alloc | apply pw_below_drewN | apply below_drew1 | refine below_set ?_ GE278.out | refine below_set ?_ GE289.out | refine below_set ?_ GE300.out) | exact HB.out)⟩⟩
   ·replace c24 := Bool.eq_false_iff.mpr c24
    subst c24
    have H1 : (laws_FnFopSend.j0 k t277 t286 t297 true t270 t271 t272 t273 t276 t279 t280 t281 t282 t285 t290 t291 t292 t293 t296) = some r := by rw [if_neg (show ¬ (false = true) by decide)] at H; exact H
    clear H
    have H := H1
    clear H1
    have H' := Aside0.mk H
    clear H
    try go_wp2
    have n0_ : Aside0 (Kd.R Kd.string 9 (((((w18.setCell ⟨gb300, 0, none⟩ (.int .i64 t290)).setCell ⟨gb300, 1, none⟩ (.int .i64 t291)).setCell ⟨gb300, 2, none⟩ (.int .i64 t292)).setCell ⟨gb300, 3, none⟩ (.slice Ao22 t293.length co22)).setCell ⟨gb300, 4, none⟩ (.bool t296)) w.heap.size (fun k_ => nb Ao15 t282.length co15 k_ ∧ nb Ao22 t293.length co22 k_) (.slice Ao10 t273.length co10) t273) := ⟨by (with_reducible repeat (first | apply Kd.R_alloc | apply Kd.R_drewN | apply Kd.R_drew)); exact frM (Kd.R_types HO275.out BK300.out (by decide))⟩
    have n1_ : Aside0 (Kd.R Kd.string 9 (((((w18.setCell ⟨gb300, 0, none⟩ (.int .i64 t290)).setCell ⟨gb300, 1, none⟩ (.int .i64 t291)).setCell ⟨gb300, 2, none⟩ (.int .i64 t292)).setCell ⟨gb300, 3, none⟩ (.slice Ao22 t293.length co22)).setCell ⟨gb300, 4, none⟩ (.bool t296)) w.heap.size (fun k_ => nb Ao10 t273.length co10 k_ ∧ nb Ao22 t293.length co22 k_) (.slice Ao15 t282.length co15) t282) := ⟨by (with_reducible repeat (first | apply Kd.R_alloc | apply Kd.R_drewN | apply Kd.R_drew)); exact frM (Kd.R_types HO284.out BK300.out (by decide))⟩
    have n2_ : Aside0 (Kd.R k35 35 (((((w18.setCell ⟨gb300, 0, none⟩ (.int .i64 t290)).setCell ⟨gb300, 1, none⟩ (.int .i64 t291)).setCell ⟨gb300, 2, none⟩ (.int .i64 t292)).setCell ⟨gb300, 3, none⟩ (.slice Ao22 t293.length co22)).setCell ⟨gb300, 4, none⟩ (.bool t296)) w.heap.size (fun k_ => some k_ ≠ (v298 : Value).ownBlock) v287 t286) := ⟨by (with_reducible repeat (first | apply Kd.R_alloc | apply Kd.R_drewN | apply Kd.R_drew)); exact frM (Kd.R_types HO288.out BK300.out (by decide))⟩
    have n3_ : Aside0 (Kd.R Kd.string 9 (((((w18.setCell ⟨gb300, 0, none⟩ (.int .i64 t290)).setCell ⟨gb300, 1, none⟩ (.int .i64 t291)).setCell ⟨gb300, 2, none⟩ (.int .i64 t292)).setCell ⟨gb300, 3, none⟩ (.slice Ao22 t293.length co22)).setCell ⟨gb300, 4, none⟩ (.bool t296)) w.heap.size (fun k_ => nb Ao10 t273.length co10 k_ ∧ nb Ao15 t282.length co15 k_) (.slice Ao22 t293.length co22) t293) := ⟨by (with_reducible repeat (first | apply Kd.R_alloc | apply Kd.R_drewN | apply Kd.R_drew)); exact frM (Kd.R_types HO295.out BK300.out (by decide))⟩
    have n4_ : Aside0 (Kd.R k35 35 (((((w18.setCell ⟨gb300, 0, none⟩ (.int .i64 t290)).setCell ⟨gb300, 1, none⟩ (.int .i64 t291)).setCell ⟨gb300, 2, none⟩ (.int .i64 t292)).setCell ⟨gb300, 3, none⟩ (.slice Ao22 t293.length co22)).setCell ⟨gb300, 4, none⟩ (.bool t296)) w.heap.size (fun k_ => some k_ ≠ (v287 : Value).ownBlock) v298 t297) := ⟨by (with_reducible repeat (first | apply Kd.R_alloc | apply Kd.R_drewN | apply Kd.R_drew)); exact frM (Kd.R_types HO299.out BK300.out (by decide))⟩
    have n5_ : Aside0 ((((((w18.setCell ⟨gb300, 0, none⟩ (.int .i64 t290)).setCell ⟨gb300, 1, none⟩ (.int .i64 t291)).setCell ⟨gb300, 2, none⟩ (.int .i64 t292)).setCell ⟨gb300, 3, none⟩ (.slice Ao22 t293.length co22)).setCell ⟨gb300, 4, none⟩ (.bool t296)).heap[gb278]? = some (.cells #[.int .i64 t270, .int .i64 t271, .int .i64 t272, .slice Ao10 t273.length co10, .bool t276] 25 (0, 0))) := ⟨kF BK278.out NB278_300.out⟩
    have n6_ : Aside0 ((((((w18.setCell ⟨gb300, 0, none⟩ (.int .i64 t290)).setCell ⟨gb300, 1, none⟩ (.int .i64 t291)).setCell ⟨gb300, 2, none⟩ (.int .i64 t292)).setCell ⟨gb300, 3, none⟩ (.slice Ao22 t293.length co22)).setCell ⟨gb300, 4, none⟩ (.bool t296)).heap[gb289]? = some (.cells #[.int .i64 t279, .int .i64 t280, .int .i64 t281, .slice Ao15 t282.length co15, .bool t285] 25 (0, 0))) := ⟨kF BK289.out NB289_300.out⟩
    have n7_ : Aside0 ((((((w18.setCell ⟨gb300, 0, none⟩ (.int .i64 t290)).setCell ⟨gb300, 1, none⟩ (.int .i64 t291)).setCell ⟨gb300, 2, none⟩ (.int .i64 t292)).setCell ⟨gb300, 3, none⟩ (.slice Ao22 t293.length co22)).setCell ⟨gb300, 4, none⟩ (.bool t296)).heap[gb300]? = some (.cells #[.int .i64 t290, .int .i64 t291, .int .i64 t292, .slice Ao22 t293.length co22, .bool t296] 25 (0, 0))) := ⟨kP BK300.out⟩
    have n8_ : Aside0 (Below w.heap.size w (((((w18.setCell ⟨gb300, 0, none⟩ (.int .i64 t290)).setCell ⟨gb300, 1, none⟩ (.int .i64 t291)).setCell ⟨gb300, 2, none⟩ (.int .i64 t292)).setCell ⟨gb300, 3, none⟩ (.slice Ao22 t293.length co22)).setCell ⟨gb300, 4, none⟩ (.bool t296))) := ⟨by repeat (first | (with_reducible first | exact HB.out | apply below_alloc | apply pw_below_drewN | apply below_drew1 | refine below_set ?_ GE278.out | refine below_set ?_ GE289.out | refine below_set ?_ GE300.out) | exact HB.out)⟩
    (try clear HO275)
    (try clear HO284)
    (try clear HO288)
    (try clear HO295)
    (try clear HO299)
    (try clear BK278)
    (try clear BK289)
    (try clear BK300)
    (try clear HB)
    generalize (((((w18.setCell ⟨gb300, 0, none⟩ (.int .i64 t290)).setCell ⟨gb300, 1, none⟩ (.int .i64 t291)).setCell ⟨gb300, 2, none⟩ (.int .i64 t292)).setCell ⟨gb300, 3, none⟩ (.slice Ao22 t293.length co22)).setCell ⟨gb300, 4, none⟩ (.bool t296)) = w51 at n0_ n1_ n2_ n3_ n4_ n5_ n6_ n7_ n8_ ⊢
    have HO275 := n0_
    have HO284 := n1_
    have HO288 := n2_
    have HO295 := n3_
    have HO299 := n4_
    have BK278 := n5_
    have BK289 := n6_
    have BK300 := n7_
    have HB := n8_
    clear n0_ n1_ n2_ n3_ n4_ n5_ n6_ n7_ n8_
    have n0_ := m_ (Kd.R_drew HO275.out)
    have n1_ := m_ (Kd.R_drew HO284.out)
    have n2_ := m_ (Kd.R_drew HO288.out)
    have n3_ := m_ (Kd.R_drew HO295.out)
    have n4_ := m_ (Kd.R_drew HO299.out)
    have n5_ := m_ (blk_drew BK278.out)
    have n6_ := m_ (blk_drew BK289.out)
    have n7_ := m_ (blk_drew BK300.out)
    have n8_ := m_ (below_drew1 HB.out)
    clear HO275
    clear HO284
    clear HO288
    clear HO295
    clear HO299
    clear BK278
    clear BK289
    clear BK300
    clear HB
    have HO275 := n0_
    have HO284 := n1_
    have HO288 := n2_
    have HO295 := n3_
    have HO299 := n4_
    have BK278 := n5_
    have BK289 := n6_
    have BK300 := n7_
    have HB := n8_
    clear n0_ n1_ n2_ n3_ n4_ n5_ n6_ n7_ n8_
    refine start_ (n := 22) (S := fun w' => w'.cell? ⟨gb289, 0, none⟩ = some (.int .i64 t279) ∧ w'.cell? ⟨gb289, 1, none⟩ = some (.int .i64 t280) ∧ w'.cell? ⟨gb289, 2, none⟩ = some (.int .i64 t281) ∧ w'.cell? ⟨gb289, 3, none⟩ = some (.slice Ao15 t282.length co15) ∧ w'.cell? ⟨gb289, 4, none⟩ = some (.bool t285) ∧ w'.cell? ⟨gb300, 0, none⟩ = some (.int .i64 t290) ∧ w'.cell? ⟨gb300, 1, none⟩ = some (.int .i64 t291) ∧ w'.cell? ⟨gb300, 2, none⟩ = some (.int .i64 t292) ∧ w'.cell? ⟨gb300, 3, none⟩ = some (.slice Ao22 t293.length co22) ∧ w'.cell? ⟨gb300, 4, none⟩ = some (.bool t296)) (ds := []) #[false, false, false, false, false, false, false, false, false, false, false, false, false, false, false, false, false, false, false, false, false, false] (by kernel_rfl) rfl rfl ⟨bc BK289 0, bc BK289 1, bc BK289 2, bc BK289 3, bc BK289 4, bc BK300 0, bc BK300 1, bc BK300 2, bc BK300 3, bc BK300 4⟩ (fun hHeld => ?_); refine with_tabW laws_FnFopSend.tab6 laws_FnFopSend.bits6 (fun HT_ HW_ => ?_)
    generalize w51.drew = w52 at HO275 HO284 HO288 HO295 HO299 BK278 BK289 BK300 HB hHeld ⊢
    refine take_ (i := 0) (N := some 29) (v := ?_) (a' := ?_) #[true, false, false, false, false, false, false, false, false, false, false, false, false, false, false, false, false, false, false, false, false, false] rfl rfl (take_ofW HT_.out HW_.out (by kernel_rfl)) (fun _ _ _ h => h) (Or.inl ⟨by rfl, ?_⟩) hHeld ?_ ?_
    rotate_left
    ·rintro w' ⟨s0, s1, s2, s3, s4, s5, s6, s7, s8, s9⟩
     go_simp
     with_reducible rfl
    rotate_left
    ·simp only [Act.put, List.setIfInBounds_toArray, List.set_cons_zero, List.set_cons_succ, i64_w, i32_w]
     rfl
    refine take_ (i := 1) (N := some 30) (v := ?_) (a' := ?_) #[true, true, false, false, false, false, false, false, false, false, false, false, false, false, false, false, false, false, false, false, false, false] rfl rfl (take_ofW HT_.out HW_.out (by kernel_rfl)) (fun _ _ _ h => h) (Or.inl ⟨by rfl, ?_⟩) hHeld ?_ ?_
    rotate_left
    ·rintro w' ⟨s0, s1, s2, s3, s4, s5, s6, s7, s8, s9⟩
     go_simp
     with_reducible rfl
    rotate_left
    ·simp only [Act.put, List.setIfInBounds_toArray, List.set_cons_zero, List.set_cons_succ, i64_w, i32_w]
     rfl
    refine one_ (i := 2) (N := some 31) #[true, true, true, false, false, false, false, false, false, false, false, false, false, false, false, false, false, false, false, false, false, false] rfl rfl (one_of HT_.out (by kernel_rfl)) (by decide) (fun K hK => ?_)
    refine goes_ Try.func10 (by kernel_rfl) rfl #[.agg #[.int .i64 t279, .int .i64 t280, .int .i64 t281, .slice Ao15 t282.length co15, .bool t285], .agg #[.int .i64 t290, .int .i64 t291, .int .i64 t292, .slice Ao22 t293.length co22, .bool t296]] (by rfl) rfl rfl gl_ ?_
    with_reducible refine (laws_skFop.calls k t279 t280 t281 _ _ t282 t285 t290 t291 t292 _ _ t293 t296 false _ ?side1 ?side2 ?side3 ?side4 A23.out).mono ?_
    (case side1 => exact cN (Kd.R_reads' HO284.out).2.2)
    (case side2 => exact (Kd.R_reads' HO284.out).2.1)
    (case side3 => exact cN (Kd.R_reads' HO295.out).2.2)
    (case side4 => exact (Kd.R_reads' HO295.out).2.1)
    rintro e w53 ⟨rfl, hb⟩
    refine ⟨_, rfl, ?_⟩
    have n0_ := m_ (Kd.R_below (rN HO275.out) hb)
    have n1_ := m_ (Kd.R_below (rN HO284.out) hb)
    have n2_ := m_ (Kd.R_below (rN HO288.out) hb)
    have n3_ := m_ (Kd.R_below (rN HO295.out) hb)
    have n4_ := m_ (Kd.R_below (rN HO299.out) hb)
    have n5_ := m_ (blk_below (kN BK278.out) hb)
    have n6_ := m_ (blk_below (kN BK289.out) hb)
    have n7_ := m_ (blk_below (kN BK300.out) hb)
    have n8_ := m_ (below_step (bN HB.out) hb)
    clear HO275
    clear HO284
    clear HO288
    clear HO295
    clear HO299
    clear BK278
    clear BK289
    clear BK300
    clear HB
    have HO275 := n0_
    have HO284 := n1_
    have HO288 := n2_
    have HO295 := n3_
    have HO299 := n4_
    have BK278 := n5_
    have BK289 := n6_
    have BK300 := n7_
    have HB := n8_
    clear n0_ n1_ n2_ n3_ n4_ n5_ n6_ n7_ n8_
    (try clear hb)
    (try clear hb2)
    (try clear hk)
    (try clear hi)
    refine hK.out _ _ ⟨bc BK289 0, bc BK289 1, bc BK289 2, bc BK289 3, bc BK289 4, bc BK300 0, bc BK300 1, bc BK300 2, bc BK300 3, bc BK300 4⟩ (fun hHeld => ?_)
    clear hK K
    refine np (h := ?_)
    refine pu 3 32 HT_ (h := ?_)
    refine pu 4 33 HT_ (h := ?_)
    refine pv 5 34 HT_ (h := ?_)
    refine pv 6 35 HT_ (h := ?_)
    refine pv 7 36 HT_ (h := ?_)
    refine pv 8 37 HT_ (h := ?_)
    refine pu 9 38 HT_ (h := ?_)
    refine pu 10 39 HT_ (h := ?_)
    refine pv 11 40 HT_ (h := ?_)
    refine pv 12 41 HT_ (h := ?_)
    refine pv 13 42 HT_ (h := ?_)
    refine pv 14 43 HT_ (h := ?_)
    refine pv 15 44 HT_ (h := ?_)
    refine pu 16 45 HT_ (h := ?_)
    refine pu 17 46 HT_ (h := ?_)
    refine pv 18 47 HT_ (h := ?_)
    refine pv 19 48 HT_ (h := ?_)
    refine pv 20 49 HT_ (h := ?_)
    refine pu 21 50 HT_ (h := ?_)
    refine done_ (done_of HT_.out (by kernel_rfl)) ?_
    try go_wp2
    go_meet
    case rel => exact ⟨_, (true), (by first | rfl | (simp; done) | (simp [*]; done)), H', ⟨by first | omega | exact Nat.le_refl _⟩, ⟨by (with_reducible repeat (first | apply Kd.R_alloc | apply Kd.R_drewN | apply Kd.R_drew)); exact HO288.out⟩, ⟨by (with_reducible repeat (first | apply Kd.R_alloc | apply Kd.R_drewN | apply Kd.R_drew)); exact HO299.out⟩, ⟨by (with_reducible repeat (first | apply Kd.R_alloc | apply Kd.R_drewN | apply Kd.R_drew)); exact HO275.out⟩, ⟨by (with_reducible repeat (first | apply Kd.R_alloc | apply Kd.R_drewN | apply Kd.R_drew)); exact HO284.out⟩, ⟨by (with_reducible repeat (first | apply Kd.R_alloc | apply Kd.R_drewN | apply Kd.R_drew)); exact HO295.out⟩, ⟨kN BK278.out⟩, ⟨kN BK289.out⟩, ⟨kN BK300.out⟩, ⟨by repeat (first | (with_reducible first | exact HB.out | apply below_alloc | apply pw_below_drewN | apply below_drew1 | refine below_set ?_ GE278.out | refine below_set ?_ GE289.out | refine below_set ?_ GE300.out) | exact HB.out)⟩⟩
  case rest =>
   clear HC6
   try clear c1
   try clear c2
   try clear p2
   try clear c10
   try clear c11
   try clear c13
   try clear c24
   try clear c26
   obtain ⟨kq, x50_5, rfl, HA, HJ5, HO_6, HO_8, HO_279003, HO_290003, HO_301003, BK278, BK289, BK300, HB⟩ := hcut
   cases kq with
   | zero => exact absurd HA.out (by simp [laws_FnFopSend.j0])
   | succ kj5 =>
    have H := HA.out
    clear HA
    simp only [laws_FnFopSend.j0] at H
    by_cases c54 : x50_5 = true
    ·subst c54
     have H1 : ((laws_skFop.f kj5 t279 t280 t281 t282 t285 t290 t291 t292 t293 t296).bind fun t306 => (if t306 = true then ((laws_skFrames.f kj5 t286 t297).bind fun t307 => (some t307)) else (some false))) = some r := by rw [if_pos rfl] at H; exact H
     clear H
     have H := H1
     clear H1
     replace H := Option.bind_eq_some_iff.mp H
     obtain ⟨t306, A550, H⟩ := H
     replace H : (if t306 = true then ((laws_skFrames.f kj5 t286 t297).bind fun t307 => (some t307)) else (some false)) = some r := H
     have A55 := Aside0.mk A550
     clear A550
     by_cases c56 : t306 = true
     ·subst c56
      have H1 : ((laws_skFrames.f kj5 t286 t297).bind fun t307 => (some t307)) = some r := by rw [if_pos rfl] at H; exact H
      clear H
      have H := H1
      clear H1
      replace H := Option.bind_eq_some_iff.mp H
      obtain ⟨t307, A570, H⟩ := H
      replace H : (some t307) = some r := H
      have A57 := Aside0.mk A570
      clear A570
      obtain rfl := Option.some.inj H
      have hnb58 := NB289_278.out
      have hnc58 := NB278_289.out
      have hnb59 := NB289_300.out
      have hnc59 := NB300_289.out
      have hcz60_0 : wc.cell? ⟨gb289, 0, none⟩ = some (.int .i64 t279) := bc BK289 0
      have hcz60_1 : wc.cell? ⟨gb289, 1, none⟩ = some (.int .i64 t280) := bc BK289 1
      have hcz60_2 : wc.cell? ⟨gb289, 2, none⟩ = some (.int .i64 t281) := bc BK289 2
      have hcz60_3 : wc.cell? ⟨gb289, 3, none⟩ = some (.slice Ao15 t282.length co15) := bc BK289 3
      have hcz60_4 : wc.cell? ⟨gb289, 4, none⟩ = some (.bool t285) := bc BK289 4
      have hfz60_0 := blk_frozen BK289.out 0
      have hfz60_1 := blk_frozen BK289.out 1
      have hfz60_2 := blk_frozen BK289.out 2
      have hfz60_3 := blk_frozen BK289.out 3
      have hfz60_4 := blk_frozen BK289.out 4
      have hnb61 := NB300_278.out
      have hnc61 := NB278_300.out
      have hcz62_0 : wc.cell? ⟨gb300, 0, none⟩ = some (.int .i64 t290) := bc BK300 0
      have hcz62_1 : wc.cell? ⟨gb300, 1, none⟩ = some (.int .i64 t291) := bc BK300 1
      have hcz62_2 : wc.cell? ⟨gb300, 2, none⟩ = some (.int .i64 t292) := bc BK300 2
      have hcz62_3 : wc.cell? ⟨gb300, 3, none⟩ = some (.slice Ao22 t293.length co22) := bc BK300 3
      have hcz62_4 : wc.cell? ⟨gb300, 4, none⟩ = some (.bool t296) := bc BK300 4
      have hfz62_0 := blk_frozen BK300.out 0
      have hfz62_1 := blk_frozen BK300.out 1
      have hfz62_2 := blk_frozen BK300.out 2
      have hfz62_3 := blk_frozen BK300.out 3
      have hfz62_4 := blk_frozen BK300.out 4
      go_wp2_with (first | ((with_reducible refine gate_callee (f := 10) rfl ?_); refine goesL_ (some 53) rfl rfl Try.func10 (by kernel_rfl) rfl #[.agg #[.int .i64 t279, .int .i64 t280, .int .i64 t281, .slice Ao15 t282.length co15, .bool t285], .agg #[.int .i64 t290, .int .i64 t291, .int .i64 t292, .slice Ao22 t293.length co22, .bool t296]] rfl gl_ ?_; (with_reducible refine (laws_skFop.calls kj5 t279 t280 t281 _ _ t282 t285 t290 t291 t292 _ _ t293 t296 true _ ?side1 ?side2 ?side3 ?side4 A55.out).mono ?_); (case side1 => exact cN (Kd.R_reads' HO_290003.out).2.2); (case side2 => exact (Kd.R_reads' HO_290003.out).2.1); (case side3 => exact cN (Kd.R_reads' HO_301003.out).2.2); (case side4 => exact (Kd.R_reads' HO_301003.out).2.1); rintro e w63 ⟨rfl, hb⟩; refine ⟨_, rfl, ?_⟩; have n0_ := m_ (Kd.R_below (rN HO_6.out) hb); have n1_ := m_ (Kd.R_below (rN HO_8.out) hb); have n2_ := m_ (Kd.R_below (rN HO_279003.out) hb); have n3_ := m_ (Kd.R_below (rN HO_290003.out) hb); have n4_ := m_ (Kd.R_below (rN HO_301003.out) hb); have n5_ := m_ (blk_below (kN BK278.out) hb); have n6_ := m_ (blk_below (kN BK289.out) hb); have n7_ := m_ (blk_below (kN BK300.out) hb); have n8_ := m_ (below_step (bN HB.out) hb); clear HO_6; clear HO_8; clear HO_279003; clear HO_290003; clear HO_301003; clear BK278; clear BK289; clear BK300; clear HB; have HO_6 := n0_; have HO_8 := n1_; have HO_279003 := n2_; have HO_290003 := n3_; have HO_301003 := n4_; have BK278 := n5_; have BK289 := n6_; have BK300 := n7_; have HB := n8_; clear n0_ n1_ n2_ n3_ n4_ n5_ n6_ n7_ n8_; (try clear hb); (try clear hb2); (try clear hk); (try clear hi); obtain ⟨Ao64, co64, eo64⟩ := Kd.R_slice HO_6.out; subst eo64; obtain ⟨Ao65, co65, eo65⟩ := Kd.R_slice HO_8.out; subst eo65) | (go_at_call 11; (with_reducible refine (laws_skFrames.calls kj5 _ _ t286 _ _ t297 t307 _ ?side1 ?side2 ?side3 ?side4 A57.out).mono ?_); (case side1 => exact cN (Kd.R_reads' HO_6.out).2.2); (case side2 => exact (Kd.R_reads' HO_6.out).2.1); (case side3 => exact cN (Kd.R_reads' HO_8.out).2.2); (case side4 => exact (Kd.R_reads' HO_8.out).2.1); rintro e w' ⟨rfl, ⟨nd, rfl⟩⟩))
      go_ret
      exact ⟨by first | rfl | (simp [errW_none, errW_some] <;> rfl) | (simp [*, errW_none, errW_some] <;> rfl), by repeat (first | (with_reducible first | exact HB.out | apply below_alloc | apply pw_below_drewN | apply below_drew1 | refine below_set ?_ GE278.out | refine below_set ?_ GE289.out | refine below_set ?_ GE300.out) | exact HB.out)⟩
     ·replace c56 := Bool.eq_false_iff.mpr c56
      subst c56
      have H1 : (some false) = some r := by rw [if_neg (show ¬ (false = true) by decide)] at H; exact H
      clear H
      have H := H1
      clear H1
      obtain rfl := Option.some.inj H
      have hnb66 := NB289_278.out
      have hnc66 := NB278_289.out
      have hnb67 := NB289_300.out
      have hnc67 := NB300_289.out
      have hcz68_0 : wc.cell? ⟨gb289, 0, none⟩ = some (.int .i64 t279) := bc BK289 0
      have hcz68_1 : wc.cell? ⟨gb289, 1, none⟩ = some (.int .i64 t280) := bc BK289 1
      have hcz68_2 : wc.cell? ⟨gb289, 2, none⟩ = some (.int .i64 t281) := bc BK289 2
      have hcz68_3 : wc.cell? ⟨gb289, 3, none⟩ = some (.slice Ao15 t282.length co15) := bc BK289 3
      have hcz68_4 : wc.cell? ⟨gb289, 4, none⟩ = some (.bool t285) := bc BK289 4
      have hfz68_0 := blk_frozen BK289.out 0
      have hfz68_1 := blk_frozen BK289.out 1
      have hfz68_2 := blk_frozen BK289.out 2
      have hfz68_3 := blk_frozen BK289.out 3
      have hfz68_4 := blk_frozen BK289.out 4
      have hnb69 := NB300_278.out
      have hnc69 := NB278_300.out
      have hcz70_0 : wc.cell? ⟨gb300, 0, none⟩ = some (.int .i64 t290) := bc BK300 0
      have hcz70_1 : wc.cell? ⟨gb300, 1, none⟩ = some (.int .i64 t291) := bc BK300 1
      have hcz70_2 : wc.cell? ⟨gb300, 2, none⟩ = some (.int .i64 t292) := bc BK300 2
      have hcz70_3 : wc.cell? ⟨gb300, 3, none⟩ = some (.slice Ao22 t293.length co22) := bc BK300 3
      have hcz70_4 : wc.cell? ⟨gb300, 4, none⟩ = some (.bool t296) := bc BK300 4
      have hfz70_0 := blk_frozen BK300.out 0
      have hfz70_1 := blk_frozen BK300.out 1
      have hfz70_2 := blk_frozen BK300.out 2
      have hfz70_3 := blk_frozen BK300.out 3
      have hfz70_4 := blk_frozen BK300.out 4
      go_wp2_with (first | ((with_reducible refine gate_callee (f := 10) rfl ?_); refine goesL_ (some 53) rfl rfl Try.func10 (by kernel_rfl) rfl #[.agg #[.int .i64 t279, .int .i64 t280, .int .i64 t281, .slice Ao15 t282.length co15, .bool t285], .agg #[.int .i64 t290, .int .i64 t291, .int .i64 t292, .slice Ao22 t293.length co22, .bool t296]] rfl gl_ ?_; (with_reducible refine (laws_skFop.calls kj5 t279 t280 t281 _ _ t282 t285 t290 t291 t292 _ _ t293 t296 false _ ?side1 ?side2 ?side3 ?side4 A55.out).mono ?_); (case side1 => exact cN (Kd.R_reads' HO_290003.out).2.2); (case side2 => exact (Kd.R_reads' HO_290003.out).2.1); (case side3 => exact cN (Kd.R_reads' HO_301003.out).2.2); (case side4 => exact (Kd.R_reads' HO_301003.out).2.1); rintro e w71 ⟨rfl, hb⟩; refine ⟨_, rfl, ?_⟩; have n0_ := m_ (Kd.R_below (rN HO_6.out) hb); have n1_ := m_ (Kd.R_below (rN HO_8.out) hb); have n2_ := m_ (Kd.R_below (rN HO_279003.out) hb); have n3_ := m_ (Kd.R_below (rN HO_290003.out) hb); have n4_ := m_ (Kd.R_below (rN HO_301003.out) hb); have n5_ := m_ (blk_below (kN BK278.out) hb); have n6_ := m_ (blk_below (kN BK289.out) hb); have n7_ := m_ (blk_below (kN BK300.out) hb); have n8_ := m_ (below_step (bN HB.out) hb); clear HO_6; clear HO_8; clear HO_279003; clear HO_290003; clear HO_301003; clear BK278; clear BK289; clear BK300; clear HB; have HO_6 := n0_; have HO_8 := n1_; have HO_279003 := n2_; have HO_290003 := n3_; have HO_301003 := n4_; have BK278 := n5_; have BK289 := n6_; have BK300 := n7_; have HB := n8_; clear n0_ n1_ n2_ n3_ n4_ n5_ n6_ n7_ n8_; (try clear hb); (try clear hb2); (try clear hk); (try clear hi)))
      go_ret
      exact ⟨by first | rfl | (simp [errW_none, errW_some] <;> rfl) | (simp [*, errW_none, errW_some] <;> rfl), by repeat (first | (with_reducible first | exact HB.out | apply below_alloc | apply pw_below_drewN | apply below_drew1 | refine below_set ?_ GE278.out | refine below_set ?_ GE289.out | refine below_set ?_ GE300.out) | exact HB.out)⟩
    ·replace c54 := Bool.eq_false_iff.mpr c54
     subst c54
     have H1 : (if (t286.length : Int) = 0 then ((laws_skFop.f kj5 t279 t280 t281 t282 t285 t270 t271 t272 t273 t276).bind fun t308 => (some t308)) else (if (t286.length : Int) = 1 then (if 0 < (t286.length : Int) then (if ((rd_T35 t286 0).f4) = t272 then (if ((rd_T35 t286 0).f5).toList = t277.toList then (if ((rd_T35 t286 0).f0 = true) then (some false) else ((impl_FopOk.f kj5 t279 t280 t281 t282 t285).bind fun t312 => (if t312 = true then (if (t282.length : Int) = (wrap64 ((t273.length : Int) + 1)) then (if (t282.length : Int) ≤ 4 then ((impl_FopFirst.f kj5 t279 t280 t281 t282 t285).bind fun t313 => ((impl_FopFirst.f kj5 t270 t271 t272 t273 t276).bind fun t314 => (some (t313 == t314)))) else (some false)) else (some false)) else (some false)))) else (some false)) else (some false)) else (none)) else (some false))) = some r := by rw [if_neg (show ¬ (false = true) by decide)] at H; exact H
     clear H
     have H := H1
     clear H1
     by_cases c72 : (t286.length : Int) = 0
     ·rw [if_pos c72] at H
      have c72b0 : ((t286.length : Int) == 0) = true := beq_iff_eq.mpr c72
      have c72b1 : ((t286.length : Int) != 0) = false := bne_eq_false_iff_eq.mpr c72
      clear c72
      replace H := Option.bind_eq_some_iff.mp H
      obtain ⟨t308, A730, H⟩ := H
      replace H : (some t308) = some r := H
      have A73 := Aside0.mk A730
      clear A730
      obtain rfl := Option.some.inj H
      obtain ⟨Ao74, co74, eo74⟩ := Kd.R_slice HO_6.out
      subst eo74
      have hnb75 := NB289_278.out
      have hnc75 := NB278_289.out
      have hnb76 := NB289_300.out
      have hnc76 := NB300_289.out
      have hcz77_0 : wc.cell? ⟨gb289, 0, none⟩ = some (.int .i64 t279) := bc BK289 0
      have hcz77_1 : wc.cell? ⟨gb289, 1, none⟩ = some (.int .i64 t280) := bc BK289 1
      have hcz77_2 : wc.cell? ⟨gb289, 2, none⟩ = some (.int .i64 t281) := bc BK289 2
      have hcz77_3 : wc.cell? ⟨gb289, 3, none⟩ = some (.slice Ao15 t282.length co15) := bc BK289 3
      have hcz77_4 : wc.cell? ⟨gb289, 4, none⟩ = some (.bool t285) := bc BK289 4
      have hfz77_0 := blk_frozen BK289.out 0
      have hfz77_1 := blk_frozen BK289.out 1
      have hfz77_2 := blk_frozen BK289.out 2
      have hfz77_3 := blk_frozen BK289.out 3
      have hfz77_4 := blk_frozen BK289.out 4
      have hnb78 := NB278_300.out
      have hnc78 := NB300_278.out
      have hcz79_0 : wc.cell? ⟨gb278, 0, none⟩ = some (.int .i64 t270) := bc BK278 0
      have hcz79_1 : wc.cell? ⟨gb278, 1, none⟩ = some (.int .i64 t271) := bc BK278 1
      have hcz79_2 : wc.cell? ⟨gb278, 2, none⟩ = some (.int .i64 t272) := bc BK278 2
      have hcz79_3 : wc.cell? ⟨gb278, 3, none⟩ = some (.slice Ao10 t273.length co10) := bc BK278 3
      have hcz79_4 : wc.cell? ⟨gb278, 4, none⟩ = some (.bool t276) := bc BK278 4
      have hfz79_0 := blk_frozen BK278.out 0
      have hfz79_1 := blk_frozen BK278.out 1
      have hfz79_2 := blk_frozen BK278.out 2
      have hfz79_3 := blk_frozen BK278.out 3
      have hfz79_4 := blk_frozen BK278.out 4
      go_wp2_with (first | ((with_reducible refine gate_callee (f := 10) rfl ?_); refine goesL_ (some 64) rfl rfl Try.func10 (by kernel_rfl) rfl #[.agg #[.int .i64 t279, .int .i64 t280, .int .i64 t281, .slice Ao15 t282.length co15, .bool t285], .agg #[.int .i64 t270, .int .i64 t271, .int .i64 t272, .slice Ao10 t273.length co10, .bool t276]] rfl gl_ ?_; (with_reducible refine (laws_skFop.calls kj5 t279 t280 t281 _ _ t282 t285 t270 t271 t272 _ _ t273 t276 t308 _ ?side1 ?side2 ?side3 ?side4 A73.out).mono ?_); (case side1 => exact cN (Kd.R_reads' HO_290003.out).2.2); (case side2 => exact (Kd.R_reads' HO_290003.out).2.1); (case side3 => exact cN (Kd.R_reads' HO_279003.out).2.2); (case side4 => exact (Kd.R_reads' HO_279003.out).2.1); rintro e w80 ⟨rfl, hb⟩; refine ⟨_, rfl, ?_⟩; have n0_ := m_ (Kd.R_below (rN HO_6.out) hb); have n1_ := m_ (Kd.R_below (rN HO_8.out) hb); have n2_ := m_ (Kd.R_below (rN HO_279003.out) hb); have n3_ := m_ (Kd.R_below (rN HO_290003.out) hb); have n4_ := m_ (Kd.R_below (rN HO_301003.out) hb); have n5_ := m_ (blk_below (kN BK278.out) hb); have n6_ := m_ (blk_below (kN BK289.out) hb); have n7_ := m_ (blk_below (kN BK300.out) hb); have n8_ := m_ (below_step (bN HB.out) hb); clear HO_6; clear HO_8; clear HO_279003; clear HO_290003; clear HO_301003; clear BK278; clear BK289; clear BK300; clear HB; have HO_6 := n0_; have HO_8 := n1_; have HO_279003 := n2_; have HO_290003 := n3_; have HO_301003 := n4_; have BK278 := n5_; have BK289 := n6_; have BK300 := n7_; have HB := n8_; clear n0_ n1_ n2_ n3_ n4_ n5_ n6_ n7_ n8_; (try clear hb); (try clear hb2); (try clear hk); (try clear hi)))
      go_ret
      exact ⟨by first | rfl | (simp [errW_none, errW_some] <;> rfl) | (simp [*, errW_none, errW_some] <;> rfl), by repeat (first | (with_reducible first | exact HB.out | apply below_alloc | apply pw_below_drewN | apply below_drew1 | refine below_set ?_ GE278.out | refine below_set ?_ GE289.out | refine below_set ?_ GE300.out) | exact HB.out)⟩
     ·rw [if_neg c72] at H
      have c72b0 : ((t286.length : Int) == 0) = false := beq_eq_false_iff_ne.mpr c72
      have c72b1 : ((t286.length : Int) != 0) = true := bne_iff_ne.mpr c72
      have c72b2 : ¬ (t286 = []) := fun h_ => c72 (by rw [h_]; rfl)
      by_cases c81 : (t286.length : Int) = 1
      ·rw [if_pos c81] at H
       have c81b0 : ((t286.length : Int) == 1) = true := beq_iff_eq.mpr c81
       have c81b1 : ((t286.length : Int) != 1) = false := bne_eq_false_iff_eq.mpr c81
       clear c81
       by_cases c82 : 0 < (t286.length : Int)
       ·rw [if_pos c82] at H
        have c82b0 : decide (0 < (t286.length : Int)) = true := decide_eq_true c82
        have c82b1 : decide (0 < t286.length) = true := decide_eq_true (by omega)
        clear c82
        by_cases c83 : ((rd_T35 t286 0).f4) = t272
        ·rw [if_pos c83] at H
         have c83b0 : (((rd_T35 t286 0).f4) == t272) = true := beq_iff_eq.mpr c83
         have c83b1 : (((rd_T35 t286 0).f4) != t272) = false := bne_eq_false_iff_eq.mpr c83
         clear c83
         by_cases c84 : ((rd_T35 t286 0).f5).toList = t277.toList
         ·rw [if_pos c84] at H
          have c84b0 : (((rd_T35 t286 0).f5).toList == t277.toList) = true := beq_iff_eq.mpr c84
          have c84b1 : (((rd_T35 t286 0).f5).toList != t277.toList) = false := bne_eq_false_iff_eq.mpr c84
          clear c84
          obtain ⟨bq85, hbq85⟩ : ∃ b_ : Bool, b_ = ((rd_T35 t286 0).f0) := ⟨_, rfl⟩
          replace H : (if (bq85 = true) then (some false) else ((impl_FopOk.f kj5 t279 t280 t281 t282 t285).bind fun t312 => (if t312 = true then (if (t282.length : Int) = (wrap64 ((t273.length : Int) + 1)) then (if (t282.length : Int) ≤ 4 then ((impl_FopFirst.f kj5 t279 t280 t281 t282 t285).bind fun t313 => ((impl_FopFirst.f kj5 t270 t271 t272 t273 t276).bind fun t314 => (some (t313 == t314)))) else (some false)) else (some false)) else (some false)))) = some r := by rw [← hbq85] at H; exact H
          have Nbq85 := Aside0.mk hbq85
          clear hbq85
          by_cases c86 : (bq85 = true)
          ·subst c86
           have H1 : (some false) = some r := by rw [if_pos rfl] at H; exact H
           clear H
           have H := H1
           clear H1
           obtain rfl := Option.some.inj H
           obtain ⟨Ao87, co87, eo87⟩ := Kd.R_slice HO_6.out
           subst eo87
           try go_wp2
           have n0_ := m_ (Kd.R_drew HO_6.out)
           have n1_ := m_ (Kd.R_drew HO_8.out)
           have n2_ := m_ (Kd.R_drew HO_279003.out)
           have n3_ := m_ (Kd.R_drew HO_290003.out)
           have n4_ := m_ (Kd.R_drew HO_301003.out)
           have n5_ := m_ (blk_drew BK278.out)
           have n6_ := m_ (blk_drew BK289.out)
           have n7_ := m_ (blk_drew BK300.out)
           have n8_ := m_ (below_drew1 HB.out)
           clear HO_6
           clear HO_8
           clear HO_279003
           clear HO_290003
           clear HO_301003
           clear BK278
           clear BK289
           clear BK300
           clear HB
           have HO_6 := n0_
           have HO_8 := n1_
           have HO_279003 := n2_
           have HO_290003 := n3_
           have HO_301003 := n4_
           have BK278 := n5_
           have BK289 := n6_
           have BK300 := n7_
           have HB := n8_
           clear n0_ n1_ n2_ n3_ n4_ n5_ n6_ n7_ n8_
           have p309 : 0 ≤ (0 : Int) := (by omega)
           have q309 : 0 < (t286.length : Int) := of_decide_eq_true (by first | (with_reducible assumption) | assumption)
           obtain ⟨ad309, e309, hx309_0, hx309_1, hx309_2, hx309_3, hx309_4, hx309_5⟩ := at_T35 (Kd.R_reads' HO_6.out).2.2 0 p309 q309
           (try rw [← Nbq85.out] at hx309_0)
           (try rw [← Nbq85.out] at hx309_1)
           cases e309
           have qi309 : (0 < t286.length) = True := eq_true (by omega)
           (try rw [show ((0 : Int)).toNat = 0 from rfl] at hx309_0)
           (try rw [show 0 * 6 = 0 from rfl] at hx309_0)
           (try rw [Addr.add_zero'] at hx309_0)
           (try rw [show ((0 : Int)).toNat = 0 from rfl] at hx309_1)
           (try rw [show 0 * 6 = 0 from rfl] at hx309_1)
           (try rw [Addr.add_zero'] at hx309_1)
           (try rw [show ((0 : Int)).toNat = 0 from rfl] at hx309_2)
           (try rw [show 0 * 6 = 0 from rfl] at hx309_2)
           (try rw [Addr.add_zero'] at hx309_2)
           (try rw [show ((0 : Int)).toNat = 0 from rfl] at hx309_3)
           (try rw [show 0 * 6 = 0 from rfl] at hx309_3)
           (try rw [Addr.add_zero'] at hx309_3)
           (try rw [show ((0 : Int)).toNat = 0 from rfl] at hx309_4)
           (try rw [show 0 * 6 = 0 from rfl] at hx309_4)
           (try rw [Addr.add_zero'] at hx309_4)
           (try rw [show ((0 : Int)).toNat = 0 from rfl] at hx309_5)
           (try rw [show 0 * 6 = 0 from rfl] at hx309_5)
           (try rw [Addr.add_zero'] at hx309_5)
           replace p309 := eq_true p309
           replace q309 := eq_true q309
           have p310 : 0 ≤ (0 : Int) := (by omega)
           have q310 : 0 < (t286.length : Int) := of_decide_eq_true (by first | (with_reducible assumption) | assumption)
           obtain ⟨ad310, e310, hx310_0, hx310_1, hx310_2, hx310_3, hx310_4, hx310_5⟩ := at_T35 (Kd.R_reads' HO_6.out).2.2 0 p310 q310
           (try rw [← Nbq85.out] at hx310_0)
           (try rw [← Nbq85.out] at hx310_1)
           obtain rfl : ad309 = ad310 := (by injection e310)
           have qi310 : (0 < t286.length) = True := eq_true (by omega)
           (try rw [show ((0 : Int)).toNat = 0 from rfl] at hx310_0)
           (try rw [show 0 * 6 = 0 from rfl] at hx310_0)
           (try rw [Addr.add_zero'] at hx310_0)
           (try rw [show ((0 : Int)).toNat = 0 from rfl] at hx310_1)
           (try rw [show 0 * 6 = 0 from rfl] at hx310_1)
           (try rw [Addr.add_zero'] at hx310_1)
           (try rw [show ((0 : Int)).toNat = 0 from rfl] at hx310_2)
           (try rw [show 0 * 6 = 0 from rfl] at hx310_2)
           (try rw [Addr.add_zero'] at hx310_2)
           (try rw [show ((0 : Int)).toNat = 0 from rfl] at hx310_3)
           (try rw [show 0 * 6 = 0 from rfl] at hx310_3)
           (try rw [Addr.add_zero'] at hx310_3)
           (try rw [show ((0 : Int)).toNat = 0 from rfl] at hx310_4)
           (try rw [show 0 * 6 = 0 from rfl] at hx310_4)
           (try rw [Addr.add_zero'] at hx310_4)
           (try rw [show ((0 : Int)).toNat = 0 from rfl] at hx310_5)
           (try rw [show 0 * 6 = 0 from rfl] at hx310_5)
           (try rw [Addr.add_zero'] at hx310_5)
           replace p310 := eq_true p310
           replace q310 := eq_true q310
           have p311 : 0 ≤ (0 : Int) := (by omega)
           have q311 : 0 < (t286.length : Int) := of_decide_eq_true (by first | (with_reducible assumption) | assumption)
           obtain ⟨ad311, e311, hx311_0, hx311_1, hx311_2, hx311_3, hx311_4, hx311_5⟩ := at_T35 (Kd.R_reads' HO_6.out).2.2 0 p311 q311
           (try rw [← Nbq85.out] at hx311_0)
           (try rw [← Nbq85.out] at hx311_1)
           obtain rfl : ad309 = ad311 := (by injection e311)
           have qi311 : (0 < t286.length) = True := eq_true (by omega)
           (try rw [show ((0 : Int)).toNat = 0 from rfl] at hx311_0)
           (try rw [show 0 * 6 = 0 from rfl] at hx311_0)
           (try rw [Addr.add_zero'] at hx311_0)
           (try rw [show ((0 : Int)).toNat = 0 from rfl] at hx311_1)
           (try rw [show 0 * 6 = 0 from rfl] at hx311_1)
           (try rw [Addr.add_zero'] at hx311_1)
           (try rw [show ((0 : Int)).toNat = 0 from rfl] at hx311_2)
           (try rw [show 0 * 6 = 0 from rfl] at hx311_2)
           (try rw [Addr.add_zero'] at hx311_2)
           (try rw [show ((0 : Int)).toNat = 0 from rfl] at hx311_3)
           (try rw [show 0 * 6 = 0 from rfl] at hx311_3)
           (try rw [Addr.add_zero'] at hx311_3)
           (try rw [show ((0 : Int)).toNat = 0 from rfl] at hx311_4)
           (try rw [show 0 * 6 = 0 from rfl] at hx311_4)
           (try rw [Addr.add_zero'] at hx311_4)
           (try rw [show ((0 : Int)).toNat = 0 from rfl] at hx311_5)
           (try rw [show 0 * 6 = 0 from rfl] at hx311_5)
           (try rw [Addr.add_zero'] at hx311_5)
           replace p311 := eq_true p311
           replace q311 := eq_true q311
           refine start_ (n := 55) (S := fun w' => w'.cell? ⟨gb278, 0, none⟩ = some (.int .i64 t270) ∧ w'.cell? ⟨gb278, 1, none⟩ = some (.int .i64 t271) ∧ w'.cell? ⟨gb278, 2, none⟩ = some (.int .i64 t272) ∧ w'.cell? ⟨gb278, 3, none⟩ = some (.slice Ao10 t273.length co10) ∧ w'.cell? ⟨gb278, 4, none⟩ = some (.bool t276) ∧ w'.cell? ad309 = some (.bool true) ∧ w'.cell? ⟨ad309.block, ad309.off + 1, none⟩ = some (.bool ((rd_T35 t286 0).f1)) ∧ w'.cell? ⟨ad309.block, ad309.off + 2, none⟩ = some (.int .i64 ((rd_T35 t286 0).f2)) ∧ w'.cell? ⟨ad309.block, ad309.off + 3, none⟩ = some (.int .i64 ((rd_T35 t286 0).f3)) ∧ w'.cell? ⟨ad309.block, ad309.off + 4, none⟩ = some (.int .i64 ((rd_T35 t286 0).f4)) ∧ w'.cell? ⟨ad309.block, ad309.off + 5, none⟩ = some (.string ((rd_T35 t286 0).f5)) ∧ w'.cell? ad309 = some (.bool true) ∧ w'.cell? ⟨ad309.block, ad309.off + 1, none⟩ = some (.bool ((rd_T35 t286 0).f1)) ∧ w'.cell? ⟨ad309.block, ad309.off + 2, none⟩ = some (.int .i64 ((rd_T35 t286 0).f2)) ∧ w'.cell? ⟨ad309.block, ad309.off + 3, none⟩ = some (.int .i64 ((rd_T35 t286 0).f3)) ∧ w'.cell? ⟨ad309.block, ad309.off + 4, none⟩ = some (.int .i64 ((rd_T35 t286 0).f4)) ∧ w'.cell? ⟨ad309.block, ad309.off + 5, none⟩ = some (.string ((rd_T35 t286 0).f5)) ∧ w'.cell? ad309 = some (.bool true) ∧ w'.cell? ⟨ad309.block, ad309.off + 1, none⟩ = some (.bool ((rd_T35 t286 0).f1)) ∧ w'.cell? ⟨ad309.block, ad309.off + 2, none⟩ = some (.int .i64 ((rd_T35 t286 0).f2)) ∧ w'.cell? ⟨ad309.block, ad309.off + 3, none⟩ = some (.int .i64 ((rd_T35 t286 0).f3)) ∧ w'.cell? ⟨ad309.block, ad309.off + 4, none⟩ = some (.int .i64 ((rd_T35 t286 0).f4)) ∧ w'.cell? ⟨ad309.block, ad309.off + 5, none⟩ = some (.string ((rd_T35 t286 0).f5))) (ds := []) #[false, false, false, false, false, false, false, false, false, false, false, false, false, false, false, false, false, false, false, false, false, false, false, false, false, false, false, false, false, false, false, false, false, false, false, false, false, false, false, false, false, false, false, false, false, false, false, false, false, false, false, false, false, false, false] (by kernel_rfl) rfl rfl ⟨bc BK278 0, bc BK278 1, bc BK278 2, bc BK278 3, bc BK278 4, hx309_0, hx309_1, hx309_2, hx309_3, hx309_4, hx309_5, hx310_0, hx310_1, hx310_2, hx310_3, hx310_4, hx310_5, hx311_0, hx311_1, hx311_2, hx311_3, hx311_4, hx311_5⟩ (fun hHeld => ?_); refine with_tabW laws_FnFopSend.tab10 laws_FnFopSend.bits10 (fun HT_ HW_ => ?_)
           generalize wc.drew = w88 at HO_6 HO_8 HO_279003 HO_290003 HO_301003 BK278 BK289 BK300 HB hx309_0 hx309_1 hx309_2 hx309_3 hx309_4 hx309_5 hx310_0 hx310_1 hx310_2 hx310_3 hx310_4 hx310_5 hx311_0 hx311_1 hx311_2 hx311_3 hx311_4 hx311_5 hHeld ⊢
           refine pu 0 65 HT_ (h := ?_)
           refine pu 1 66 HT_ (h := ?_)
           refine pu 2 67 HT_ (h := ?_)
           refine pu 3 68 HT_ (h := ?_)
           refine pu 4 69 HT_ (h := ?_)
           refine pu 5 70 HT_ (h := ?_)
           refine pu 6 71 HT_ (h := ?_)
           refine pu 8 73 HT_ (h := ?_)
           refine take_ (i := 7) (N := some 72) (v := ?_) (a' := ?_) #[true, true, true, true, true, true, true, true, true, false, false, false, false, false, false, false, false, false, false, false, false, false, false, false, false, false, false, false, false, false, false, false, false, false, false, false, false, false, false, false, false, false, false, false, false, false, false, false, false, false, false, false, false, false, false] rfl rfl (take_ofW HT_.out HW_.out (by kernel_rfl)) (fun _ _ _ h => h) (Or.inl ⟨by rfl, ?_⟩) hHeld ?_ ?_
           rotate_left
           ·rintro w' ⟨s0, s1, s2, s3, s4, s5, s6, s7, s8, s9, s10, s11, s12, s13, s14, s15, s16, s17, s18, s19, s20, s21, s22⟩
            go_simp
            with_reducible rfl
           rotate_left
           ·simp only [Act.put, List.setIfInBounds_toArray, List.set_cons_zero, List.set_cons_succ, i64_w, i32_w]
            rfl
           refine take_ (i := 9) (N := some 74) (v := ?_) (a' := ?_) #[true, true, true, true, true, true, true, true, true, true, false, false, false, false, false, false, false, false, false, false, false, false, false, false, false, false, false, false, false, false, false, false, false, false, false, false, false, false, false, false, false, false, false, false, false, false, false, false, false, false, false, false, false, false, false] rfl rfl (take_ofW HT_.out HW_.out (by kernel_rfl)) (fun _ _ _ h => h) (Or.inl ⟨by rfl, ?_⟩) hHeld ?_ ?_
           rotate_left
           ·rintro w' ⟨s0, s1, s2, s3, s4, s5, s6, s7, s8, s9, s10, s11, s12, s13, s14, s15, s16, s17, s18, s19, s20, s21, s22⟩
            go_simp
            with_reducible rfl
           rotate_left
           ·simp only [Act.put, List.setIfInBounds_toArray, List.set_cons_zero, List.set_cons_succ, i64_w, i32_w]
            rfl
           refine pu 10 75 HT_ (h := ?_)
           refine pu 11 76 HT_ (h := ?_)
           refine pu 12 77 HT_ (h := ?_)
           refine pu 13 78 HT_ (h := ?_)
           refine pu 14 79 HT_ (h := ?_)
           refine pu 15 80 HT_ (h := ?_)
           refine pu 17 82 HT_ (h := ?_)
           refine take_ (i := 16) (N := some 81) (v := ?_) (a' := ?_) #[true, true, true, true, true, true, true, true, true, true, true, true, true, true, true, true, true, true, false, false, false, false, false, false, false, false, false, false, false, false, false, false, false, false, false, false, false, false, false, false, false, false, false, false, false, false, false, false, false, false, false, false, false, false, false] rfl rfl (take_ofW HT_.out HW_.out (by kernel_rfl)) (fun _ _ _ h => h) (Or.inl ⟨by rfl, ?_⟩) hHeld ?_ ?_
           rotate_left
           ·rintro w' ⟨s0, s1, s2, s3, s4, s5, s6, s7, s8, s9, s10, s11, s12, s13, s14, s15, s16, s17, s18, s19, s20, s21, s22⟩
            go_simp
            with_reducible rfl
           rotate_left
           ·simp only [Act.put, List.setIfInBounds_toArray, List.set_cons_zero, List.set_cons_succ, i64_w, i32_w]
            rfl
           refine pu 18 83 HT_ (h := ?_)
           refine pu 19 84 HT_ (h := ?_)
           refine pu 20 85 HT_ (h := ?_)
           refine pu 21 86 HT_ (h := ?_)
           refine pu 22 87 HT_ (h := ?_)
           refine pu 23 88 HT_ (h := ?_)
           refine take_ (i := 24) (N := some 89) (v := ?_) (a' := ?_) #[true, true, true, true, true, true, true, true, true, true, true, true, true, true, true, true, true, true, true, true, true, true, true, true, true, false, false, false, false, false, false, false, false, false, false, false, false, false, false, false, false, false, false, false, false, false, false, false, false, false, false, false, false, false, false] rfl rfl (take_ofW HT_.out HW_.out (by kernel_rfl)) (fun _ _ _ h => h) (Or.inl ⟨by rfl, ?_⟩) hHeld ?_ ?_
           rotate_left
           ·rintro w' ⟨s0, s1, s2, s3, s4, s5, s6, s7, s8, s9, s10, s11, s12, s13, s14, s15, s16, s17, s18, s19, s20, s21, s22⟩
            go_simp
            with_reducible rfl
           rotate_left
           ·simp only [Act.put, List.setIfInBounds_toArray, List.set_cons_zero, List.set_cons_succ, i64_w, i32_w]
            rfl
           refine pu 25 90 HT_ (h := ?_)
           refine pu 26 91 HT_ (h := ?_)
           refine pu 27 92 HT_ (h := ?_)
           refine pv 28 93 HT_ (h := ?_)
           refine pv 29 94 HT_ (h := ?_)
           refine pu 30 95 HT_ (h := ?_)
           refine pu 31 96 HT_ (h := ?_)
           refine pv 32 97 HT_ (h := ?_)
           refine pv 33 98 HT_ (h := ?_)
           refine pv 34 99 HT_ (h := ?_)
           refine pv 35 100 HT_ (h := ?_)
           refine pv 36 101 HT_ (h := ?_)
           refine pv 37 102 HT_ (h := ?_)
           refine pv 38 103 HT_ (h := ?_)
           refine pv 39 104 HT_ (h := ?_)
           refine pu 40 105 HT_ (h := ?_)
           refine pu 41 106 HT_ (h := ?_)
           refine pv 42 107 HT_ (h := ?_)
           refine pv 43 108 HT_ (h := ?_)
           refine pv 44 109 HT_ (h := ?_)
           refine pv 45 110 HT_ (h := ?_)
           refine pu 46 111 HT_ (h := ?_)
           refine pu 47 112 HT_ (h := ?_)
           refine pv 48 113 HT_ (h := ?_)
           refine pv 49 114 HT_ (h := ?_)
           refine pv 50 115 HT_ (h := ?_)
           refine pv 51 116 HT_ (h := ?_)
           refine pv 52 117 HT_ (h := ?_)
           refine pu 53 118 HT_ (h := ?_)
           refine pu 54 2 HT_ (h := ?_)
           refine done_ (done_of HT_.out (by kernel_rfl)) ?_
           try go_wp2
           go_ret
           exact ⟨by first | rfl | (simp [errW_none, errW_some] <;> rfl) | (simp [*, errW_none, errW_some] <;> rfl), by repeat (first | (with_reducible first | exact HB.out | apply below_alloc | apply pw_below_drewN | apply below_drew1 | refine below_set ?_ GE278.out | refine below_set ?_ GE289.out | refine below_set ?_ GE300.out) | exact HB.out)⟩
          ·replace c86 := Bool.eq_false_iff.mpr c86
           subst c86
           have H1 : ((impl_FopOk.f kj5 t279 t280 t281 t282 t285).bind fun t312 => (if t312 = true then (if (t282.length : Int) = (wrap64 ((t273.length : Int) + 1)) then (if (t282.length : Int) ≤ 4 then ((impl_FopFirst.f kj5 t279 t280 t281 t282 t285).bind fun t313 => ((impl_FopFirst.f kj5 t270 t271 t272 t273 t276).bind fun t314 => (some (t313 == t314)))) else (some false)) else (some false)) else (some false))) = some r := by rw [if_neg (show ¬ (false = true) by decide)] at H; exact H
           clear H
           have H := H1
           clear H1
           replace H := Option.bind_eq_some_iff.mp H
           obtain ⟨t312, A890, H⟩ := H
           replace H : (if t312 = true then (if (t282.length : Int) = (wrap64 ((t273.length : Int) + 1)) then (if (t282.length : Int) ≤ 4 then ((impl_FopFirst.f kj5 t279 t280 t281 t282 t285).bind fun t313 => ((impl_FopFirst.f kj5 t270 t271 t272 t273 t276).bind fun t314 => (some (t313 == t314)))) else (some false)) else (some false)) else (some false)) = some r := H
           have A89 := Aside0.mk A890
           clear A890
           by_cases c90 : t312 = true
           ·subst c90
            have H1 : (if (t282.length : Int) = (wrap64 ((t273.length : Int) + 1)) then (if (t282.length : Int) ≤ 4 then ((impl_FopFirst.f kj5 t279 t280 t281 t282 t285).bind fun t313 => ((impl_FopFirst.f kj5 t270 t271 t272 t273 t276).bind fun t314 => (some (t313 == t314)))) else (some false)) else (some false)) = some r := by rw [if_pos rfl] at H; exact H
            clear H
            have H := H1
            clear H1
            by_cases c91 : (t282.length : Int) = (wrap64 ((t273.length : Int) + 1))
            ·rw [if_pos c91] at H
             have c91b0 : ((t282.length : Int) == (wrap64 ((t273.length : Int) + 1))) = true := beq_iff_eq.mpr c91
             have c91b1 : ((t282.length : Int) != (wrap64 ((t273.length : Int) + 1))) = false := bne_eq_false_iff_eq.mpr c91
             clear c91
             by_cases c92 : (t282.length : Int) ≤ 4
             ·rw [if_pos c92] at H
              have c92b0 : decide ((t282.length : Int) ≤ 4) = true := decide_eq_true c92
              have c92b1 : decide (t282.length ≤ 4) = true := decide_eq_true (by omega)
              clear c92
              replace H := Option.bind_eq_some_iff.mp H
              obtain ⟨t313, A930, H⟩ := H
              replace H : ((impl_FopFirst.f kj5 t270 t271 t272 t273 t276).bind fun t314 => (some (t313 == t314))) = some r := H
              have A93 := Aside0.mk A930
              clear A930
              replace H := Option.bind_eq_some_iff.mp H
              obtain ⟨t314, A940, H⟩ := H
              replace H : (some (t313 == t314)) = some r := H
              have A94 := Aside0.mk A940
              clear A940
              obtain rfl := Option.some.inj H
              obtain ⟨Ao95, co95, eo95⟩ := Kd.R_slice HO_6.out
              subst eo95
              try go_wp2
              have n0_ := m_ (Kd.R_drew HO_6.out)
              have n1_ := m_ (Kd.R_drew HO_8.out)
              have n2_ := m_ (Kd.R_drew HO_279003.out)
              have n3_ := m_ (Kd.R_drew HO_290003.out)
              have n4_ := m_ (Kd.R_drew HO_301003.out)
              have n5_ := m_ (blk_drew BK278.out)
              have n6_ := m_ (blk_drew BK289.out)
              have n7_ := m_ (blk_drew BK300.out)
              have n8_ := m_ (below_drew1 HB.out)
              clear HO_6
              clear HO_8
              clear HO_279003
              clear HO_290003
              clear HO_301003
              clear BK278
              clear BK289
              clear BK300
              clear HB
              have HO_6 := n0_
              have HO_8 := n1_
              have HO_279003 := n2_
              have HO_290003 := n3_
              have HO_301003 := n4_
              have BK278 := n5_
              have BK289 := n6_
              have BK300 := n7_
              have HB := n8_
              clear n0_ n1_ n2_ n3_ n4_ n5_ n6_ n7_ n8_
              have p309 : 0 ≤ (0 : Int) := (by omega)
              have q309 : 0 < (t286.length : Int) := of_decide_eq_true (by first | (with_reducible assumption) | assumption)
              obtain ⟨ad309, e309, hx309_0, hx309_1, hx309_2, hx309_3, hx309_4, hx309_5⟩ := at_T35 (Kd.R_reads' HO_6.out).2.2 0 p309 q309
              (try rw [← Nbq85.out] at hx309_0)
              (try rw [← Nbq85.out] at hx309_1)
              cases e309
              have qi309 : (0 < t286.length) = True := eq_true (by omega)
              (try rw [show ((0 : Int)).toNat = 0 from rfl] at hx309_0)
              (try rw [show 0 * 6 = 0 from rfl] at hx309_0)
              (try rw [Addr.add_zero'] at hx309_0)
              (try rw [show ((0 : Int)).toNat = 0 from rfl] at hx309_1)
              (try rw [show 0 * 6 = 0 from rfl] at hx309_1)
              (try rw [Addr.add_zero'] at hx309_1)
              (try rw [show ((0 : Int)).toNat = 0 from rfl] at hx309_2)
              (try rw [show 0 * 6 = 0 from rfl] at hx309_2)
              (try rw [Addr.add_zero'] at hx309_2)
              (try rw [show ((0 : Int)).toNat = 0 from rfl] at hx309_3)
              (try rw [show 0 * 6 = 0 from rfl] at hx309_3)
              (try rw [Addr.add_zero'] at hx309_3)
              (try rw [show ((0 : Int)).toNat = 0 from rfl] at hx309_4)
              (try rw [show 0 * 6 = 0 from rfl] at hx309_4)
              (try rw [Addr.add_zero'] at hx309_4)
              (try rw [show ((0 : Int)).toNat = 0 from rfl] at hx309_5)
              (try rw [show 0 * 6 = 0 from rfl] at hx309_5)
              (try rw [Addr.add_zero'] at hx309_5)
              replace p309 := eq_true p309
              replace q309 := eq_true q309
              have p310 : 0 ≤ (0 : Int) := (by omega)
              have q310 : 0 < (t286.length : Int) := of_decide_eq_true (by first | (with_reducible assumption) | assumption)
              obtain ⟨ad310, e310, hx310_0, hx310_1, hx310_2, hx310_3, hx310_4, hx310_5⟩ := at_T35 (Kd.R_reads' HO_6.out).2.2 0 p310 q310
              (try rw [← Nbq85.out] at hx310_0)
              (try rw [← Nbq85.out] at hx310_1)
              obtain rfl : ad309 = ad310 := (by injection e310)
              have qi310 : (0 < t286.length) = True := eq_true (by omega)
              (try rw [show ((0 : Int)).toNat = 0 from rfl] at hx310_0)
              (try rw [show 0 * 6 = 0 from rfl] at hx310_0)
              (try rw [Addr.add_zero'] at hx310_0)
              (try rw [show ((0 : Int)).toNat = 0 from rfl] at hx310_1)
              (try rw [show 0 * 6 = 0 from rfl] at hx310_1)
              (try rw [Addr.add_zero'] at hx310_1)
              (try rw [show ((0 : Int)).toNat = 0 from rfl] at hx310_2)
              (try rw [show 0 * 6 = 0 from rfl] at hx310_2)
              (try rw [Addr.add_zero'] at hx310_2)
              (try rw [show ((0 : Int)).toNat = 0 from rfl] at hx310_3)
              (try rw [show 0 * 6 = 0 from rfl] at hx310_3)
              (try rw [Addr.add_zero'] at hx310_3)
              (try rw [show ((0 : Int)).toNat = 0 from rfl] at hx310_4)
              (try rw [show 0 * 6 = 0 from rfl] at hx310_4)
              (try rw [Addr.add_zero'] at hx310_4)
              (try rw [show ((0 : Int)).toNat = 0 from rfl] at hx310_5)
              (try rw [show 0 * 6 = 0 from rfl] at hx310_5)
              (try rw [Addr.add_zero'] at hx310_5)
              replace p310 := eq_true p310
              replace q310 := eq_true q310
              have p311 : 0 ≤ (0 : Int) := (by omega)
              have q311 : 0 < (t286.length : Int) := of_decide_eq_true (by first | (with_reducible assumption) | assumption)
              obtain ⟨ad311, e311, hx311_0, hx311_1, hx311_2, hx311_3, hx311_4, hx311_5⟩ := at_T35 (Kd.R_reads' HO_6.out).2.2 0 p311 q311
              (try rw [← Nbq85.out] at hx311_0)
              (try rw [← Nbq85.out] at hx311_1)
              obtain rfl : ad309 = ad311 := (by injection e311)
              have qi311 : (0 < t286.length) = True := eq_true (by omega)
              (try rw [show ((0 : Int)).toNat = 0 from rfl] at hx311_0)
              (try rw [show 0 * 6 = 0 from rfl] at hx311_0)
              (try rw [Addr.add_zero'] at hx311_0)
              (try rw [show ((0 : Int)).toNat = 0 from rfl] at hx311_1)
              (try rw [show 0 * 6 = 0 from rfl] at hx311_1)
              (try rw [Addr.add_zero'] at hx311_1)
              (try rw [show ((0 : Int)).toNat = 0 from rfl] at hx311_2)
              (try rw [show 0 * 6 = 0 from rfl] at hx311_2)
              (try rw [Addr.add_zero'] at hx311_2)
              (try rw [show ((0 : Int)).toNat = 0 from rfl] at hx311_3)
              (try rw [show 0 * 6 = 0 from rfl] at hx311_3)
              (try rw [Addr.add_zero'] at hx311_3)
              (try rw [show ((0 : Int)).toNat = 0 from rfl] at hx311_4)
              (try rw [show 0 * 6 = 0 from rfl] at hx311_4)
              (try rw [Addr.add_zero'] at hx311_4)
              (try rw [show ((0 : Int)).toNat = 0 from rfl] at hx311_5)
              (try rw [show 0 * 6 = 0 from rfl] at hx311_5)
              (try rw [Addr.add_zero'] at hx311_5)
              replace p311 := eq_true p311
              replace q311 := eq_true q311
              refine start_ (n := 55) (S := fun w' => w'.cell? ⟨gb278, 0, none⟩ = some (.int .i64 t270) ∧ w'.cell? ⟨gb278, 1, none⟩ = some (.int .i64 t271) ∧ w'.cell? ⟨gb278, 2, none⟩ = some (.int .i64 t272) ∧ w'.cell? ⟨gb278, 3, none⟩ = some (.slice Ao10 t273.length co10) ∧ w'.cell? ⟨gb278, 4, none⟩ = some (.bool t276) ∧ w'.cell? ⟨gb289, 0, none⟩ = some (.int .i64 t279) ∧ w'.cell? ⟨gb289, 1, none⟩ = some (.int .i64 t280) ∧ w'.cell? ⟨gb289, 2, none⟩ = some (.int .i64 t281) ∧ w'.cell? ⟨gb289, 3, none⟩ = some (.slice Ao15 t282.length co15) ∧ w'.cell? ⟨gb289, 4, none⟩ = some (.bool t285) ∧ w'.cell? ad309 = some (.bool false) ∧ w'.cell? ⟨ad309.block, ad309.off + 1, none⟩ = some (.bool ((rd_T35 t286 0).f1)) ∧ w'.cell? ⟨ad309.block, ad309.off + 2, none⟩ = some (.int .i64 ((rd_T35 t286 0).f2)) ∧ w'.cell? ⟨ad309.block, ad309.off + 3, none⟩ = some (.int .i64 ((rd_T35 t286 0).f3)) ∧ w'.cell? ⟨ad309.block, ad309.off + 4, none⟩ = some (.int .i64 ((rd_T35 t286 0).f4)) ∧ w'.cell? ⟨ad309.block, ad309.off + 5, none⟩ = some (.string ((rd_T35 t286 0).f5)) ∧ w'.cell? ad309 = some (.bool false) ∧ w'.cell? ⟨ad309.block, ad309.off + 1, none⟩ = some (.bool ((rd_T35 t286 0).f1)) ∧ w'.cell? ⟨ad309.block, ad309.off + 2, none⟩ = some (.int .i64 ((rd_T35 t286 0).f2)) ∧ w'.cell? ⟨ad309.block, ad309.off + 3, none⟩ = some (.int .i64 ((rd_T35 t286 0).f3)) ∧ w'.cell? ⟨ad309.block, ad309.off + 4, none⟩ = some (.int .i64 ((rd_T35 t286 0).f4)) ∧ w'.cell? ⟨ad309.block, ad309.off + 5, none⟩ = some (.string ((rd_T35 t286 0).f5)) ∧ w'.cell? ad309 = some (.bool false) ∧ w'.cell? ⟨ad309.block, ad309.off + 1, none⟩ = some (.bool ((rd_T35 t286 0).f1)) ∧ w'.cell? ⟨ad309.block, ad309.off + 2, none⟩ = some (.int .i64 ((rd_T35 t286 0).f2)) ∧ w'.cell? ⟨ad309.block, ad309.off + 3, none⟩ = some (.int .i64 ((rd_T35 t286 0).f3)) ∧ w'.cell? ⟨ad309.block, ad309.off + 4, none⟩ = some (.int .i64 ((rd_T35 t286 0).f4)) ∧ w'.cell? ⟨ad309.block, ad309.off + 5, none⟩ = some (.string ((rd_T35 t286 0).f5))) (ds := []) #[false, false, false, false, false, false, false, false, false, false, false, false, false, false, false, false, false, false, false, false, false, false, false, false, false, false, false, false, false, false, false, false, false, false, false, false, false, false, false, false, false, false, false, false, false, false, false, false, false, false, false, false, false, false, false] (by kernel_rfl) rfl rfl ⟨bc BK278 0, bc BK278 1, bc BK278 2, bc BK278 3, bc BK278 4, bc BK289 0, bc BK289 1, bc BK289 2, bc BK289 3, bc BK289 4, hx309_0, hx309_1, hx309_2, hx309_3, hx309_4, hx309_5, hx310_0, hx310_1, hx310_2, hx310_3, hx310_4, hx310_5, hx311_0, hx311_1, hx311_2, hx311_3, hx311_4, hx311_5⟩ (fun hHeld => ?_); refine with_tabW laws_FnFopSend.tab10 laws_FnFopSend.bits10 (fun HT_ HW_ => ?_)
              generalize wc.drew = w96 at HO_6 HO_8 HO_279003 HO_290003 HO_301003 BK278 BK289 BK300 HB hx309_0 hx309_1 hx309_2 hx309_3 hx309_4 hx309_5 hx310_0 hx310_1 hx310_2 hx310_3 hx310_4 hx310_5 hx311_0 hx311_1 hx311_2 hx311_3 hx311_4 hx311_5 hHeld ⊢
              refine pu 0 65 HT_ (h := ?_)
              refine pu 1 66 HT_ (h := ?_)
              refine pu 2 67 HT_ (h := ?_)
              refine pu 3 68 HT_ (h := ?_)
              refine pu 4 69 HT_ (h := ?_)
              refine pu 5 70 HT_ (h := ?_)
              refine pu 6 71 HT_ (h := ?_)
              refine pu 8 73 HT_ (h := ?_)
              refine take_ (i := 7) (N := some 72) (v := ?_) (a' := ?_) #[true, true, true, true, true, true, true, true, true, false, false, false, false, false, false, false, false, false, false, false, false, false, false, false, false, false, false, false, false, false, false, false, false, false, false, false, false, false, false, false, false, false, false, false, false, false, false, false, false, false, false, false, false, false, false] rfl rfl (take_ofW HT_.out HW_.out (by kernel_rfl)) (fun _ _ _ h => h) (Or.inl ⟨by rfl, ?_⟩) hHeld ?_ ?_
              rotate_left
              ·rintro w' ⟨s0, s1, s2, s3, s4, s5, s6, s7, s8, s9, s10, s11, s12, s13, s14, s15, s16, s17, s18, s19, s20, s21, s22, s23, s24, s25, s26, s27⟩
               go_simp
               with_reducible rfl
              rotate_left
              ·simp only [Act.put, List.setIfInBounds_toArray, List.set_cons_zero, List.set_cons_succ, i64_w, i32_w]
               rfl
              refine take_ (i := 9) (N := some 74) (v := ?_) (a' := ?_) #[true, true, true, true, true, true, true, true, true, true, false, false, false, false, false, false, false, false, false, false, false, false, false, false, false, false, false, false, false, false, false, false, false, false, false, false, false, false, false, false, false, false, false, false, false, false, false, false, false, false, false, false, false, false, false] rfl rfl (take_ofW HT_.out HW_.out (by kernel_rfl)) (fun _ _ _ h => h) (Or.inl ⟨by rfl, ?_⟩) hHeld ?_ ?_
              rotate_left
              ·rintro w' ⟨s0, s1, s2, s3, s4, s5, s6, s7, s8, s9, s10, s11, s12, s13, s14, s15, s16, s17, s18, s19, s20, s21, s22, s23, s24, s25, s26, s27⟩
               go_simp
               with_reducible rfl
              rotate_left
              ·simp only [Act.put, List.setIfInBounds_toArray, List.set_cons_zero, List.set_cons_succ, i64_w, i32_w]
               rfl
              refine pu 10 75 HT_ (h := ?_)
              refine pu 11 76 HT_ (h := ?_)
              refine pu 12 77 HT_ (h := ?_)
              refine pu 13 78 HT_ (h := ?_)
              refine pu 14 79 HT_ (h := ?_)
              refine pu 15 80 HT_ (h := ?_)
              refine pu 17 82 HT_ (h := ?_)
              refine take_ (i := 16) (N := some 81) (v := ?_) (a' := ?_) #[true, true, true, true, true, true, true, true, true, true, true, true, true, true, true, true, true, true, false, false, false, false, false, false, false, false, false, false, false, false, false, false, false, false, false, false, false, false, false, false, false, false, false, false, false, false, false, false, false, false, false, false, false, false, false] rfl rfl (take_ofW HT_.out HW_.out (by kernel_rfl)) (fun _ _ _ h => h) (Or.inl ⟨by rfl, ?_⟩) hHeld ?_ ?_
              rotate_left
              ·rintro w' ⟨s0, s1, s2, s3, s4, s5, s6, s7, s8, s9, s10, s11, s12, s13, s14, s15, s16, s17, s18, s19, s20, s21, s22, s23, s24, s25, s26, s27⟩
               go_simp
               with_reducible rfl
              rotate_left
              ·simp only [Act.put, List.setIfInBounds_toArray, List.set_cons_zero, List.set_cons_succ, i64_w, i32_w]
               rfl
              refine pu 18 83 HT_ (h := ?_)
              refine pu 19 84 HT_ (h := ?_)
              refine pu 20 85 HT_ (h := ?_)
              refine pu 21 86 HT_ (h := ?_)
              refine pu 22 87 HT_ (h := ?_)
              refine pu 23 88 HT_ (h := ?_)
              refine take_ (i := 24) (N := some 89) (v := ?_) (a' := ?_) #[true, true, true, true, true, true, true, true, true, true, true, true, true, true, true, true, true, true, true, true, true, true, true, true, true, false, false, false, false, false, false, false, false, false, false, false, false, false, false, false, false, false, false, false, false, false, false, false, false, false, false, false, false, false, false] rfl rfl (take_ofW HT_.out HW_.out (by kernel_rfl)) (fun _ _ _ h => h) (Or.inl ⟨by rfl, ?_⟩) hHeld ?_ ?_
              rotate_left
              ·rintro w' ⟨s0, s1, s2, s3, s4, s5, s6, s7, s8, s9, s10, s11, s12, s13, s14, s15, s16, s17, s18, s19, s20, s21, s22, s23, s24, s25, s26, s27⟩
               go_simp
               with_reducible rfl
              rotate_left
              ·simp only [Act.put, List.setIfInBounds_toArray, List.set_cons_zero, List.set_cons_succ, i64_w, i32_w]
               rfl
              refine pu 25 90 HT_ (h := ?_)
              refine pu 26 91 HT_ (h := ?_)
              refine pu 27 92 HT_ (h := ?_)
              refine take_ (i := 28) (N := some 93) (v := ?_) (a' := ?_) #[true, true, true, true, true, true, true, true, true, true, true, true, true, true, true, true, true, true, true, true, true, true, true, true, true, true, true, true, true, false, false, false, false, false, false, false, false, false, false, false, false, false, false, false, false, false, false, false, false, false, false, false, false, false, false] rfl rfl (take_ofW HT_.out HW_.out (by kernel_rfl)) (fun _ _ _ h => h) (Or.inl ⟨by rfl, ?_⟩) hHeld ?_ ?_
              rotate_left
              ·rintro w' ⟨s0, s1, s2, s3, s4, s5, s6, s7, s8, s9, s10, s11, s12, s13, s14, s15, s16, s17, s18, s19, s20, s21, s22, s23, s24, s25, s26, s27⟩
               go_simp
               with_reducible rfl
              rotate_left
              ·simp only [Act.put, List.setIfInBounds_toArray, List.set_cons_zero, List.set_cons_succ, i64_w, i32_w]
               rfl
              refine one_ (i := 29) (N := some 94) #[true, true, true, true, true, true, true, true, true, true, true, true, true, true, true, true, true, true, true, true, true, true, true, true, true, true, true, true, true, true, false, false, false, false, false, false, false, false, false, false, false, false, false, false, false, false, false, false, false, false, false, false, false, false, false] rfl rfl (one_of HT_.out (by kernel_rfl)) (by decide) (fun K hK => ?_)
              refine goes_ Try.func12 (by kernel_rfl) rfl #[.agg #[.int .i64 t279, .int .i64 t280, .int .i64 t281, .slice Ao15 t282.length co15, .bool t285]] (by rfl) rfl rfl gl_ ?_
              with_reducible refine (impl_FopOk.calls kj5 t279 t280 t281 _ _ t282 t285 true _ ?side1 ?side2 A89.out).mono ?_
              (case side1 => exact cN (Kd.R_reads' HO_290003.out).2.2)
              (case side2 => exact (Kd.R_reads' HO_290003.out).2.1)
              rintro e w97 ⟨rfl, hb⟩
              have HS10_ := (hb.cell (World.block_lt_of_cell? _ _ (hHeld.2.2.2.2.2.2.2.2.2.2.1))).trans (hHeld.2.2.2.2.2.2.2.2.2.2.1)
              have HS11_ := (hb.cell (World.block_lt_of_cell? _ _ (hHeld.2.2.2.2.2.2.2.2.2.2.2.1))).trans (hHeld.2.2.2.2.2.2.2.2.2.2.2.1)
              have HS12_ := (hb.cell (World.block_lt_of_cell? _ _ (hHeld.2.2.2.2.2.2.2.2.2.2.2.2.1))).trans (hHeld.2.2.2.2.2.2.2.2.2.2.2.2.1)
              have HS13_ := (hb.cell (World.block_lt_of_cell? _ _ (hHeld.2.2.2.2.2.2.2.2.2.2.2.2.2.1))).trans (hHeld.2.2.2.2.2.2.2.2.2.2.2.2.2.1)
              have HS14_ := (hb.cell (World.block_lt_of_cell? _ _ (hHeld.2.2.2.2.2.2.2.2.2.2.2.2.2.2.1))).trans (hHeld.2.2.2.2.2.2.2.2.2.2.2.2.2.2.1)
              have HS15_ := (hb.cell (World.block_lt_of_cell? _ _ (hHeld.2.2.2.2.2.2.2.2.2.2.2.2.2.2.2.1))).trans (hHeld.2.2.2.2.2.2.2.2.2.2.2.2.2.2.2.1)
              have HS16_ := (hb.cell (World.block_lt_of_cell? _ _ (hHeld.2.2.2.2.2.2.2.2.2.2.2.2.2.2.2.2.1))).trans (hHeld.2.2.2.2.2.2.2.2.2.2.2.2.2.2.2.2.1)
              have HS17_ := (hb.cell (World.block_lt_of_cell? _ _ (hHeld.2.2.2.2.2.2.2.2.2.2.2.2.2.2.2.2.2.1))).trans (hHeld.2.2.2.2.2.2.2.2.2.2.2.2.2.2.2.2.2.1)
              have HS18_ := (hb.cell (World.block_lt_of_cell? _ _ (hHeld.2.2.2.2.2.2.2.2.2.2.2.2.2.2.2.2.2.2.1))).trans (hHeld.2.2.2.2.2.2.2.2.2.2.2.2.2.2.2.2.2.2.1)
              have HS19_ := (hb.cell (World.block_lt_of_cell? _ _ (hHeld.2.2.2.2.2.2.2.2.2.2.2.2.2.2.2.2.2.2.2.1))).trans (hHeld.2.2.2.2.2.2.2.2.2.2.2.2.2.2.2.2.2.2.2.1)
              have HS20_ := (hb.cell (World.block_lt_of_cell? _ _ (hHeld.2.2.2.2.2.2.2.2.2.2.2.2.2.2.2.2.2.2.2.2.1))).trans (hHeld.2.2.2.2.2.2.2.2.2.2.2.2.2.2.2.2.2.2.2.2.1)
              have HS21_ := (hb.cell (World.block_lt_of_cell? _ _ (hHeld.2.2.2.2.2.2.2.2.2.2.2.2.2.2.2.2.2.2.2.2.2.1))).trans (hHeld.2.2.2.2.2.2.2.2.2.2.2.2.2.2.2.2.2.2.2.2.2.1)
              have HS22_ := (hb.cell (World.block_lt_of_cell? _ _ (hHeld.2.2.2.2.2.2.2.2.2.2.2.2.2.2.2.2.2.2.2.2.2.2.1))).trans (hHeld.2.2.2.2.2.2.2.2.2.2.2.2.2.2.2.2.2.2.2.2.2.2.1)
              have HS23_ := (hb.cell (World.block_lt_of_cell? _ _ (hHeld.2.2.2.2.2.2.2.2.2.2.2.2.2.2.2.2.2.2.2.2.2.2.2.1))).trans (hHeld.2.2.2.2.2.2.2.2.2.2.2.2.2.2.2.2.2.2.2.2.2.2.2.1)
              have HS24_ := (hb.cell (World.block_lt_of_cell? _ _ (hHeld.2.2.2.2.2.2.2.2.2.2.2.2.2.2.2.2.2.2.2.2.2.2.2.2.1))).trans (hHeld.2.2.2.2.2.2.2.2.2.2.2.2.2.2.2.2.2.2.2.2.2.2.2.2.1)
              have HS25_ := (hb.cell (World.block_lt_of_cell? _ _ (hHeld.2.2.2.2.2.2.2.2.2.2.2.2.2.2.2.2.2.2.2.2.2.2.2.2.2.1))).trans (hHeld.2.2.2.2.2.2.2.2.2.2.2.2.2.2.2.2.2.2.2.2.2.2.2.2.2.1)
              have HS26_ := (hb.cell (World.block_lt_of_cell? _ _ (hHeld.2.2.2.2.2.2.2.2.2.2.2.2.2.2.2.2.2.2.2.2.2.2.2.2.2.2.1))).trans (hHeld.2.2.2.2.2.2.2.2.2.2.2.2.2.2.2.2.2.2.2.2.2.2.2.2.2.2.1)
              have HS27_ := (hb.cell (World.block_lt_of_cell? _ _ (hHeld.2.2.2.2.2.2.2.2.2.2.2.2.2.2.2.2.2.2.2.2.2.2.2.2.2.2.2))).trans (hHeld.2.2.2.2.2.2.2.2.2.2.2.2.2.2.2.2.2.2.2.2.2.2.2.2.2.2.2)
              refine ⟨_, rfl, ?_⟩
              have n0_ := m_ (Kd.R_below (rN HO_6.out) hb)
              have n1_ := m_ (Kd.R_below (rN HO_8.out) hb)
              have n2_ := m_ (Kd.R_below (rN HO_279003.out) hb)
              have n3_ := m_ (Kd.R_below (rN HO_290003.out) hb)
              have n4_ := m_ (Kd.R_below (rN HO_301003.out) hb)
              have n5_ := m_ (blk_below (kN BK278.out) hb)
              have n6_ := m_ (blk_below (kN BK289.out) hb)
              have n7_ := m_ (blk_below (kN BK300.out) hb)
              have n8_ := m_ (below_step (bN HB.out) hb)
              clear HO_6
              clear HO_8
              clear HO_279003
              clear HO_290003
              clear HO_301003
              clear BK278
              clear BK289
              clear BK300
              clear HB
              have HO_6 := n0_
              have HO_8 := n1_
              have HO_279003 := n2_
              have HO_290003 := n3_
              have HO_301003 := n4_
              have BK278 := n5_
              have BK289 := n6_
              have BK300 := n7_
              have HB := n8_
              clear n0_ n1_ n2_ n3_ n4_ n5_ n6_ n7_ n8_
              (try clear hb)
              (try clear hb2)
              (try clear hk)
              (try clear hi)
              refine hK.out _ _ ⟨bc BK278 0, bc BK278 1, bc BK278 2, bc BK278 3, bc BK278 4, bc BK289 0, bc BK289 1, bc BK289 2, bc BK289 3, bc BK289 4, HS10_, HS11_, HS12_, HS13_, HS14_, HS15_, HS16_, HS17_, HS18_, HS19_, HS20_, HS21_, HS22_, HS23_, HS24_, HS25_, HS26_, HS27_⟩ (fun hHeld => ?_)
              clear hK K
              refine np (h := ?_)
              refine pu 30 95 HT_ (h := ?_)
              refine pu 31 96 HT_ (h := ?_)
              refine pu 32 97 HT_ (h := ?_)
              refine pu 35 100 HT_ (h := ?_)
              refine take_ (i := 33) (N := some 98) (v := ?_) (a' := ?_) #[true, true, true, true, true, true, true, true, true, true, true, true, true, true, true, true, true, true, true, true, true, true, true, true, true, true, true, true, true, true, true, true, true, true, false, true, false, false, false, false, false, false, false, false, false, false, false, false, false, false, false, false, false, false, false] rfl rfl (take_ofW HT_.out HW_.out (by kernel_rfl)) (fun _ _ _ h => h) (Or.inl ⟨by rfl, ?_⟩) hHeld ?_ ?_
              rotate_left
              ·rintro w' ⟨s0, s1, s2, s3, s4, s5, s6, s7, s8, s9, s10, s11, s12, s13, s14, s15, s16, s17, s18, s19, s20, s21, s22, s23, s24, s25, s26, s27⟩
               go_simp
               with_reducible rfl
              rotate_left
              ·simp only [Act.put, List.setIfInBounds_toArray, List.set_cons_zero, List.set_cons_succ, i64_w, i32_w]
               rfl
              refine pu 34 99 HT_ (h := ?_)
              refine take_ (i := 36) (N := some 101) (v := ?_) (a' := ?_) #[true, true, true, true, true, true, true, true, true, true, true, true, true, true, true, true, true, true, true, true, true, true, true, true, true, true, true, true, true, true, true, true, true, true, true, true, true, false, false, false, false, false, false, false, false, false, false, false, false, false, false, false, false, false, false] rfl rfl (take_ofW HT_.out HW_.out (by kernel_rfl)) (fun _ _ _ h => h) (Or.inl ⟨by rfl, ?_⟩) hHeld ?_ ?_
              rotate_left
              ·rintro w' ⟨s0, s1, s2, s3, s4, s5, s6, s7, s8, s9, s10, s11, s12, s13, s14, s15, s16, s17, s18, s19, s20, s21, s22, s23, s24, s25, s26, s27⟩
               go_simp
               with_reducible rfl
              rotate_left
              ·simp only [Act.put, List.setIfInBounds_toArray, List.set_cons_zero, List.set_cons_succ, i64_w, i32_w]
               rfl
              refine pu 37 102 HT_ (h := ?_)
              refine pu 38 103 HT_ (h := ?_)
              refine pu 39 104 HT_ (h := ?_)
              refine pu 40 105 HT_ (h := ?_)
              refine pu 41 106 HT_ (h := ?_)
              refine pu 42 107 HT_ (h := ?_)
              refine take_ (i := 43) (N := some 108) (v := ?_) (a' := ?_) #[true, true, true, true, true, true, true, true, true, true, true, true, true, true, true, true, true, true, true, true, true, true, true, true, true, true, true, true, true, true, true, true, true, true, true, true, true, true, true, true, true, true, true, true, false, false, false, false, false, false, false, false, false, false, false] rfl rfl (take_ofW HT_.out HW_.out (by kernel_rfl)) (fun _ _ _ h => h) (Or.inl ⟨by rfl, ?_⟩) hHeld ?_ ?_
              rotate_left
              ·rintro w' ⟨s0, s1, s2, s3, s4, s5, s6, s7, s8, s9, s10, s11, s12, s13, s14, s15, s16, s17, s18, s19, s20, s21, s22, s23, s24, s25, s26, s27⟩
               go_simp
               with_reducible rfl
              rotate_left
              ·simp only [Act.put, List.setIfInBounds_toArray, List.set_cons_zero, List.set_cons_succ, i64_w, i32_w]
               rfl
              refine pu 44 109 HT_ (h := ?_)
              refine pu 45 110 HT_ (h := ?_)
              refine pu 46 111 HT_ (h := ?_)
              refine pu 47 112 HT_ (h := ?_)
              refine take_ (i := 48) (N := some 113) (v := ?_) (a' := ?_) #[true, true, true, true, true, true, true, true, true, true, true, true, true, true, true, true, true, true, true, true, true, true, true, true, true, true, true, true, true, true, true, true, true, true, true, true, true, true, true, true, true, true, true, true, true, true, true, true, true, false, false, false, false, false, false] rfl rfl (take_ofW HT_.out HW_.out (by kernel_rfl)) (fun _ _ _ h => h) (Or.inl ⟨by rfl, ?_⟩) hHeld ?_ ?_
              rotate_left
              ·rintro w' ⟨s0, s1, s2, s3, s4, s5, s6, s7, s8, s9, s10, s11, s12, s13, s14, s15, s16, s17, s18, s19, s20, s21, s22, s23, s24, s25, s26, s27⟩
               go_simp
               with_reducible rfl
              rotate_left
              ·simp only [Act.put, List.setIfInBounds_toArray, List.set_cons_zero, List.set_cons_succ, i64_w, i32_w]
               rfl
              refine take_ (i := 50) (N := some 115) (v := ?_) (a' := ?_) #[true, true, true, true, true, true, true, true, true, true, true, true, true, true, true, true, true, true, true, true, true, true, true, true, true, true, true, true, true, true, true, true, true, true, true, true, true, true, true, true, true, true, true, true, true, true, true, true, true, false, true, false, false, false, false] rfl rfl (take_ofW HT_.out HW_.out (by kernel_rfl)) (fun _ _ _ h => h) (Or.inl ⟨by rfl, ?_⟩) hHeld ?_ ?_
              rotate_left
              ·rintro w' ⟨s0, s1, s2, s3, s4, s5, s6, s7, s8, s9, s10, s11, s12, s13, s14, s15, s16, s17, s18, s19, s20, s21, s22, s23, s24, s25, s26, s27⟩
               go_simp
               with_reducible rfl
              rotate_left
              ·simp only [Act.put, List.setIfInBounds_toArray, List.set_cons_zero, List.set_cons_succ, i64_w, i32_w]
               rfl
              refine one_ (i := 49) (N := some 114) #[true, true, true, true, true, true, true, true, true, true, true, true, true, true, true, true, true, true, true, true, true, true, true, true, true, true, true, true, true, true, true, true, true, true, true, true, true, true, true, true, true, true, true, true, true, true, true, true, true, true, true, false, false, false, false] rfl rfl (one_of HT_.out (by kernel_rfl)) (by decide) (fun K hK => ?_)
              refine goes_ Try.func14 (by kernel_rfl) rfl #[.agg #[.int .i64 t279, .int .i64 t280, .int .i64 t281, .slice Ao15 t282.length co15, .bool t285]] (by rfl) rfl rfl gl_ ?_
              with_reducible refine (impl_FopFirst.calls kj5 t279 t280 t281 _ _ t282 t285 t313 _ ?side1 ?side2 A93.out).mono ?_
              (case side1 => exact cN (Kd.R_reads' HO_290003.out).2.2)
              (case side2 => exact (Kd.R_reads' HO_290003.out).2.1)
              rintro e w98 ⟨rfl, hb⟩
              have HS10_ := (hb.cell (World.block_lt_of_cell? _ _ (hHeld.2.2.2.2.2.2.2.2.2.2.1))).trans (hHeld.2.2.2.2.2.2.2.2.2.2.1)
              have HS11_ := (hb.cell (World.block_lt_of_cell? _ _ (hHeld.2.2.2.2.2.2.2.2.2.2.2.1))).trans (hHeld.2.2.2.2.2.2.2.2.2.2.2.1)
              have HS12_ := (hb.cell (World.block_lt_of_cell? _ _ (hHeld.2.2.2.2.2.2.2.2.2.2.2.2.1))).trans (hHeld.2.2.2.2.2.2.2.2.2.2.2.2.1)
              have HS13_ := (hb.cell (World.block_lt_of_cell? _ _ (hHeld.2.2.2.2.2.2.2.2.2.2.2.2.2.1))).trans (hHeld.2.2.2.2.2.2.2.2.2.2.2.2.2.1)
              have HS14_ := (hb.cell (World.block_lt_of_cell? _ _ (hHeld.2.2.2.2.2.2.2.2.2.2.2.2.2.2.1))).trans (hHeld.2.2.2.2.2.2.2.2.2.2.2.2.2.2.1)
              have HS15_ := (hb.cell (World.block_lt_of_cell? _ _ (hHeld.2.2.2.2.2.2.2.2.2.2.2.2.2.2.2.1))).trans (hHeld.2.2.2.2.2.2.2.2.2.2.2.2.2.2.2.1)
              have HS16_ := (hb.cell (World.block_lt_of_cell? _ _ (hHeld.2.2.2.2.2.2.2.2.2.2.2.2.2.2.2.2.1))).trans (hHeld.2.2.2.2.2.2.2.2.2.2.2.2.2.2.2.2.1)
              have HS17_ := (hb.cell (World.block_lt_of_cell? _ _ (hHeld.2.2.2.2.2.2.2.2.2.2.2.2.2.2.2.2.2.1))).trans (hHeld.2.2.2.2.2.2.2.2.2.2.2.2.2.2.2.2.2.1)
              have HS18_ := (hb.cell (World.block_lt_of_cell? _ _ (hHeld.2.2.2.2.2.2.2.2.2.2.2.2.2.2.2.2.2.2.1))).trans (hHeld.2.2.2.2.2.2.2.2.2.2.2.2.2.2.2.2.2.2.1)
              have HS19_ := (hb.cell (World.block_lt_of_cell? _ _ (hHeld.2.2.2.2.2.2.2.2.2.2.2.2.2.2.2.2.2.2.2.1))).trans (hHeld.2.2.2.2.2.2.2.2.2.2.2.2.2.2.2.2.2.2.2.1)
              have HS20_ := (hb.cell (World.block_lt_of_cell? _ _ (hHeld.2.2.2.2.2.2.2.2.2.2.2.2.2.2.2.2.2.2.2.2.1))).trans (hHeld.2.2.2.2.2.2.2.2.2.2.2.2.2.2.2.2.2.2.2.2.1)
              have HS21_ := (hb.cell (World.block_lt_of_cell? _ _ (hHeld.2.2.2.2.2.2.2.2.2.2.2.2.2.2.2.2.2.2.2.2.2.1))).trans (hHeld.2.2.2.2.2.2.2.2.2.2.2.2.2.2.2.2.2.2.2.2.2.1)
              have HS22_ := (hb.cell (World.block_lt_of_cell? _ _ (hHeld.2.2.2.2.2.2.2.2.2.2.2.2.2.2.2.2.2.2.2.2.2.2.1))).trans (hHeld.2.2.2.2.2.2.2.2.2.2.2.2.2.2.2.2.2.2.2.2.2.2.1)
              have HS23_ := (hb.cell (World.block_lt_of_cell? _ _ (hHeld.2.2.2.2.2.2.2.2.2.2.2.2.2.2.2.2.2.2.2.2.2.2.2.1))).trans (hHeld.2.2.2.2.2.2.2.2.2.2.2.2.2.2.2.2.2.2.2.2.2.2.2.1)
              have HS24_ := (hb.cell (World.block_lt_of_cell? _ _ (hHeld.2.2.2.2.2.2.2.2.2.2.2.2.2.2.2.2.2.2.2.2.2.2.2.2.1))).trans (hHeld.2.2.2.2.2.2.2.2.2.2.2.2.2.2.2.2.2.2.2.2.2.2.2.2.1)
              have HS25_ := (hb.cell (World.block_lt_of_cell? _ _ (hHeld.2.2.2.2.2.2.2.2.2.2.2.2.2.2.2.2.2.2.2.2.2.2.2.2.2.1))).trans (hHeld.2.2.2.2.2.2.2.2.2.2.2.2.2.2.2.2.2.2.2.2.2.2.2.2.2.1)
              have HS26_ := (hb.cell (World.block_lt_of_cell? _ _ (hHeld.2.2.2.2.2.2.2.2.2.2.2.2.2.2.2.2.2.2.2.2.2.2.2.2.2.2.1))).trans (hHeld.2.2.2.2.2.2.2.2.2.2.2.2.2.2.2.2.2.2.2.2.2.2.2.2.2.2.1)
              have HS27_ := (hb.cell (World.block_lt_of_cell? _ _ (hHeld.2.2.2.2.2.2.2.2.2.2.2.2.2.2.2.2.2.2.2.2.2.2.2.2.2.2.2))).trans (hHeld.2.2.2.2.2.2.2.2.2.2.2.2.2.2.2.2.2.2.2.2.2.2.2.2.2.2.2)
              refine ⟨_, rfl, ?_⟩
              have n0_ := m_ (Kd.R_below (rN HO_6.out) hb)
              have n1_ := m_ (Kd.R_below (rN HO_8.out) hb)
              have n2_ := m_ (Kd.R_below (rN HO_279003.out) hb)
              have n3_ := m_ (Kd.R_below (rN HO_290003.out) hb)
              have n4_ := m_ (Kd.R_below (rN HO_301003.out) hb)
              have n5_ := m_ (blk_below (kN BK278.out) hb)
              have n6_ := m_ (blk_below (kN BK289.out) hb)
              have n7_ := m_ (blk_below (kN BK300.out) hb)
              have n8_ := m_ (below_step (bN HB.out) hb)
              clear HO_6
              clear HO_8
              clear HO_279003
              clear HO_290003
              clear HO_301003
              clear BK278
              clear BK289
              clear BK300
              clear HB
              have HO_6 := n0_
              have HO_8 := n1_
              have HO_279003 := n2_
              have HO_290003 := n3_
              have HO_301003 := n4_
              have BK278 := n5_
              have BK289 := n6_
              have BK300 := n7_
              have HB := n8_
              clear n0_ n1_ n2_ n3_ n4_ n5_ n6_ n7_ n8_
              (try clear hb)
              (try clear hb2)
              (try clear hk)
              (try clear hi)
              refine hK.out _ _ ⟨bc BK278 0, bc BK278 1, bc BK278 2, bc BK278 3, bc BK278 4, bc BK289 0, bc BK289 1, bc BK289 2, bc BK289 3, bc BK289 4, HS10_, HS11_, HS12_, HS13_, HS14_, HS15_, HS16_, HS17_, HS18_, HS19_, HS20_, HS21_, HS22_, HS23_, HS24_, HS25_, HS26_, HS27_⟩ (fun hHeld => ?_)
              clear hK K
              refine np (h := ?_)
              refine one_ (i := 51) (N := some 116) #[true, true, true, true, true, true, true, true, true, true, true, true, true, true, true, true, true, true, true, true, true, true, true, true, true, true, true, true, true, true, true, true, true, true, true, true, true, true, true, true, true, true, true, true, true, true, true, true, true, true, true, true, false, false, false] rfl rfl (one_of HT_.out (by kernel_rfl)) (by decide) (fun K hK => ?_)
              refine goes_ Try.func14 (by kernel_rfl) rfl #[.agg #[.int .i64 t270, .int .i64 t271, .int .i64 t272, .slice Ao10 t273.length co10, .bool t276]] (by rfl) rfl rfl gl_ ?_
              with_reducible refine (impl_FopFirst.calls kj5 t270 t271 t272 _ _ t273 t276 t314 _ ?side1 ?side2 A94.out).mono ?_
              (case side1 => exact cN (Kd.R_reads' HO_279003.out).2.2)
              (case side2 => exact (Kd.R_reads' HO_279003.out).2.1)
              rintro e w99 ⟨rfl, hb⟩
              have HS10_ := (hb.cell (World.block_lt_of_cell? _ _ (hHeld.2.2.2.2.2.2.2.2.2.2.1))).trans (hHeld.2.2.2.2.2.2.2.2.2.2.1)
              have HS11_ := (hb.cell (World.block_lt_of_cell? _ _ (hHeld.2.2.2.2.2.2.2.2.2.2.2.1))).trans (hHeld.2.2.2.2.2.2.2.2.2.2.2.1)
              have HS12_ := (hb.cell (World.block_lt_of_cell? _ _ (hHeld.2.2.2.2.2.2.2.2.2.2.2.2.1))).trans (hHeld.2.2.2.2.2.2.2.2.2.2.2.2.1)
              have HS13_ := (hb.cell (World.block_lt_of_cell? _ _ (hHeld.2.2.2.2.2.2.2.2.2.2.2.2.2.1))).trans (hHeld.2.2.2.2.2.2.2.2.2.2.2.2.2.1)
              have HS14_ := (hb.cell (World.block_lt_of_cell? _ _ (hHeld.2.2.2.2.2.2.2.2.2.2.2.2.2.2.1))).trans (hHeld.2.2.2.2.2.2.2.2.2.2.2.2.2.2.1)
              have HS15_ := (hb.cell (World.block_lt_of_cell? _ _ (hHeld.2.2.2.2.2.2.2.2.2.2.2.2.2.2.2.1))).trans (hHeld.2.2.2.2.2.2.2.2.2.2.2.2.2.2.2.1)
              have HS16_ := (hb.cell (World.block_lt_of_cell? _ _ (hHeld.2.2.2.2.2.2.2.2.2.2.2.2.2.2.2.2.1))).trans (hHeld.2.2.2.2.2.2.2.2.2.2.2.2.2.2.2.2.1)
              have HS17_ := (hb.cell (World.block_lt_of_cell? _ _ (hHeld.2.2.2.2.2.2.2.2.2.2.2.2.2.2.2.2.2.1))).trans (hHeld.2.2.2.2.2.2.2.2.2.2.2.2.2.2.2.2.2.1)
              have HS18_ := (hb.cell (World.block_lt_of_cell? _ _ (hHeld.2.2.2.2.2.2.2.2.2.2.2.2.2.2.2.2.2.2.1))).trans (hHeld.2.2.2.2.2.2.2.2.2.2.2.2.2.2.2.2.2.2.1)
              have HS19_ := (hb.cell (World.block_lt_of_cell? _ _ (hHeld.2.2.2.2.2.2.2.2.2.2.2.2.2.2.2.2.2.2.2.1))).trans (hHeld.2.2.2.2.2.2.2.2.2.2.2.2.2.2.2.2.2.2.2.1)
              have HS20_ := (hb.cell (World.block_lt_of_cell? _ _ (hHeld.2.2.2.2.2.2.2.2.2.2.2.2.2.2.2.2.2.2.2.2.1))).trans (hHeld.2.2.2.2.2.2.2.2.2.2.2.2.2.2.2.2.2.2.2.2.1)
              have HS21_ := (hb.cell (World.block_lt_of_cell? _ _ (hHeld.2.2.2.2.2.2.2.2.2.2.2.2.2.2.2.2.2.2.2.2.2.1))).trans (hHeld.2.2.2.2.2.2.2.2.2.2.2.2.2.2.2.2.2.2.2.2.2.1)
              have HS22_ := (hb.cell (World.block_lt_of_cell? _ _ (hHeld.2.2.2.2.2.2.2.2.2.2.2.2.2.2.2.2.2.2.2.2.2.2.1))).trans (hHeld.2.2.2.2.2.2.2.2.2.2.2.2.2.2.2.2.2.2.2.2.2.2.1)
              have HS23_ := (hb.cell (World.block_lt_of_cell? _ _ (hHeld.2.2.2.2.2.2.2.2.2.2.2.2.2.2.2.2.2.2.2.2.2.2.2.1))).trans (hHeld.2.2.2.2.2.2.2.2.2.2.2.2.2.2.2.2.2.2.2.2.2.2.2.1)
              have HS24_ := (hb.cell (World.block_lt_of_cell? _ _ (hHeld.2.2.2.2.2.2.2.2.2.2.2.2.2.2.2.2.2.2.2.2.2.2.2.2.1))).trans (hHeld.2.2.2.2.2.2.2.2.2.2.2.2.2.2.2.2.2.2.2.2.2.2.2.2.1)
              have HS25_ := (hb.cell (World.block_lt_of_cell? _ _ (hHeld.2.2.2.2.2.2.2.2.2.2.2.2.2.2.2.2.2.2.2.2.2.2.2.2.2.1))).trans (hHeld.2.2.2.2.2.2.2.2.2.2.2.2.2.2.2.2.2.2.2.2.2.2.2.2.2.1)
              have HS26_ := (hb.cell (World.block_lt_of_cell? _ _ (hHeld.2.2.2.2.2.2.2.2.2.2.2.2.2.2.2.2.2.2.2.2.2.2.2.2.2.2.1))).trans (hHeld.2.2.2.2.2.2.2.2.2.2.2.2.2.2.2.2.2.2.2.2.2.2.2.2.2.2.1)
              have HS27_ := (hb.cell (World.block_lt_of_cell? _ _ (hHeld.2.2.2.2.2.2.2.2.2.2.2.2.2.2.2.2.2.2.2.2.2.2.2.2.2.2.2))).trans (hHeld.2.2.2.2.2.2.2.2.2.2.2.2.2.2.2.2.2.2.2.2.2.2.2.2.2.2.2)
              refine ⟨_, rfl, ?_⟩
              have n0_ := m_ (Kd.R_below (rN HO_6.out) hb)
              have n1_ := m_ (Kd.R_below (rN HO_8.out) hb)
              have n2_ := m_ (Kd.R_below (rN HO_279003.out) hb)
              have n3_ := m_ (Kd.R_below (rN HO_290003.out) hb)
              have n4_ := m_ (Kd.R_below (rN HO_301003.out) hb)
              have n5_ := m_ (blk_below (kN BK278.out) hb)
              have n6_ := m_ (blk_below (kN BK289.out) hb)
              have n7_ := m_ (blk_below (kN BK300.out) hb)
              have n8_ := m_ (below_step (bN HB.out) hb)
              clear HO_6
              clear HO_8
              clear HO_279003
              clear HO_290003
              clear HO_301003
              clear BK278
              clear BK289
              clear BK300
              clear HB
              have HO_6 := n0_
              have HO_8 := n1_
              have HO_279003 := n2_
              have HO_290003 := n3_
              have HO_301003 := n4_
              have BK278 := n5_
              have BK289 := n6_
              have BK300 := n7_
              have HB := n8_
              clear n0_ n1_ n2_ n3_ n4_ n5_ n6_ n7_ n8_
              (try clear hb)
              (try clear hb2)
              (try clear hk)
              (try clear hi)
              refine hK.out _ _ ⟨bc BK278 0, bc BK278 1, bc BK278 2, bc BK278 3, bc BK278 4, bc BK289 0, bc BK289 1, bc BK289 2, bc BK289 3, bc BK289 4, HS10_, HS11_, HS12_, HS13_, HS14_, HS15_, HS16_, HS17_, HS18_, HS19_, HS20_, HS21_, HS22_, HS23_, HS24_, HS25_, HS26_, HS27_⟩ (fun hHeld => ?_)
              clear hK K
              refine np (h := ?_)
              refine pu 52 117 HT_ (h := ?_)
              refine pu 53 118 HT_ (h := ?_)
              refine pu 54 2 HT_ (h := ?_)
              refine done_ (done_of HT_.out (by kernel_rfl)) ?_
              try go_wp2
              go_ret
              exact ⟨by first | rfl | (simp [errW_none, errW_some] <;> rfl) | (simp [*, errW_none, errW_some] <;> rfl), by repeat (first | (with_reducible first | exact HB.out | apply below_alloc | apply pw_below_drewN | apply below_drew1 | refine below_set ?_ GE278.out | refine below_set ?_ GE289.out | refine below_set ?_ GE300.out) | exact HB.out)⟩
             ·rw [if_neg c92] at H
              have c92b0 : decide ((t282.length : Int) ≤ 4) = false := decide_eq_false c92
              have c92b1 : decide (t282.length ≤ 4) = false := decide_eq_false (by omega)
              clear c92
              obtain rfl := Option.some.inj H
              obtain ⟨Ao100, co100, eo100⟩ := Kd.R_slice HO_6.out
              subst eo100
              try go_wp2
              have n0_ := m_ (Kd.R_drew HO_6.out)
              have n1_ := m_ (Kd.R_drew HO_8.out)
              have n2_ := m_ (Kd.R_drew HO_279003.out)
              have n3_ := m_ (Kd.R_drew HO_290003.out)
              have n4_ := m_ (Kd.R_drew HO_301003.out)
              have n5_ := m_ (blk_drew BK278.out)
              have n6_ := m_ (blk_drew BK289.out)
              have n7_ := m_ (blk_drew BK300.out)
              have n8_ := m_ (below_drew1 HB.out)
              clear HO_6
              clear HO_8
              clear HO_279003
              clear HO_290003
              clear HO_301003
              clear BK278
              clear BK289
              clear BK300
              clear HB
              have HO_6 := n0_
              have HO_8 := n1_
              have HO_279003 := n2_
              have HO_290003 := n3_
              have HO_301003 := n4_
              have BK278 := n5_
              have BK289 := n6_
              have BK300 := n7_
              have HB := n8_
              clear n0_ n1_ n2_ n3_ n4_ n5_ n6_ n7_ n8_
              have p309 : 0 ≤ (0 : Int) := (by omega)
              have q309 : 0 < (t286.length : Int) := of_decide_eq_true (by first | (with_reducible assumption) | assumption)
              obtain ⟨ad309, e309, hx309_0, hx309_1, hx309_2, hx309_3, hx309_4, hx309_5⟩ := at_T35 (Kd.R_reads' HO_6.out).2.2 0 p309 q309
              (try rw [← Nbq85.out] at hx309_0)
              (try rw [← Nbq85.out] at hx309_1)
              cases e309
              have qi309 : (0 < t286.length) = True := eq_true (by omega)
              (try rw [show ((0 : Int)).toNat = 0 from rfl] at hx309_0)
              (try rw [show 0 * 6 = 0 from rfl] at hx309_0)
              (try rw [Addr.add_zero'] at hx309_0)
              (try rw [show ((0 : Int)).toNat = 0 from rfl] at hx309_1)
              (try rw [show 0 * 6 = 0 from rfl] at hx309_1)
              (try rw [Addr.add_zero'] at hx309_1)
              (try rw [show ((0 : Int)).toNat = 0 from rfl] at hx309_2)
              (try rw [show 0 * 6 = 0 from rfl] at hx309_2)
              (try rw [Addr.add_zero'] at hx309_2)
              (try rw [show ((0 : Int)).toNat = 0 from rfl] at hx309_3)
              (try rw [show 0 * 6 = 0 from rfl] at hx309_3)
              (try rw [Addr.add_zero'] at hx309_3)
              (try rw [show ((0 : Int)).toNat = 0 from rfl] at hx309_4)
              (try rw [show 0 * 6 = 0 from rfl] at hx309_4)
              (try rw [Addr.add_zero'] at hx309_4)
              (try rw [show ((0 : Int)).toNat = 0 from rfl] at hx309_5)
              (try rw [show 0 * 6 = 0 from rfl] at hx309_5)
              (try rw [Addr.add_zero'] at hx309_5)
              replace p309 := eq_true p309
              replace q309 := eq_true q309
              have p310 : 0 ≤ (0 : Int) := (by omega)
              have q310 : 0 < (t286.length : Int) := of_decide_eq_true (by first | (with_reducible assumption) | assumption)
              obtain ⟨ad310, e310, hx310_0, hx310_1, hx310_2, hx310_3, hx310_4, hx310_5⟩ := at_T35 (Kd.R_reads' HO_6.out).2.2 0 p310 q310
              (try rw [← Nbq85.out] at hx310_0)
              (try rw [← Nbq85.out] at hx310_1)
              obtain rfl : ad309 = ad310 := (by injection e310)
              have qi310 : (0 < t286.length) = True := eq_true (by omega)
              (try rw [show ((0 : Int)).toNat = 0 from rfl] at hx310_0)
              (try rw [show 0 * 6 = 0 from rfl] at hx310_0)
              (try rw [Addr.add_zero'] at hx310_0)
              (try rw [show ((0 : Int)).toNat = 0 from rfl] at hx310_1)
              (try rw [show 0 * 6 = 0 from rfl] at hx310_1)
              (try rw [Addr.add_zero'] at hx310_1)
              (try rw [show ((0 : Int)).toNat = 0 from rfl] at hx310_2)
              (try rw [show 0 * 6 = 0 from rfl] at hx310_2)
              (try rw [Addr.add_zero'] at hx310_2)
              (try rw [show ((0 : Int)).toNat = 0 from rfl] at hx310_3)
              (try rw [show 0 * 6 = 0 from rfl] at hx310_3)
              (try rw [Addr.add_zero'] at hx310_3)
              (try rw [show ((0 : Int)).toNat = 0 from rfl] at hx310_4)
              (try rw [show 0 * 6 = 0 from rfl] at hx310_4)
              (try rw [Addr.add_zero'] at hx310_4)
              (try rw [show ((0 : Int)).toNat = 0 from rfl] at hx310_5)
              (try rw [show 0 * 6 = 0 from rfl] at hx310_5)
              (try rw [Addr.add_zero'] at hx310_5)
              replace p310 := eq_true p310
              replace q310 := eq_true q310
              have p311 : 0 ≤ (0 : Int) := (by omega)
              have q311 : 0 < (t286.length : Int) := of_decide_eq_true (by first | (with_reducible assumption) | assumption)
              obtain ⟨ad311, e311, hx311_0, hx311_1, hx311_2, hx311_3, hx311_4, hx311_5⟩ := at_T35 (Kd.R_reads' HO_6.out).2.2 0 p311 q311
              (try rw [← Nbq85.out] at hx311_0)
              (try rw [← Nbq85.out] at hx311_1)
              obtain rfl : ad309 = ad311 := (by injection e311)
              have qi311 : (0 < t286.length) = True := eq_true (by omega)
              (try rw [show ((0 : Int)).toNat = 0 from rfl] at hx311_0)
              (try rw [show 0 * 6 = 0 from rfl] at hx311_0)
              (try rw [Addr.add_zero'] at hx311_0)
              (try rw [show ((0 : Int)).toNat = 0 from rfl] at hx311_1)
              (try rw [show 0 * 6 = 0 from rfl] at hx311_1)
              (try rw [Addr.add_zero'] at hx311_1)
              (try rw [show ((0 : Int)).toNat = 0 from rfl] at hx311_2)
              (try rw [show 0 * 6 = 0 from rfl] at hx311_2)
              (try rw [Addr.add_zero'] at hx311_2)
              (try rw [show ((0 : Int)).toNat = 0 from rfl] at hx311_3)
              (try rw [show 0 * 6 = 0 from rfl] at hx311_3)
              (try rw [Addr.add_zero'] at hx311_3)
              (try rw [show ((0 : Int)).toNat = 0 from rfl] at hx311_4)
              (try rw [show 0 * 6 = 0 from rfl] at hx311_4)
              (try rw [Addr.add_zero'] at hx311_4)
              (try rw [show ((0 : Int)).toNat = 0 from rfl] at hx311_5)
              (try rw [show 0 * 6 = 0 from rfl] at hx311_5)
              (try rw [Addr.add_zero'] at hx311_5)
              replace p311 := eq_true p311
              replace q311 := eq_true q311
              refine start_ (n := 55) (S := fun w' => w'.cell? ⟨gb278, 0, none⟩ = some (.int .i64 t270) ∧ w'.cell? ⟨gb278, 1, none⟩ = some (.int .i64 t271) ∧ w'.cell? ⟨gb278, 2, none⟩ = some (.int .i64 t272) ∧ w'.cell? ⟨gb278, 3, none⟩ = some (.slice Ao10 t273.length co10) ∧ w'.cell? ⟨gb278, 4, none⟩ = some (.bool t276) ∧ w'.cell? ⟨gb289, 0, none⟩ = some (.int .i64 t279) ∧ w'.cell? ⟨gb289, 1, none⟩ = some (.int .i64 t280) ∧ w'.cell? ⟨gb289, 2, none⟩ = some (.int .i64 t281) ∧ w'.cell? ⟨gb289, 3, none⟩ = some (.slice Ao15 t282.length co15) ∧ w'.cell? ⟨gb289, 4, none⟩ = some (.bool t285) ∧ w'.cell? ad309 = some (.bool false) ∧ w'.cell? ⟨ad309.block, ad309.off + 1, none⟩ = some (.bool ((rd_T35 t286 0).f1)) ∧ w'.cell? ⟨ad309.block, ad309.off + 2, none⟩ = some (.int .i64 ((rd_T35 t286 0).f2)) ∧ w'.cell? ⟨ad309.block, ad309.off + 3, none⟩ = some (.int .i64 ((rd_T35 t286 0).f3)) ∧ w'.cell? ⟨ad309.block, ad309.off + 4, none⟩ = some (.int .i64 ((rd_T35 t286 0).f4)) ∧ w'.cell? ⟨ad309.block, ad309.off + 5, none⟩ = some (.string ((rd_T35 t286 0).f5)) ∧ w'.cell? ad309 = some (.bool false) ∧ w'.cell? ⟨ad309.block, ad309.off + 1, none⟩ = some (.bool ((rd_T35 t286 0).f1)) ∧ w'.cell? ⟨ad309.block, ad309.off + 2, none⟩ = some (.int .i64 ((rd_T35 t286 0).f2)) ∧ w'.cell? ⟨ad309.block, ad309.off + 3, none⟩ = some (.int .i64 ((rd_T35 t286 0).f3)) ∧ w'.cell? ⟨ad309.block, ad309.off + 4, none⟩ = some (.int .i64 ((rd_T35 t286 0).f4)) ∧ w'.cell? ⟨ad309.block, ad309.off + 5, none⟩ = some (.string ((rd_T35 t286 0).f5)) ∧ w'.cell? ad309 = some (.bool false) ∧ w'.cell? ⟨ad309.block, ad309.off + 1, none⟩ = some (.bool ((rd_T35 t286 0).f1)) ∧ w'.cell? ⟨ad309.block, ad309.off + 2, none⟩ = some (.int .i64 ((rd_T35 t286 0).f2)) ∧ w'.cell? ⟨ad309.block, ad309.off + 3, none⟩ = some (.int .i64 ((rd_T35 t286 0).f3)) ∧ w'.cell? ⟨ad309.block, ad309.off + 4, none⟩ = some (.int .i64 ((rd_T35 t286 0).f4)) ∧ w'.cell? ⟨ad309.block, ad309.off + 5, none⟩ = some (.string ((rd_T35 t286 0).f5))) (ds := []) #[false, false, false, false, false, false, false, false, false, false, false, false, false, false, false, false, false, false, false, false, false, false, false, false, false, false, false, false, false, false, false, false, false, false, false, false, false, false, false, false, false, false, false, false, false, false, false, false, false, false, false, false, false, false, false] (by kernel_rfl) rfl rfl ⟨bc BK278 0, bc BK278 1, bc BK278 2, bc BK278 3, bc BK278 4, bc BK289 0, bc BK289 1, bc BK289 2, bc BK289 3, bc BK289 4, hx309_0, hx309_1, hx309_2, hx309_3, hx309_4, hx309_5, hx310_0, hx310_1, hx310_2, hx310_3, hx310_4, hx310_5, hx311_0, hx311_1, hx311_2, hx311_3, hx311_4, hx311_5⟩ (fun hHeld => ?_); refine with_tabW laws_FnFopSend.tab10 laws_FnFopSend.bits10 (fun HT_ HW_ => ?_)
              generalize wc.drew = w101 at HO_6 HO_8 HO_279003 HO_290003 HO_301003 BK278 BK289 BK300 HB hx309_0 hx309_1 hx309_2 hx309_3 hx309_4 hx309_5 hx310_0 hx310_1 hx310_2 hx310_3 hx310_4 hx310_5 hx311_0 hx311_1 hx311_2 hx311_3 hx311_4 hx311_5 hHeld ⊢
              refine pu 0 65 HT_ (h := ?_)
              refine pu 1 66 HT_ (h := ?_)
              refine pu 2 67 HT_ (h := ?_)
              refine pu 3 68 HT_ (h := ?_)
              refine pu 4 69 HT_ (h := ?_)
              refine pu 5 70 HT_ (h := ?_)
              refine pu 6 71 HT_ (h := ?_)
              refine pu 8 73 HT_ (h := ?_)
              refine take_ (i := 7) (N := some 72) (v := ?_) (a' := ?_) #[true, true, true, true, true, true, true, true, true, false, false, false, false, false, false, false, false, false, false, false, false, false, false, false, false, false, false, false, false, false, false, false, false, false, false, false, false, false, false, false, false, false, false, false, false, false, false, false, false, false, false, false, false, false, false] rfl rfl (take_ofW HT_.out HW_.out (by kernel_rfl)) (fun _ _ _ h => h) (Or.inl ⟨by rfl, ?_⟩) hHeld ?_ ?_
              rotate_left
              ·rintro w' ⟨s0, s1, s2, s3, s4, s5, s6, s7, s8, s9, s10, s11, s12, s13, s14, s15, s16, s17, s18, s19, s20, s21, s22, s23, s24, s25, s26, s27⟩
               go_simp
               with_reducible rfl
              rotate_left
              ·simp only [Act.put, List.setIfInBounds_toArray, List.set_cons_zero, List.set_cons_succ, i64_w, i32_w]
               rfl
              refine take_ (i := 9) (N := some 74) (v := ?_) (a' := ?_) #[true, true, true, true, true, true, true, true, true, true, false, false, false, false, false, false, false, false, false, false, false, false, false, false, false, false, false, false, false, false, false, false, false, false, false, false, false, false, false, false, false, false, false, false, false, false, false, false, false, false, false, false, false, false, false] rfl rfl (take_ofW HT_.out HW_.out (by kernel_rfl)) (fun _ _ _ h => h) (Or.inl ⟨by rfl, ?_⟩) hHeld ?_ ?_
              rotate_left
              ·rintro w' ⟨s0, s1, s2, s3, s4, s5, s6, s7, s8, s9, s10, s11, s12, s13, s14, s15, s16, s17, s18, s19, s20, s21, s22, s23, s24, s25, s26, s27⟩
               go_simp
               with_reducible rfl
              rotate_left
              ·simp only [Act.put, List.setIfInBounds_toArray, List.set_cons_zero, List.set_cons_succ, i64_w, i32_w]
               rfl
              refine pu 10 75 HT_ (h := ?_)
              refine pu 11 76 HT_ (h := ?_)
              refine pu 12 77 HT_ (h := ?_)
              refine pu 13 78 HT_ (h := ?_)
              refine pu 14 79 HT_ (h := ?_)
              refine pu 15 80 HT_ (h := ?_)
              refine pu 17 82 HT_ (h := ?_)
              refine take_ (i := 16) (N := some 81) (v := ?_) (a' := ?_) #[true, true, true, true, true, true, true, true, true, true, true, true, true, true, true, true, true, true, false, false, false, false, false, false, false, false, false, false, false, false, false, false, false, false, false, false, false, false, false, false, false, false, false, false, false, false, false, false, false, false, false, false, false, false, false] rfl rfl (take_ofW HT_.out HW_.out (by kernel_rfl)) (fun _ _ _ h => h) (Or.inl ⟨by rfl, ?_⟩) hHeld ?_ ?_
              rotate_left
              ·rintro w' ⟨s0, s1, s2, s3, s4, s5, s6, s7, s8, s9, s10, s11, s12, s13, s14, s15, s16, s17, s18, s19, s20, s21, s22, s23, s24, s25, s26, s27⟩
               go_simp
               with_reducible rfl
              rotate_left
              ·simp only [Act.put, List.setIfInBounds_toArray, List.set_cons_zero, List.set_cons_succ, i64_w, i32_w]
               rfl
              refine pu 18 83 HT_ (h := ?_)
              refine pu 19 84 HT_ (h := ?_)
              refine pu 20 85 HT_ (h := ?_)
              refine pu 21 86 HT_ (h := ?_)
              refine pu 22 87 HT_ (h := ?_)
              refine pu 23 88 HT_ (h := ?_)
              refine take_ (i := 24) (N := some 89) (v := ?_) (a' := ?_) #[true, true, true, true, true, true, true, true, true, true, true, true, true, true, true, true, true, true, true, true, true, true, true, true, true, false, false, false, false, false, false, false, false, false, false, false, false, false, false, false, false, false, false, false, false, false, false, false, false, false, false, false, false, false, false] rfl rfl (take_ofW HT_.out HW_.out (by kernel_rfl)) (fun _ _ _ h => h) (Or.inl ⟨by rfl, ?_⟩) hHeld ?_ ?_
              rotate_left
              ·rintro w' ⟨s0, s1, s2, s3, s4, s5, s6, s7, s8, s9, s10, s11, s12, s13, s14, s15, s16, s17, s18, s19, s20, s21, s22, s23, s24, s25, s26, s27⟩
               go_simp
               with_reducible rfl
              rotate_left
              ·simp only [Act.put, List.setIfInBounds_toArray, List.set_cons_zero, List.set_cons_succ, i64_w, i32_w]
               rfl
              refine pu 25 90 HT_ (h := ?_)
              refine pu 26 91 HT_ (h := ?_)
              refine pu 27 92 HT_ (h := ?_)
              refine take_ (i := 28) (N := some 93) (v := ?_) (a' := ?_) #[true, true, true, true, true, true, true, true, true, true, true, true, true, true, true, true, true, true, true, true, true, true, true, true, true, true, true, true, true, false, false, false, false, false, false, false, false, false, false, false, false, false, false, false, false, false, false, false, false, false, false, false, false, false, false] rfl rfl (take_ofW HT_.out HW_.out (by kernel_rfl)) (fun _ _ _ h => h) (Or.inl ⟨by rfl, ?_⟩) hHeld ?_ ?_
              rotate_left
              ·rintro w' ⟨s0, s1, s2, s3, s4, s5, s6, s7, s8, s9, s10, s11, s12, s13, s14, s15, s16, s17, s18, s19, s20, s21, s22, s23, s24, s25, s26, s27⟩
               go_simp
               with_reducible rfl
              rotate_left
              ·simp only [Act.put, List.setIfInBounds_toArray, List.set_cons_zero, List.set_cons_succ, i64_w, i32_w]
               rfl
              refine one_ (i := 29) (N := some 94) #[true, true, true, true, true, true, true, true, true, true, true, true, true, true, true, true, true, true, true, true, true, true, true, true, true, true, true, true, true, true, false, false, false, false, false, false, false, false, false, false, false, false, false, false, false, false, false, false, false, false, false, false, false, false, false] rfl rfl (one_of HT_.out (by kernel_rfl)) (by decide) (fun K hK => ?_)
              refine goes_ Try.func12 (by kernel_rfl) rfl #[.agg #[.int .i64 t279, .int .i64 t280, .int .i64 t281, .slice Ao15 t282.length co15, .bool t285]] (by rfl) rfl rfl gl_ ?_
              with_reducible refine (impl_FopOk.calls kj5 t279 t280 t281 _ _ t282 t285 true _ ?side1 ?side2 A89.out).mono ?_
              (case side1 => exact cN (Kd.R_reads' HO_290003.out).2.2)
              (case side2 => exact (Kd.R_reads' HO_290003.out).2.1)
              rintro e w102 ⟨rfl, hb⟩
              have HS10_ := (hb.cell (World.block_lt_of_cell? _ _ (hHeld.2.2.2.2.2.2.2.2.2.2.1))).trans (hHeld.2.2.2.2.2.2.2.2.2.2.1)
              have HS11_ := (hb.cell (World.block_lt_of_cell? _ _ (hHeld.2.2.2.2.2.2.2.2.2.2.2.1))).trans (hHeld.2.2.2.2.2.2.2.2.2.2.2.1)
              have HS12_ := (hb.cell (World.block_lt_of_cell? _ _ (hHeld.2.2.2.2.2.2.2.2.2.2.2.2.1))).trans (hHeld.2.2.2.2.2.2.2.2.2.2.2.2.1)
              have HS13_ := (hb.cell (World.block_lt_of_cell? _ _ (hHeld.2.2.2.2.2.2.2.2.2.2.2.2.2.1))).trans (hHeld.2.2.2.2.2.2.2.2.2.2.2.2.2.1)
              have HS14_ := (hb.cell (World.block_lt_of_cell? _ _ (hHeld.2.2.2.2.2.2.2.2.2.2.2.2.2.2.1))).trans (hHeld.2.2.2.2.2.2.2.2.2.2.2.2.2.2.1)
              have HS15_ := (hb.cell (World.block_lt_of_cell? _ _ (hHeld.2.2.2.2.2.2.2.2.2.2.2.2.2.2.2.1))).trans (hHeld.2.2.2.2.2.2.2.2.2.2.2.2.2.2.2.1)
              have HS16_ := (hb.cell (World.block_lt_of_cell? _ _ (hHeld.2.2.2.2.2.2.2.2.2.2.2.2.2.2.2.2.1))).trans (hHeld.2.2.2.2.2.2.2.2.2.2.2.2.2.2.2.2.1)
              have HS17_ := (hb.cell (World.block_lt_of_cell? _ _ (hHeld.2.2.2.2.2.2.2.2.2.2.2.2.2.2.2.2.2.1))).trans (hHeld.2.2.2.2.2.2.2.2.2.2.2.2.2.2.2.2.2.1)
              have HS18_ := (hb.cell (World.block_lt_of_cell? _ _ (hHeld.2.2.2.2.2.2.2.2.2.2.2.2.2.2.2.2.2.2.1))).trans (hHeld.2.2.2.2.2.2.2.2.2.2.2.2.2.2.2.2.2.2.1)
              have HS19_ := (hb.cell (World.block_lt_of_cell? _ _ (hHeld.2.2.2.2.2.2.2.2.2.2.2.2.2.2.2.2.2.2.2.1))).trans (hHeld.2.2.2.2.2.2.2.2.2.2.2.2.2.2.2.2.2.2.2.1)
              have HS20_ := (hb.cell (World.block_lt_of_cell? _ _ (hHeld.2.2.2.2.2.2.2.2.2.2.2.2.2.2.2.2.2.2.2.2.1))).trans (hHeld.2.2.2.2.2.2.2.2.2.2.2.2.2.2.2.2.2.2.2.2.1)
              have HS21_ := (hb.cell (World.block_lt_of_cell? _ _ (hHeld.2.2.2.2.2.2.2.2.2.2.2.2.2.2.2.2.2.2.2.2.2.1))).trans (hHeld.2.2.2.2.2.2.2.2.2.2.2.2.2.2.2.2.2.2.2.2.2.1)
              have HS22_ := (hb.cell (World.block_lt_of_cell? _ _ (hHeld.2.2.2.2.2.2.2.2.2.2.2.2.2.2.2.2.2.2.2.2.2.2.1))).trans (hHeld.2.2.2.2.2.2.2.2.2.2.2.2.2.2.2.2.2.2.2.2.2.2.1)
              have HS23_ := (hb.cell (World.block_lt_of_cell? _ _ (hHeld.2.2.2.2.2.2.2.2.2.2.2.2.2.2.2.2.2.2.2.2.2.2.2.1))).trans (hHeld.2.2.2.2.2.2.2.2.2.2.2.2.2.2.2.2.2.2.2.2.2.2.2.1)
              have HS24_ := (hb.cell (World.block_lt_of_cell? _ _ (hHeld.2.2.2.2.2.2.2.2.2.2.2.2.2.2.2.2.2.2.2.2.2.2.2.2.1))).trans (hHeld.2.2.2.2.2.2.2.2.2.2.2.2.2.2.2.2.2.2.2.2.2.2.2.2.1)
              have HS25_ := (hb.cell (World.block_lt_of_cell? _ _ (hHeld.2.2.2.2.2.2.2.2.2.2.2.2.2.2.2.2.2.2.2.2.2.2.2.2.2.1))).trans (hHeld.2.2.2.2.2.2.2.2.2.2.2.2.2.2.2.2.2.2.2.2.2.2.2.2.2.1)
              have HS26_ := (hb.cell (World.block_lt_of_cell? _ _ (hHeld.2.2.2.2.2.2.2.2.2.2.2.2.2.2.2.2.2.2.2.2.2.2.2.2.2.2.1))).trans (hHeld.2.2.2.2.2.2.2.2.2.2.2.2.2.2.2.2.2.2.2.2.2.2.2.2.2.2.1)
              have HS27_ := (hb.cell (World.block_lt_of_cell? _ _ (hHeld.2.2.2.2.2.2.2.2.2.2.2.2.2.2.2.2.2.2.2.2.2.2.2.2.2.2.2))).trans (hHeld.2.2.2.2.2.2.2.2.2.2.2.2.2.2.2.2.2.2.2.2.2.2.2.2.2.2.2)
              refine ⟨_, rfl, ?_⟩
              have n0_ := m_ (Kd.R_below (rN HO_6.out) hb)
              have n1_ := m_ (Kd.R_below (rN HO_8.out) hb)
              have n2_ := m_ (Kd.R_below (rN HO_279003.out) hb)
              have n3_ := m_ (Kd.R_below (rN HO_290003.out) hb)
              have n4_ := m_ (Kd.R_below (rN HO_301003.out) hb)
              have n5_ := m_ (blk_below (kN BK278.out) hb)
              have n6_ := m_ (blk_below (kN BK289.out) hb)
              have n7_ := m_ (blk_below (kN BK300.out) hb)
              have n8_ := m_ (below_step (bN HB.out) hb)
              clear HO_6
              clear HO_8
              clear HO_279003
              clear HO_290003
              clear HO_301003
              clear BK278
              clear BK289
              clear BK300
              clear HB
              have HO_6 := n0_
              have HO_8 := n1_
              have HO_279003 := n2_
              have HO_290003 := n3_
              have HO_301003 := n4_
              have BK278 := n5_
              have BK289 := n6_
              have BK300 := n7_
              have HB := n8_
              clear n0_ n1_ n2_ n3_ n4_ n5_ n6_ n7_ n8_
              (try clear hb)
              (try clear hb2)
              (try clear hk)
              (try clear hi)
              refine hK.out _ _ ⟨bc BK278 0, bc BK278 1, bc BK278 2, bc BK278 3, bc BK278 4, bc BK289 0, bc BK289 1, bc BK289 2, bc BK289 3, bc BK289 4, HS10_, HS11_, HS12_, HS13_, HS14_, HS15_, HS16_, HS17_, HS18_, HS19_, HS20_, HS21_, HS22_, HS23_, HS24_, HS25_, HS26_, HS27_⟩ (fun hHeld => ?_)
              clear hK K
              refine np (h := ?_)
              refine pu 30 95 HT_ (h := ?_)
              refine pu 31 96 HT_ (h := ?_)
              refine pu 32 97 HT_ (h := ?_)
              refine pu 35 100 HT_ (h := ?_)
              refine take_ (i := 33) (N := some 98) (v := ?_) (a' := ?_) #[true, true, true, true, true, true, true, true, true, true, true, true, true, true, true, true, true, true, true, true, true, true, true, true, true, true, true, true, true, true, true, true, true, true, false, true, false, false, false, false, false, false, false, false, false, false, false, false, false, false, false, false, false, false, false] rfl rfl (take_ofW HT_.out HW_.out (by kernel_rfl)) (fun _ _ _ h => h) (Or.inl ⟨by rfl, ?_⟩) hHeld ?_ ?_
              rotate_left
              ·rintro w' ⟨s0, s1, s2, s3, s4, s5, s6, s7, s8, s9, s10, s11, s12, s13, s14, s15, s16, s17, s18, s19, s20, s21, s22, s23, s24, s25, s26, s27⟩
               go_simp
               with_reducible rfl
              rotate_left
              ·simp only [Act.put, List.setIfInBounds_toArray, List.set_cons_zero, List.set_cons_succ, i64_w, i32_w]
               rfl
              refine pu 34 99 HT_ (h := ?_)
              refine take_ (i := 36) (N := some 101) (v := ?_) (a' := ?_) #[true, true, true, true, true, true, true, true, true, true, true, true, true, true, true, true, true, true, true, true, true, true, true, true, true, true, true, true, true, true, true, true, true, true, true, true, true, false, false, false, false, false, false, false, false, false, false, false, false, false, false, false, false, false, false] rfl rfl (take_ofW HT_.out HW_.out (by kernel_rfl)) (fun _ _ _ h => h) (Or.inl ⟨by rfl, ?_⟩) hHeld ?_ ?_
              rotate_left
              ·rintro w' ⟨s0, s1, s2, s3, s4, s5, s6, s7, s8, s9, s10, s11, s12, s13, s14, s15, s16, s17, s18, s19, s20, s21, s22, s23, s24, s25, s26, s27⟩
               go_simp
               with_reducible rfl
              rotate_left
              ·simp only [Act.put, List.setIfInBounds_toArray, List.set_cons_zero, List.set_cons_succ, i64_w, i32_w]
               rfl
              refine pu 37 102 HT_ (h := ?_)
              refine pu 38 103 HT_ (h := ?_)
              refine pu 39 104 HT_ (h := ?_)
              refine pu 40 105 HT_ (h := ?_)
              refine pu 41 106 HT_ (h := ?_)
              refine pu 42 107 HT_ (h := ?_)
              refine take_ (i := 43) (N := some 108) (v := ?_) (a' := ?_) #[true, true, true, true, true, true, true, true, true, true, true, true, true, true, true, true, true, true, true, true, true, true, true, true, true, true, true, true, true, true, true, true, true, true, true, true, true, true, true, true, true, true, true, true, false, false, false, false, false, false, false, false, false, false, false] rfl rfl (take_ofW HT_.out HW_.out (by kernel_rfl)) (fun _ _ _ h => h) (Or.inl ⟨by rfl, ?_⟩) hHeld ?_ ?_
              rotate_left
              ·rintro w' ⟨s0, s1, s2, s3, s4, s5, s6, s7, s8, s9, s10, s11, s12, s13, s14, s15, s16, s17, s18, s19, s20, s21, s22, s23, s24, s25, s26, s27⟩
               go_simp
               with_reducible rfl
              rotate_left
              ·simp only [Act.put, List.setIfInBounds_toArray, List.set_cons_zero, List.set_cons_succ, i64_w, i32_w]
               rfl
              refine pu 44 109 HT_ (h := ?_)
              refine pu 45 110 HT_ (h := ?_)
              refine pu 46 111 HT_ (h := ?_)
              refine pu 47 112 HT_ (h := ?_)
              refine pv 48 113 HT_ (h := ?_)
              refine pv 49 114 HT_ (h := ?_)
              refine pv 50 115 HT_ (h := ?_)
              refine pv 51 116 HT_ (h := ?_)
              refine pv 52 117 HT_ (h := ?_)
              refine pu 53 118 HT_ (h := ?_)
              refine pu 54 2 HT_ (h := ?_)
              refine done_ (done_of HT_.out (by kernel_rfl)) ?_
              try go_wp2
              go_ret
              exact ⟨by first | rfl | (simp [errW_none, errW_some] <;> rfl) | (simp [*, errW_none, errW_some] <;> rfl), by repeat (first | (with_reducible first | exact HB.out | apply below_alloc | apply pw_below_drewN | apply below_drew1 | refine below_set ?_ GE278.out | refine below_set ?_ GE289.out | refine below_set ?_ GE300.out) | exact HB.out)⟩
            ·rw [if_neg c91] at H
             have c91b0 : ((t282.length : Int) == (wrap64 ((t273.length : Int) + 1))) = false := beq_eq_false_iff_ne.mpr c91
             have c91b1 : ((t282.length : Int) != (wrap64 ((t273.length : Int) + 1))) = true := bne_iff_ne.mpr c91
             obtain rfl := Option.some.inj H
             obtain ⟨Ao103, co103, eo103⟩ := Kd.R_slice HO_6.out
             subst eo103
             try go_wp2
             have n0_ := m_ (Kd.R_drew HO_6.out)
             have n1_ := m_ (Kd.R_drew HO_8.out)
             have n2_ := m_ (Kd.R_drew HO_279003.out)
             have n3_ := m_ (Kd.R_drew HO_290003.out)
             have n4_ := m_ (Kd.R_drew HO_301003.out)
             have n5_ := m_ (blk_drew BK278.out)
             have n6_ := m_ (blk_drew BK289.out)
             have n7_ := m_ (blk_drew BK300.out)
             have n8_ := m_ (below_drew1 HB.out)
             clear HO_6
             clear HO_8
             clear HO_279003
             clear HO_290003
             clear HO_301003
             clear BK278
             clear BK289
             clear BK300
             clear HB
             have HO_6 := n0_
             have HO_8 := n1_
             have HO_279003 := n2_
             have HO_290003 := n3_
             have HO_301003 := n4_
             have BK278 := n5_
             have BK289 := n6_
             have BK300 := n7_
             have HB := n8_
             clear n0_ n1_ n2_ n3_ n4_ n5_ n6_ n7_ n8_
             have p309 : 0 ≤ (0 : Int) := (by omega)
             have q309 : 0 < (t286.length : Int) := of_decide_eq_true (by first | (with_reducible assumption) | assumption)
             obtain ⟨ad309, e309, hx309_0, hx309_1, hx309_2, hx309_3, hx309_4, hx309_5⟩ := at_T35 (Kd.R_reads' HO_6.out).2.2 0 p309 q309
             (try rw [← Nbq85.out] at hx309_0)
             (try rw [← Nbq85.out] at hx309_1)
             cases e309
             have qi309 : (0 < t286.length) = True := eq_true (by omega)
             (try rw [show ((0 : Int)).toNat = 0 from rfl] at hx309_0)
             (try rw [show 0 * 6 = 0 from rfl] at hx309_0)
             (try rw [Addr.add_zero'] at hx309_0)
             (try rw [show ((0 : Int)).toNat = 0 from rfl] at hx309_1)
             (try rw [show 0 * 6 = 0 from rfl] at hx309_1)
             (try rw [Addr.add_zero'] at hx309_1)
             (try rw [show ((0 : Int)).toNat = 0 from rfl] at hx309_2)
             (try rw [show 0 * 6 = 0 from rfl] at hx309_2)
             (try rw [Addr.add_zero'] at hx309_2)
             (try rw [show ((0 : Int)).toNat = 0 from rfl] at hx309_3)
             (try rw [show 0 * 6 = 0 from rfl] at hx309_3)
             (try rw [Addr.add_zero'] at hx309_3)
             (try rw [show ((0 : Int)).toNat = 0 from rfl] at hx309_4)
             (try rw [show 0 * 6 = 0 from rfl] at hx309_4)
             (try rw [Addr.add_zero'] at hx309_4)
             (try rw [show ((0 : Int)).toNat = 0 from rfl] at hx309_5)
             (try rw [show 0 * 6 = 0 from rfl] at hx309_5)
             (try rw [Addr.add_zero'] at hx309_5)
             replace p309 := eq_true p309
             replace q309 := eq_true q309
             have p310 : 0 ≤ (0 : Int) := (by omega)
             have q310 : 0 < (t286.length : Int) := of_decide_eq_true (by first | (with_reducible assumption) | assumption)
             obtain ⟨ad310, e310, hx310_0, hx310_1, hx310_2, hx310_3, hx310_4, hx310_5⟩ := at_T35 (Kd.R_reads' HO_6.out).2.2 0 p310 q310
             (try rw [← Nbq85.out] at hx310_0)
             (try rw [← Nbq85.out] at hx310_1)
             obtain rfl : ad309 = ad310 := (by injection e310)
             have qi310 : (0 < t286.length) = True := eq_true (by omega)
             (try rw [show ((0 : Int)).toNat = 0 from rfl] at hx310_0)
             (try rw [show 0 * 6 = 0 from rfl] at hx310_0)
             (try rw [Addr.add_zero'] at hx310_0)
             (try rw [show ((0 : Int)).toNat = 0 from rfl] at hx310_1)
             (try rw [show 0 * 6 = 0 from rfl] at hx310_1)
             (try rw [Addr.add_zero'] at hx310_1)
             (try rw [show ((0 : Int)).toNat = 0 from rfl] at hx310_2)
             (try rw [show 0 * 6 = 0 from rfl] at hx310_2)
             (try rw [Addr.add_zero'] at hx310_2)
             (try rw [show ((0 : Int)).toNat = 0 from rfl] at hx310_3)
             (try rw [show 0 * 6 = 0 from rfl] at hx310_3)
             (try rw [Addr.add_zero'] at hx310_3)
             (try rw [show ((0 : Int)).toNat = 0 from rfl] at hx310_4)
             (try rw [show 0 * 6 = 0 from rfl] at hx310_4)
             (try rw [Addr.add_zero'] at hx310_4)
             (try rw [show ((0 : Int)).toNat = 0 from rfl] at hx310_5)
             (try rw [show 0 * 6 = 0 from rfl] at hx310_5)
             (try rw [Addr.add_zero'] at hx310_5)
             replace p310 := eq_true p310
             replace q310 := eq_true q310
             have p311 : 0 ≤ (0 : Int) := (by omega)
             have q311 : 0 < (t286.length : Int) := of_decide_eq_true (by first | (with_reducible assumption) | assumption)
             obtain ⟨ad311, e311, hx311_0, hx311_1, hx311_2, hx311_3, hx311_4, hx311_5⟩ := at_T35 (Kd.R_reads' HO_6.out).2.2 0 p311 q311
             (try rw [← Nbq85.out] at hx311_0)
             (try rw [← Nbq85.out] at hx311_1)
             obtain rfl : ad309 = ad311 := (by injection e311)
             have qi311 : (0 < t286.length) = True := eq_true (by omega)
             (try rw [show ((0 : Int)).toNat = 0 from rfl] at hx311_0)
             (try rw [show 0 * 6 = 0 from rfl] at hx311_0)
             (try rw [Addr.add_zero'] at hx311_0)
             (try rw [show ((0 : Int)).toNat = 0 from rfl] at hx311_1)
             (try rw [show 0 * 6 = 0 from rfl] at hx311_1)
             (try rw [Addr.add_zero'] at hx311_1)
             (try rw [show ((0 : Int)).toNat = 0 from rfl] at hx311_2)
             (try rw [show 0 * 6 = 0 from rfl] at hx311_2)
             (try rw [Addr.add_zero'] at hx311_2)
             (try rw [show ((0 : Int)).toNat = 0 from rfl] at hx311_3)
             (try rw [show 0 * 6 = 0 from rfl] at hx311_3)
             (try rw [Addr.add_zero'] at hx311_3)
             (try rw [show ((0 : Int)).toNat = 0 from rfl] at hx311_4)
             (try rw [show 0 * 6 = 0 from rfl] at hx311_4)
             (try rw [Addr.add_zero'] at hx311_4)
             (try rw [show ((0 : Int)).toNat = 0 from rfl] at hx311_5)
             (try rw [show 0 * 6 = 0 from rfl] at hx311_5)
             (try rw [Addr.add_zero'] at hx311_5)
             replace p311 := eq_true p311
             replace q311 := eq_true q311
             refine start_ (n := 55) (S := fun w' => w'.cell? ⟨gb278, 0, none⟩ = some (.int .i64 t270) ∧ w'.cell? ⟨gb278, 1, none⟩ = some (.int .i64 t271) ∧ w'.cell? ⟨gb278, 2, none⟩ = some (.int .i64 t272) ∧ w'.cell? ⟨gb278, 3, none⟩ = some (.slice Ao10 t273.length co10) ∧ w'.cell? ⟨gb278, 4, none⟩ = some (.bool t276) ∧ w'.cell? ⟨gb289, 0, none⟩ = some (.int .i64 t279) ∧ w'.cell? ⟨gb289, 1, none⟩ = some (.int .i64 t280) ∧ w'.cell? ⟨gb289, 2, none⟩ = some (.int .i64 t281) ∧ w'.cell? ⟨gb289, 3, none⟩ = some (.slice Ao15 t282.length co15) ∧ w'.cell? ⟨gb289, 4, none⟩ = some (.bool t285) ∧ w'.cell? ad309 = some (.bool false) ∧ w'.cell? ⟨ad309.block, ad309.off + 1, none⟩ = some (.bool ((rd_T35 t286 0).f1)) ∧ w'.cell? ⟨ad309.block, ad309.off + 2, none⟩ = some (.int .i64 ((rd_T35 t286 0).f2)) ∧ w'.cell? ⟨ad309.block, ad309.off + 3, none⟩ = some (.int .i64 ((rd_T35 t286 0).f3)) ∧ w'.cell? ⟨ad309.block, ad309.off + 4, none⟩ = some (.int .i64 ((rd_T35 t286 0).f4)) ∧ w'.cell? ⟨ad309.block, ad309.off + 5, none⟩ = some (.string ((rd_T35 t286 0).f5)) ∧ w'.cell? ad309 = some (.bool false) ∧ w'.cell? ⟨ad309.block, ad309.off + 1, none⟩ = some (.bool ((rd_T35 t286 0).f1)) ∧ w'.cell? ⟨ad309.block, ad309.off + 2, none⟩ = some (.int .i64 ((rd_T35 t286 0).f2)) ∧ w'.cell? ⟨ad309.block, ad309.off + 3, none⟩ = some (.int .i64 ((rd_T35 t286 0).f3)) ∧ w'.cell? ⟨ad309.block, ad309.off + 4, none⟩ = some (.int .i64 ((rd_T35 t286 0).f4)) ∧ w'.cell? ⟨ad309.block, ad309.off + 5, none⟩ = some (.string ((rd_T35 t286 0).f5)) ∧ w'.cell? ad309 = some (.bool false) ∧ w'.cell? ⟨ad309.block, ad309.off + 1, none⟩ = some (.bool ((rd_T35 t286 0).f1)) ∧ w'.cell? ⟨ad309.block, ad309.off + 2, none⟩ = some (.int .i64 ((rd_T35 t286 0).f2)) ∧ w'.cell? ⟨ad309.block, ad309.off + 3, none⟩ = some (.int .i64 ((rd_T35 t286 0).f3)) ∧ w'.cell? ⟨ad309.block, ad309.off + 4, none⟩ = some (.int .i64 ((rd_T35 t286 0).f4)) ∧ w'.cell? ⟨ad309.block, ad309.off + 5, none⟩ = some (.string ((rd_T35 t286 0).f5))) (ds := []) #[false, false, false, false, false, false, false, false, false, false, false, false, false, false, false, false, false, false, false, false, false, false, false, false, false, false, false, false, false, false, false, false, false, false, false, false, false, false, false, false, false, false, false, false, false, false, false, false, false, false, false, false, false, false, false] (by kernel_rfl) rfl rfl ⟨bc BK278 0, bc BK278 1, bc BK278 2, bc BK278 3, bc BK278 4, bc BK289 0, bc BK289 1, bc BK289 2, bc BK289 3, bc BK289 4, hx309_0, hx309_1, hx309_2, hx309_3, hx309_4, hx309_5, hx310_0, hx310_1, hx310_2, hx310_3, hx310_4, hx310_5, hx311_0, hx311_1, hx311_2, hx311_3, hx311_4, hx311_5⟩ (fun hHeld => ?_); refine with_tabW laws_FnFopSend.tab10 laws_FnFopSend.bits10 (fun HT_ HW_ => ?_)
             generalize wc.drew = w104 at HO_6 HO_8 HO_279003 HO_290003 HO_301003 BK278 BK289 BK300 HB hx309_0 hx309_1 hx309_2 hx309_3 hx309_4 hx309_5 hx310_0 hx310_1 hx310_2 hx310_3 hx310_4 hx310_5 hx311_0 hx311_1 hx311_2 hx311_3 hx311_4 hx311_5 hHeld ⊢
             refine pu 0 65 HT_ (h := ?_)
             refine pu 1 66 HT_ (h := ?_)
             refine pu 2 67 HT_ (h := ?_)
             refine pu 3 68 HT_ (h := ?_)
             refine pu 4 69 HT_ (h := ?_)
             refine pu 5 70 HT_ (h := ?_)
             refine pu 6 71 HT_ (h := ?_)
             refine pu 8 73 HT_ (h := ?_)
             refine take_ (i := 7) (N := some 72) (v := ?_) (a' := ?_) #[true, true, true, true, true, true, true, true, true, false, false, false, false, false, false, false, false, false, false, false, false, false, false, false, false, false, false, false, false, false, false, false, false, false, false, false, false, false, false, false, false, false, false, false, false, false, false, false, false, false, false, false, false, false, false] rfl rfl (take_ofW HT_.out HW_.out (by kernel_rfl)) (fun _ _ _ h => h) (Or.inl ⟨by rfl, ?_⟩) hHeld ?_ ?_
             rotate_left
             ·rintro w' ⟨s0, s1, s2, s3, s4, s5, s6, s7, s8, s9, s10, s11, s12, s13, s14, s15, s16, s17, s18, s19, s20, s21, s22, s23, s24, s25, s26, s27⟩
              go_simp
              with_reducible rfl
             rotate_left
             ·simp only [Act.put, List.setIfInBounds_toArray, List.set_cons_zero, List.set_cons_succ, i64_w, i32_w]
              rfl
             refine take_ (i := 9) (N := some 74) (v := ?_) (a' := ?_) #[true, true, true, true, true, true, true, true, true, true, false, false, false, false, false, false, false, false, false, false, false, false, false, false, false, false, false, false, false, false, false, false, false, false, false, false, false, false, false, false, false, false, false, false, false, false, false, false, false, false, false, false, false, false, false] rfl rfl (take_ofW HT_.out HW_.out (by kernel_rfl)) (fun _ _ _ h => h) (Or.inl ⟨by rfl, ?_⟩) hHeld ?_ ?_
             rotate_left
             ·rintro w' ⟨s0, s1, s2, s3, s4, s5, s6, s7, s8, s9, s10, s11, s12, s13, s14, s15, s16, s17, s18, s19, s20, s21, s22, s23, s24, s25, s26, s27⟩
              go_simp
              with_reducible rfl
             rotate_left
             ·simp only [Act.put, List.setIfInBounds_toArray, List.set_cons_zero, List.set_cons_succ, i64_w, i32_w]
              rfl
             refine pu 10 75 HT_ (h := ?_)
             refine pu 11 76 HT_ (h := ?_)
             refine pu 12 77 HT_ (h := ?_)
             refine pu 13 78 HT_ (h := ?_)
             refine pu 14 79 HT_ (h := ?_)
             refine pu 15 80 HT_ (h := ?_)
             refine pu 17 82 HT_ (h := ?_)
             refine take_ (i := 16) (N := some 81) (v := ?_) (a' := ?_) #[true, true, true, true, true, true, true, true, true, true, true, true, true, true, true, true, true, true, false, false, false, false, false, false, false, false, false, false, false, false, false, false, false, false, false, false, false, false, false, false, false, false, false, false, false, false, false, false, false, false, false, false, false, false, false] rfl rfl (take_ofW HT_.out HW_.out (by kernel_rfl)) (fun _ _ _ h => h) (Or.inl ⟨by rfl, ?_⟩) hHeld ?_ ?_
             rotate_left
             ·rintro w' ⟨s0, s1, s2, s3, s4, s5, s6, s7, s8, s9, s10, s11, s12, s13, s14, s15, s16, s17, s18, s19, s20, s21, s22, s23, s24, s25, s26, s27⟩
              go_simp
              with_reducible rfl
             rotate_left
             ·simp only [Act.put, List.setIfInBounds_toArray, List.set_cons_zero, List.set_cons_succ, i64_w, i32_w]
              rfl
             refine pu 18 83 HT_ (h := ?_)
             refine pu 19 84 HT_ (h := ?_)
             refine pu 20 85 HT_ (h := ?_)
             refine pu 21 86 HT_ (h := ?_)
             refine pu 22 87 HT_ (h := ?_)
             refine pu 23 88 HT_ (h := ?_)
             refine take_ (i := 24) (N := some 89) (v := ?_) (a' := ?_) #[true, true, true, true, true, true, true, true, true, true, true, true, true, true, true, true, true, true, true, true, true, true, true, true, true, false, false, false, false, false, false, false, false, false, false, false, false, false, false, false, false, false, false, false, false, false, false, false, false, false, false, false, false, false, false] rfl rfl (take_ofW HT_.out HW_.out (by kernel_rfl)) (fun _ _ _ h => h) (Or.inl ⟨by rfl, ?_⟩) hHeld ?_ ?_
             rotate_left
             ·rintro w' ⟨s0, s1, s2, s3, s4, s5, s6, s7, s8, s9, s10, s11, s12, s13, s14, s15, s16, s17, s18, s19, s20, s21, s22, s23, s24, s25, s26, s27⟩
              go_simp
              with_reducible rfl
             rotate_left
             ·simp only [Act.put, List.setIfInBounds_toArray, List.set_cons_zero, List.set_cons_succ, i64_w, i32_w]
              rfl
             refine pu 25 90 HT_ (h := ?_)
             refine pu 26 91 HT_ (h := ?_)
             refine pu 27 92 HT_ (h := ?_)
             refine take_ (i := 28) (N := some 93) (v := ?_) (a' := ?_) #[true, true, true, true, true, true, true, true, true, true, true, true, true, true, true, true, true, true, true, true, true, true, true, true, true, true, true, true, true, false, false, false, false, false, false, false, false, false, false, false, false, false, false, false, false, false, false, false, false, false, false, false, false, false, false] rfl rfl (take_ofW HT_.out HW_.out (by kernel_rfl)) (fun _ _ _ h => h) (Or.inl ⟨by rfl, ?_⟩) hHeld ?_ ?_
             rotate_left
             ·rintro w' ⟨s0, s1, s2, s3, s4, s5, s6, s7, s8, s9, s10, s11, s12, s13, s14, s15, s16, s17, s18, s19, s20, s21, s22, s23, s24, s25, s26, s27⟩
              go_simp
              with_reducible rfl
             rotate_left
             ·simp only [Act.put, List.setIfInBounds_toArray, List.set_cons_zero, List.set_cons_succ, i64_w, i32_w]
              rfl
             refine one_ (i := 29) (N := some 94) #[true, true, true, true, true, true, true, true, true, true, true, true, true, true, true, true, true, true, true, true, true, true, true, true, true, true, true, true, true, true, false, false, false, false, false, false, false, false, false, false, false, false, false, false, false, false, false, false, false, false, false, false, false, false, false] rfl rfl (one_of HT_.out (by kernel_rfl)) (by decide) (fun K hK => ?_)
             refine goes_ Try.func12 (by kernel_rfl) rfl #[.agg #[.int .i64 t279, .int .i64 t280, .int .i64 t281, .slice Ao15 t282.length co15, .bool t285]] (by rfl) rfl rfl gl_ ?_
             with_reducible refine (impl_FopOk.calls kj5 t279 t280 t281 _ _ t282 t285 true _ ?side1 ?side2 A89.out).mono ?_
             (case side1 => exact cN (Kd.R_reads' HO_290003.out).2.2)
             (case side2 => exact (Kd.R_reads' HO_290003.out).2.1)
             rintro e w105 ⟨rfl, hb⟩
             have HS10_ := (hb.cell (World.block_lt_of_cell? _ _ (hHeld.2.2.2.2.2.2.2.2.2.2.1))).trans (hHeld.2.2.2.2.2.2.2.2.2.2.1)
             have HS11_ := (hb.cell (World.block_lt_of_cell? _ _ (hHeld.2.2.2.2.2.2.2.2.2.2.2.1))).trans (hHeld.2.2.2.2.2.2.2.2.2.2.2.1)
             have HS12_ := (hb.cell (World.block_lt_of_cell? _ _ (hHeld.2.2.2.2.2.2.2.2.2.2.2.2.1))).trans (hHeld.2.2.2.2.2.2.2.2.2.2.2.2.1)
             have HS13_ := (hb.cell (World.block_lt_of_cell? _ _ (hHeld.2.2.2.2.2.2.2.2.2.2.2.2.2.1))).trans (hHeld.2.2.2.2.2.2.2.2.2.2.2.2.2.1)
             have HS14_ := (hb.cell (World.block_lt_of_cell? _ _ (hHeld.2.2.2.2.2.2.2.2.2.2.2.2.2.2.1))).trans (hHeld.2.2.2.2.2.2.2.2.2.2.2.2.2.2.1)
             have HS15_ := (hb.cell (World.block_lt_of_cell? _ _ (hHeld.2.2.2.2.2.2.2.2.2.2.2.2.2.2.2.1))).trans (hHeld.2.2.2.2.2.2.2.2.2.2.2.2.2.2.2.1)
             have HS16_ := (hb.cell (World.block_lt_of_cell? _ _ (hHeld.2.2.2.2.2.2.2.2.2.2.2.2.2.2.2.2.1))).trans (hHeld.2.2.2.2.2.2.2.2.2.2.2.2.2.2.2.2.1)
             have HS17_ := (hb.cell (World.block_lt_of_cell? _ _ (hHeld.2.2.2.2.2.2.2.2.2.2.2.2.2.2.2.2.2.1))).trans (hHeld.2.2.2.2.2.2.2.2.2.2.2.2.2.2.2.2.2.1)
             have HS18_ := (hb.cell (World.block_lt_of_cell? _ _ (hHeld.2.2.2.2.2.2.2.2.2.2.2.2.2.2.2.2.2.2.1))).trans (hHeld.2.2.2.2.2.2.2.2.2.2.2.2.2.2.2.2.2.2.1)
             have HS19_ := (hb.cell (World.block_lt_of_cell? _ _ (hHeld.2.2.2.2.2.2.2.2.2.2.2.2.2.2.2.2.2.2.2.1))).trans (hHeld.2.2.2.2.2.2.2.2.2.2.2.2.2.2.2.2.2.2.2.1)
             have HS20_ := (hb.cell (World.block_lt_of_cell? _ _ (hHeld.2.2.2.2.2.2.2.2.2.2.2.2.2.2.2.2.2.2.2.2.1))).trans (hHeld.2.2.2.2.2.2.2.2.2.2.2.2.2.2.2.2.2.2.2.2.1)
             have HS21_ := (hb.cell (World.block_lt_of_cell? _ _ (hHeld.2.2.2.2.2.2.2.2.2.2.2.2.2.2.2.2.2.2.2.2.2.1))).trans (hHeld.2.2.2.2.2.2.2.2.2.2.2.2.2.2.2.2.2.2.2.2.2.1)
             have HS22_ := (hb.cell (World.block_lt_of_cell? _ _ (hHeld.2.2.2.2.2.2.2.2.2.2.2.2.2.2.2.2.2.2.2.2.2.2.1))).trans (hHeld.2.2.2.2.2.2.2.2.2.2.2.2.2.2.2.2.2.2.2.2.2.2.1)
             have HS23_ := (hb.cell (World.block_lt_of_cell? _ _ (hHeld.2.2.2.2.2.2.2.2.2.2.2.2.2.2.2.2.2.2.2.2.2.2.2.1))).trans (hHeld.2.2.2.2.2.2.2.2.2.2.2.2.2.2.2.2.2.2.2.2.2.2.2.1)
             have HS24_ := (hb.cell (World.block_lt_of_cell? _ _ (hHeld.2.2.2.2.2.2.2.2.2.2.2.2.2.2.2.2.2.2.2.2.2.2.2.2.1))).trans (hHeld.2.2.2.2.2.2.2.2.2.2.2.2.2.2.2.2.2.2.2.2.2.2.2.2.1)
             have HS25_ := (hb.cell (World.block_lt_of_cell? _ _ (hHeld.2.2.2.2.2.2.2.2.2.2.2.2.2.2.2.2.2.2.2.2.2.2.2.2.2.1))).trans (hHeld.2.2.2.2.2.2.2.2.2.2.2.2.2.2.2.2.2.2.2.2.2.2.2.2.2.1)
             have HS26_ := (hb.cell (World.block_lt_of_cell? _ _ (hHeld.2.2.2.2.2.2.2.2.2.2.2.2.2.2.2.2.2.2.2.2.2.2.2.2.2.2.1))).trans (hHeld.2.2.2.2.2.2.2.2.2.2.2.2.2.2.2.2.2.2.2.2.2.2.2.2.2.2.1)
             have HS27_ := (hb.cell (World.block_lt_of_cell? _ _ (hHeld.2.2.2.2.2.2.2.2.2.2.2.2.2.2.2.2.2.2.2.2.2.2.2.2.2.2.2))).trans (hHeld.2.2.2.2.2.2.2.2.2.2.2.2.2.2.2.2.2.2.2.2.2.2.2.2.2.2.2)
             refine ⟨_, rfl, ?_⟩
             have n0_ := m_ (Kd.R_below (rN HO_6.out) hb)
             have n1_ := m_ (Kd.R_below (rN HO_8.out) hb)
             have n2_ := m_ (Kd.R_below (rN HO_279003.out) hb)
             have n3_ := m_ (Kd.R_below (rN HO_290003.out) hb)
             have n4_ := m_ (Kd.R_below (rN HO_301003.out) hb)
             have n5_ := m_ (blk_below (kN BK278.out) hb)
             have n6_ := m_ (blk_below (kN BK289.out) hb)
             have n7_ := m_ (blk_below (kN BK300.out) hb)
             have n8_ := m_ (below_step (bN HB.out) hb)
             clear HO_6
             clear HO_8
             clear HO_279003
             clear HO_290003
             clear HO_301003
             clear BK278
             clear BK289
             clear BK300
             clear HB
             have HO_6 := n0_
             have HO_8 := n1_
             have HO_279003 := n2_
             have HO_290003 := n3_
             have HO_301003 := n4_
             have BK278 := n5_
             have BK289 := n6_
             have BK300 := n7_
             have HB := n8_
             clear n0_ n1_ n2_ n3_ n4_ n5_ n6_ n7_ n8_
             (try clear hb)
             (try clear hb2)
             (try clear hk)
             (try clear hi)
             refine hK.out _ _ ⟨bc BK278 0, bc BK278 1, bc BK278 2, bc BK278 3, bc BK278 4, bc BK289 0, bc BK289 1, bc BK289 2, bc BK289 3, bc BK289 4, HS10_, HS11_, HS12_, HS13_, HS14_, HS15_, HS16_, HS17_, HS18_, HS19_, HS20_, HS21_, HS22_, HS23_, HS24_, HS25_, HS26_, HS27_⟩ (fun hHeld => ?_)
             clear hK K
             refine np (h := ?_)
             refine pu 30 95 HT_ (h := ?_)
             refine pu 31 96 HT_ (h := ?_)
             refine pu 32 97 HT_ (h := ?_)
             refine pu 35 100 HT_ (h := ?_)
             refine take_ (i := 33) (N := some 98) (v := ?_) (a' := ?_) #[true, true, true, true, true, true, true, true, true, true, true, true, true, true, true, true, true, true, true, true, true, true, true, true, true, true, true, true, true, true, true, true, true, true, false, true, false, false, false, false, false, false, false, false, false, false, false, false, false, false, false, false, false, false, false] rfl rfl (take_ofW HT_.out HW_.out (by kernel_rfl)) (fun _ _ _ h => h) (Or.inl ⟨by rfl, ?_⟩) hHeld ?_ ?_
             rotate_left
             ·rintro w' ⟨s0, s1, s2, s3, s4, s5, s6, s7, s8, s9, s10, s11, s12, s13, s14, s15, s16, s17, s18, s19, s20, s21, s22, s23, s24, s25, s26, s27⟩
              go_simp
              with_reducible rfl
             rotate_left
             ·simp only [Act.put, List.setIfInBounds_toArray, List.set_cons_zero, List.set_cons_succ, i64_w, i32_w]
              rfl
             refine pu 34 99 HT_ (h := ?_)
             refine take_ (i := 36) (N := some 101) (v := ?_) (a' := ?_) #[true, true, true, true, true, true, true, true, true, true, true, true, true, true, true, true, true, true, true, true, true, true, true, true, true, true, true, true, true, true, true, true, true, true, true, true, true, false, false, false, false, false, false, false, false, false, false, false, false, false, false, false, false, false, false] rfl rfl (take_ofW HT_.out HW_.out (by kernel_rfl)) (fun _ _ _ h => h) (Or.inl ⟨by rfl, ?_⟩) hHeld ?_ ?_
             rotate_left
             ·rintro w' ⟨s0, s1, s2, s3, s4, s5, s6, s7, s8, s9, s10, s11, s12, s13, s14, s15, s16, s17, s18, s19, s20, s21, s22, s23, s24, s25, s26, s27⟩
              go_simp
              with_reducible rfl
             rotate_left
             ·simp only [Act.put, List.setIfInBounds_toArray, List.set_cons_zero, List.set_cons_succ, i64_w, i32_w]
              rfl
             refine pu 37 102 HT_ (h := ?_)
             refine pu 38 103 HT_ (h := ?_)
             refine pu 39 104 HT_ (h := ?_)
             refine pu 40 105 HT_ (h := ?_)
             refine pu 41 106 HT_ (h := ?_)
             refine pv 42 107 HT_ (h := ?_)
             refine pv 43 108 HT_ (h := ?_)
             refine pv 44 109 HT_ (h := ?_)
             refine pv 45 110 HT_ (h := ?_)
             refine pu 46 111 HT_ (h := ?_)
             refine pu 47 112 HT_ (h := ?_)
             refine pv 48 113 HT_ (h := ?_)
             refine pv 49 114 HT_ (h := ?_)
             refine pv 50 115 HT_ (h := ?_)
             refine pv 51 116 HT_ (h := ?_)
             refine pv 52 117 HT_ (h := ?_)
             refine pu 53 118 HT_ (h := ?_)
             refine pu 54 2 HT_ (h := ?_)
             refine done_ (done_of HT_.out (by kernel_rfl)) ?_
             try go_wp2
             go_ret
             exact ⟨by first | rfl | (simp [errW_none, errW_some] <;> rfl) | (simp [*, errW_none, errW_some] <;> rfl), by repeat (first | (with_reducible first | exact HB.out | apply below_alloc | apply pw_below_drewN | apply below_drew1 | refine below_set ?_ GE278.out | refine below_set ?_ GE289.out | refine below_set ?_ GE300.out) | exact HB.out)⟩
           ·replace c90 := Bool.eq_false_iff.mpr c90
            subst c90
            have H1 : (some false) = some r := by rw [if_neg (show ¬ (false = true) by decide)] at H; exact H
            clear H
            have H := H1
            clear H1
            obtain rfl := Option.some.inj H
            obtain ⟨Ao106, co106, eo106⟩ := Kd.R_slice HO_6.out
            subst eo106
            try go_wp2
            have n0_ := m_ (Kd.R_drew HO_6.out)
            have n1_ := m_ (Kd.R_drew HO_8.out)
            have n2_ := m_ (Kd.R_drew HO_279003.out)
            have n3_ := m_ (Kd.R_drew HO_290003.out)
            have n4_ := m_ (Kd.R_drew HO_301003.out)
            have n5_ := m_ (blk_drew BK278.out)
            have n6_ := m_ (blk_drew BK289.out)
            have n7_ := m_ (blk_drew BK300.out)
            have n8_ := m_ (below_drew1 HB.out)
            clear HO_6
            clear HO_8
            clear HO_279003
            clear HO_290003
            clear HO_301003
            clear BK278
            clear BK289
            clear BK300
            clear HB
            have HO_6 := n0_
            have HO_8 := n1_
            have HO_279003 := n2_
            have HO_290003 := n3_
            have HO_301003 := n4_
            have BK278 := n5_
            have BK289 := n6_
            have BK300 := n7_
            have HB := n8_
            clear n0_ n1_ n2_ n3_ n4_ n5_ n6_ n7_ n8_
            have p309 : 0 ≤ (0 : Int) := (by omega)
            have q309 : 0 < (t286.length : Int) := of_decide_eq_true (by first | (with_reducible assumption) | assumption)
            obtain ⟨ad309, e309, hx309_0, hx309_1, hx309_2, hx309_3, hx309_4, hx309_5⟩ := at_T35 (Kd.R_reads' HO_6.out).2.2 0 p309 q309
            (try rw [← Nbq85.out] at hx309_0)
            (try rw [← Nbq85.out] at hx309_1)
            cases e309
            have qi309 : (0 < t286.length) = True := eq_true (by omega)
            (try rw [show ((0 : Int)).toNat = 0 from rfl] at hx309_0)
            (try rw [show 0 * 6 = 0 from rfl] at hx309_0)
            (try rw [Addr.add_zero'] at hx309_0)
            (try rw [show ((0 : Int)).toNat = 0 from rfl] at hx309_1)
            (try rw [show 0 * 6 = 0 from rfl] at hx309_1)
            (try rw [Addr.add_zero'] at hx309_1)
            (try rw [show ((0 : Int)).toNat = 0 from rfl] at hx309_2)
            (try rw [show 0 * 6 = 0 from rfl] at hx309_2)
            (try rw [Addr.add_zero'] at hx309_2)
            (try rw [show ((0 : Int)).toNat = 0 from rfl] at hx309_3)
            (try rw [show 0 * 6 = 0 from rfl] at hx309_3)
            (try rw [Addr.add_zero'] at hx309_3)
            (try rw [show ((0 : Int)).toNat = 0 from rfl] at hx309_4)
            (try rw [show 0 * 6 = 0 from rfl] at hx309_4)
            (try rw [Addr.add_zero'] at hx309_4)
            (try rw [show ((0 : Int)).toNat = 0 from rfl] at hx309_5)
            (try rw [show 0 * 6 = 0 from rfl] at hx309_5)
            (try rw [Addr.add_zero'] at hx309_5)
            replace p309 := eq_true p309
            replace q309 := eq_true q309
            have p310 : 0 ≤ (0 : Int) := (by omega)
            have q310 : 0 < (t286.length : Int) := of_decide_eq_true (by first | (with_reducible assumption) | assumption)
            obtain ⟨ad310, e310, hx310_0, hx310_1, hx310_2, hx310_3, hx310_4, hx310_5⟩ := at_T35 (Kd.R_reads' HO_6.out).2.2 0 p310 q310
            (try rw [← Nbq85.out] at hx310_0)
            (try rw [← Nbq85.out] at hx310_1)
            obtain rfl : ad309 = ad310 := (by injection e310)
            have qi310 : (0 < t286.length) = True := eq_true (by omega)
            (try rw [show ((0 : Int)).toNat = 0 from rfl] at hx310_0)
            (try rw [show 0 * 6 = 0 from rfl] at hx310_0)
            (try rw [Addr.add_zero'] at hx310_0)
            (try rw [show ((0 : Int)).toNat = 0 from rfl] at hx310_1)
            (try rw [show 0 * 6 = 0 from rfl] at hx310_1)
            (try rw [Addr.add_zero'] at hx310_1)
            (try rw [show ((0 : Int)).toNat = 0 from rfl] at hx310_2)
            (try rw [show 0 * 6 = 0 from rfl] at hx310_2)
            (try rw [Addr.add_zero'] at hx310_2)
            (try rw [show ((0 : Int)).toNat = 0 from rfl] at hx310_3)
            (try rw [show 0 * 6 = 0 from rfl] at hx310_3)
            (try rw [Addr.add_zero'] at hx310_3)
            (try rw [show ((0 : Int)).toNat = 0 from rfl] at hx310_4)
            (try rw [show 0 * 6 = 0 from rfl] at hx310_4)
            (try rw [Addr.add_zero'] at hx310_4)
            (try rw [show ((0 : Int)).toNat = 0 from rfl] at hx310_5)
            (try rw [show 0 * 6 = 0 from rfl] at hx310_5)
            (try rw [Addr.add_zero'] at hx310_5)
            replace p310 := eq_true p310
            replace q310 := eq_true q310
            have p311 : 0 ≤ (0 : Int) := (by omega)
            have q311 : 0 < (t286.length : Int) := of_decide_eq_true (by first | (with_reducible assumption) | assumption)
            obtain ⟨ad311, e311, hx311_0, hx311_1, hx311_2, hx311_3, hx311_4, hx311_5⟩ := at_T35 (Kd.R_reads' HO_6.out).2.2 0 p311 q311
            (try rw [← Nbq85.out] at hx311_0)
            (try rw [← Nbq85.out] at hx311_1)
            obtain rfl : ad309 = ad311 := (by injection e311)
            have qi311 : (0 < t286.length) = True := eq_true (by omega)
            (try rw [show ((0 : Int)).toNat = 0 from rfl] at hx311_0)
            (try rw [show 0 * 6 = 0 from rfl] at hx311_0)
            (try rw [Addr.add_zero'] at hx311_0)
            (try rw [show ((0 : Int)).toNat = 0 from rfl] at hx311_1)
            (try rw [show 0 * 6 = 0 from rfl] at hx311_1)
            (try rw [Addr.add_zero'] at hx311_1)
            (try rw [show ((0 : Int)).toNat = 0 from rfl] at hx311_2)
            (try rw [show 0 * 6 = 0 from rfl] at hx311_2)
            (try rw [Addr.add_zero'] at hx311_2)
            (try rw [show ((0 : Int)).toNat = 0 from rfl] at hx311_3)
            (try rw [show 0 * 6 = 0 from rfl] at hx311_3)
            (try rw [Addr.add_zero'] at hx311_3)
            (try rw [show ((0 : Int)).toNat = 0 from rfl] at hx311_4)
            (try rw [show 0 * 6 = 0 from rfl] at hx311_4)
            (try rw [Addr.add_zero'] at hx311_4)
            (try rw [show ((0 : Int)).toNat = 0 from rfl] at hx311_5)
            (try rw [show 0 * 6 = 0 from rfl] at hx311_5)
            (try rw [Addr.add_zero'] at hx311_5)
            replace p311 := eq_true p311
            replace q311 := eq_true q311
            refine start_ (n := 55) (S := fun w' => w'.cell? ⟨gb278, 0, none⟩ = some (.int .i64 t270) ∧ w'.cell? ⟨gb278, 1, none⟩ = some (.int .i64 t271) ∧ w'.cell? ⟨gb278, 2, none⟩ = some (.int .i64 t272) ∧ w'.cell? ⟨gb278, 3, none⟩ = some (.slice Ao10 t273.length co10) ∧ w'.cell? ⟨gb278, 4, none⟩ = some (.bool t276) ∧ w'.cell? ⟨gb289, 0, none⟩ = some (.int .i64 t279) ∧ w'.cell? ⟨gb289, 1, none⟩ = some (.int .i64 t280) ∧ w'.cell? ⟨gb289, 2, none⟩ = some (.int .i64 t281) ∧ w'.cell? ⟨gb289, 3, none⟩ = some (.slice Ao15 t282.length co15) ∧ w'.cell? ⟨gb289, 4, none⟩ = some (.bool t285) ∧ w'.cell? ad309 = some (.bool false) ∧ w'.cell? ⟨ad309.block, ad309.off + 1, none⟩ = some (.bool ((rd_T35 t286 0).f1)) ∧ w'.cell? ⟨ad309.block, ad309.off + 2, none⟩ = some (.int .i64 ((rd_T35 t286 0).f2)) ∧ w'.cell? ⟨ad309.block, ad309.off + 3, none⟩ = some (.int .i64 ((rd_T35 t286 0).f3)) ∧ w'.cell? ⟨ad309.block, ad309.off + 4, none⟩ = some (.int .i64 ((rd_T35 t286 0).f4)) ∧ w'.cell? ⟨ad309.block, ad309.off + 5, none⟩ = some (.string ((rd_T35 t286 0).f5)) ∧ w'.cell? ad309 = some (.bool false) ∧ w'.cell? ⟨ad309.block, ad309.off + 1, none⟩ = some (.bool ((rd_T35 t286 0).f1)) ∧ w'.cell? ⟨ad309.block, ad309.off + 2, none⟩ = some (.int .i64 ((rd_T35 t286 0).f2)) ∧ w'.cell? ⟨ad309.block, ad309.off + 3, none⟩ = some (.int .i64 ((rd_T35 t286 0).f3)) ∧ w'.cell? ⟨ad309.block, ad309.off + 4, none⟩ = some (.int .i64 ((rd_T35 t286 0).f4)) ∧ w'.cell? ⟨ad309.block, ad309.off + 5, none⟩ = some (.string ((rd_T35 t286 0).f5)) ∧ w'.cell? ad309 = some (.bool false) ∧ w'.cell? ⟨ad309.block, ad309.off + 1, none⟩ = some (.bool ((rd_T35 t286 0).f1)) ∧ w'.cell? ⟨ad309.block, ad309.off + 2, none⟩ = some (.int .i64 ((rd_T35 t286 0).f2)) ∧ w'.cell? ⟨ad309.block, ad309.off + 3, none⟩ = some (.int .i64 ((rd_T35 t286 0).f3)) ∧ w'.cell? ⟨ad309.block, ad309.off + 4, none⟩ = some (.int .i64 ((rd_T35 t286 0).f4)) ∧ w'.cell? ⟨ad309.block, ad309.off + 5, none⟩ = some (.string ((rd_T35 t286 0).f5))) (ds := []) #[false, false, false, false, false, false, false, false, false, false, false, false, false, false, false, false, false, false, false, false, false, false, false, false, false, false, false, false, false, false, false, false, false, false, false, false, false, false, false, false, false, false, false, false, false, false, false, false, false, false, false, false, false, false, false] (by kernel_rfl) rfl rfl ⟨bc BK278 0, bc BK278 1, bc BK278 2, bc BK278 3, bc BK278 4, bc BK289 0, bc BK289 1, bc BK289 2, bc BK289 3, bc BK289 4, hx309_0, hx309_1, hx309_2, hx309_3, hx309_4, hx309_5, hx310_0, hx310_1, hx310_2, hx310_3, hx310_4, hx310_5, hx311_0, hx311_1, hx311_2, hx311_3, hx311_4, hx311_5⟩ (fun hHeld => ?_); refine with_tabW laws_FnFopSend.tab10 laws_FnFopSend.bits10 (fun HT_ HW_ => ?_)
            generalize wc.drew = w107 at HO_6 HO_8 HO_279003 HO_290003 HO_301003 BK278 BK289 BK300 HB hx309_0 hx309_1 hx309_2 hx309_3 hx309_4 hx309_5 hx310_0 hx310_1 hx310_2 hx310_3 hx310_4 hx310_5 hx311_0 hx311_1 hx311_2 hx311_3 hx311_4 hx311_5 hHeld ⊢
            refine pu 0 65 HT_ (h := ?_)
            refine pu 1 66 HT_ (h := ?_)
            refine pu 2 67 HT_ (h := ?_)
            refine pu 3 68 HT_ (h := ?_)
            refine pu 4 69 HT_ (h := ?_)
            refine pu 5 70 HT_ (h := ?_)
            refine pu 6 71 HT_ (h := ?_)
            refine pu 8 73 HT_ (h := ?_)
            refine take_ (i := 7) (N := some 72) (v := ?_) (a' := ?_) #[true, true, true, true, true, true, true, true, true, false, false, false, false, false, false, false, false, false, false, false, false, false, false, false, false, false, false, false, false, false, false, false, false, false, false, false, false, false, false, false, false, false, false, false, false, false, false, false, false, false, false, false, false, false, false] rfl rfl (take_ofW HT_.out HW_.out (by kernel_rfl)) (fun _ _ _ h => h) (Or.inl ⟨by rfl, ?_⟩) hHeld ?_ ?_
            rotate_left
            ·rintro w' ⟨s0, s1, s2, s3, s4, s5, s6, s7, s8, s9, s10, s11, s12, s13, s14, s15, s16, s17, s18, s19, s20, s21, s22, s23, s24, s25, s26, s27⟩
             go_simp
             with_reducible rfl
            rotate_left
            ·simp only [Act.put, List.setIfInBounds_toArray, List.set_cons_zero, List.set_cons_succ, i64_w, i32_w]
             rfl
            refine take_ (i := 9) (N := some 74) (v := ?_) (a' := ?_) #[true, true, true, true, true, true, true, true, true, true, false, false, false, false, false, false, false, false, false, false, false, false, false, false, false, false, false, false, false, false, false, false, false, false, false, false, false, false, false, false, false, false, false, false, false, false, false, false, false, false, false, false, false, false, false] rfl rfl (take_ofW HT_.out HW_.out (by kernel_rfl)) (fun _ _ _ h => h) (Or.inl ⟨by rfl, ?_⟩) hHeld ?_ ?_
            rotate_left
            ·rintro w' ⟨s0, s1, s2, s3, s4, s5, s6, s7, s8, s9, s10, s11, s12, s13, s14, s15, s16, s17, s18, s19, s20, s21, s22, s23, s24, s25, s26, s27⟩
             go_simp
             with_reducible rfl
            rotate_left
            ·simp only [Act.put, List.setIfInBounds_toArray, List.set_cons_zero, List.set_cons_succ, i64_w, i32_w]
             rfl
            refine pu 10 75 HT_ (h := ?_)
            refine pu 11 76 HT_ (h := ?_)
            refine pu 12 77 HT_ (h := ?_)
            refine pu 13 78 HT_ (h := ?_)
            refine pu 14 79 HT_ (h := ?_)
            refine pu 15 80 HT_ (h := ?_)
            refine pu 17 82 HT_ (h := ?_)
            refine take_ (i := 16) (N := some 81) (v := ?_) (a' := ?_) #[true, true, true, true, true, true, true, true, true, true, true, true, true, true, true, true, true, true, false, false, false, false, false, false, false, false, false, false, false, false, false, false, false, false, false, false, false, false, false, false, false, false, false, false, false, false, false, false, false, false, false, false, false, false, false] rfl rfl (take_ofW HT_.out HW_.out (by kernel_rfl)) (fun _ _ _ h => h) (Or.inl ⟨by rfl, ?_⟩) hHeld ?_ ?_
            rotate_left
            ·rintro w' ⟨s0, s1, s2, s3, s4, s5, s6, s7, s8, s9, s10, s11, s12, s13, s14, s15, s16, s17, s18, s19, s20, s21, s22, s23, s24, s25, s26, s27⟩
             go_simp
             with_reducible rfl
            rotate_left
            ·simp only [Act.put, List.setIfInBounds_toArray, List.set_cons_zero, List.set_cons_succ, i64_w, i32_w]
             rfl
            refine pu 18 83 HT_ (h := ?_)
            refine pu 19 84 HT_ (h := ?_)
            refine pu 20 85 HT_ (h := ?_)
            refine pu 21 86 HT_ (h := ?_)
            refine pu 22 87 HT_ (h := ?_)
            refine pu 23 88 HT_ (h := ?_)
            refine take_ (i := 24) (N := some 89) (v := ?_) (a' := ?_) #[true, true, true, true, true, true, true, true, true, true, true, true, true, true, true, true, true, true, true, true, true, true, true, true, true, false, false, false, false, false, false, false, false, false, false, false, false, false, false, false, false, false, false, false, false, false, false, false, false, false, false, false, false, false, false] rfl rfl (take_ofW HT_.out HW_.out (by kernel_rfl)) (fun _ _ _ h => h) (Or.inl ⟨by rfl, ?_⟩) hHeld ?_ ?_
            rotate_left
            ·rintro w' ⟨s0, s1, s2, s3, s4, s5, s6, s7, s8, s9, s10, s11, s12, s13, s14, s15, s16, s17, s18, s19, s20, s21, s22, s23, s24, s25, s26, s27⟩
             go_simp
             with_reducible rfl
            rotate_left
            ·simp only [Act.put, List.setIfInBounds_toArray, List.set_cons_zero, List.set_cons_succ, i64_w, i32_w]
             rfl
            refine pu 25 90 HT_ (h := ?_)
            refine pu 26 91 HT_ (h := ?_)
            refine pu 27 92 HT_ (h := ?_)
            refine take_ (i := 28) (N := some 93) (v := ?_) (a' := ?_) #[true, true, true, true, true, true, true, true, true, true, true, true, true, true, true, true, true, true, true, true, true, true, true, true, true, true, true, true, true, false, false, false, false, false, false, false, false, false, false, false, false, false, false, false, false, false, false, false, false, false, false, false, false, false, false] rfl rfl (take_ofW HT_.out HW_.out (by kernel_rfl)) (fun _ _ _ h => h) (Or.inl ⟨by rfl, ?_⟩) hHeld ?_ ?_
            rotate_left
            ·rintro w' ⟨s0, s1, s2, s3, s4, s5, s6, s7, s8, s9, s10, s11, s12, s13, s14, s15, s16, s17, s18, s19, s20, s21, s22, s23, s24, s25, s26, s27⟩
             go_simp
             with_reducible rfl
            rotate_left
            ·simp only [Act.put, List.setIfInBounds_toArray, List.set_cons_zero, List.set_cons_succ, i64_w, i32_w]
             rfl
            refine one_ (i := 29) (N := some 94) #[true, true, true, true, true, true, true, true, true, true, true, true, true, true, true, true, true, true, true, true, true, true, true, true, true, true, true, true, true, true, false, false, false, false, false, false, false, false, false, false, false, false, false, false, false, false, false, false, false, false, false, false, false, false, false] rfl rfl (one_of HT_.out (by kernel_rfl)) (by decide) (fun K hK => ?_)
            refine goes_ Try.func12 (by kernel_rfl) rfl #[.agg #[.int .i64 t279, .int .i64 t280, .int .i64 t281, .slice Ao15 t282.length co15, .bool t285]] (by rfl) rfl rfl gl_ ?_
            with_reducible refine (impl_FopOk.calls kj5 t279 t280 t281 _ _ t282 t285 false _ ?side1 ?side2 A89.out).mono ?_
            (case side1 => exact cN (Kd.R_reads' HO_290003.out).2.2)
            (case side2 => exact (Kd.R_reads' HO_290003.out).2.1)
            rintro e w108 ⟨rfl, hb⟩
            have HS10_ := (hb.cell (World.block_lt_of_cell? _ _ (hHeld.2.2.2.2.2.2.2.2.2.2.1))).trans (hHeld.2.2.2.2.2.2.2.2.2.2.1)
            have HS11_ := (hb.cell (World.block_lt_of_cell? _ _ (hHeld.2.2.2.2.2.2.2.2.2.2.2.1))).trans (hHeld.2.2.2.2.2.2.2.2.2.2.2.1)
            have HS12_ := (hb.cell (World.block_lt_of_cell? _ _ (hHeld.2.2.2.2.2.2.2.2.2.2.2.2.1))).trans (hHeld.2.2.2.2.2.2.2.2.2.2.2.2.1)
            have HS13_ := (hb.cell (World.block_lt_of_cell? _ _ (hHeld.2.2.2.2.2.2.2.2.2.2.2.2.2.1))).trans (hHeld.2.2.2.2.2.2.2.2.2.2.2.2.2.1)
            have HS14_ := (hb.cell (World.block_lt_of_cell? _ _ (hHeld.2.2.2.2.2.2.2.2.2.2.2.2.2.2.1))).trans (hHeld.2.2.2.2.2.2.2.2.2.2.2.2.2.2.1)
            have HS15_ := (hb.cell (World.block_lt_of_cell? _ _ (hHeld.2.2.2.2.2.2.2.2.2.2.2.2.2.2.2.1))).trans (hHeld.2.2.2.2.2.2.2.2.2.2.2.2.2.2.2.1)
            have HS16_ := (hb.cell (World.block_lt_of_cell? _ _ (hHeld.2.2.2.2.2.2.2.2.2.2.2.2.2.2.2.2.1))).trans (hHeld.2.2.2.2.2.2.2.2.2.2.2.2.2.2.2.2.1)
            have HS17_ := (hb.cell (World.block_lt_of_cell? _ _ (hHeld.2.2.2.2.2.2.2.2.2.2.2.2.2.2.2.2.2.1))).trans (hHeld.2.2.2.2.2.2.2.2.2.2.2.2.2.2.2.2.2.1)
            have HS18_ := (hb.cell (World.block_lt_of_cell? _ _ (hHeld.2.2.2.2.2.2.2.2.2.2.2.2.2.2.2.2.2.2.1))).trans (hHeld.2.2.2.2.2.2.2.2.2.2.2.2.2.2.2.2.2.2.1)
            have HS19_ := (hb.cell (World.block_lt_of_cell? _ _ (hHeld.2.2.2.2.2.2.2.2.2.2.2.2.2.2.2.2.2.2.2.1))).trans (hHeld.2.2.2.2.2.2.2.2.2.2.2.2.2.2.2.2.2.2.2.1)
            have HS20_ := (hb.cell (World.block_lt_of_cell? _ _ (hHeld.2.2.2.2.2.2.2.2.2.2.2.2.2.2.2.2.2.2.2.2.1))).trans (hHeld.2.2.2.2.2.2.2.2.2.2.2.2.2.2.2.2.2.2.2.2.1)
            have HS21_ := (hb.cell (World.block_lt_of_cell? _ _ (hHeld.2.2.2.2.2.2.2.2.2.2.2.2.2.2.2.2.2.2.2.2.2.1))).trans (hHeld.2.2.2.2.2.2.2.2.2.2.2.2.2.2.2.2.2.2.2.2.2.1)
            have HS22_ := (hb.cell (World.block_lt_of_cell? _ _ (hHeld.2.2.2.2.2.2.2.2.2.2.2.2.2.2.2.2.2.2.2.2.2.2.1))).trans (hHeld.2.2.2.2.2.2.2.2.2.2.2.2.2.2.2.2.2.2.2.2.2.2.1)
            have HS23_ := (hb.cell (World.block_lt_of_cell? _ _ (hHeld.2.2.2.2.2.2.2.2.2.2.2.2.2.2.2.2.2.2.2.2.2.2.2.1))).trans (hHeld.2.2.2.2.2.2.2.2.2.2.2.2.2.2.2.2.2.2.2.2.2.2.2.1)
            have HS24_ := (hb.cell (World.block_lt_of_cell? _ _ (hHeld.2.2.2.2.2.2.2.2.2.2.2.2.2.2.2.2.2.2.2.2.2.2.2.2.1))).trans (hHeld.2.2.2.2.2.2.2.2.2.2.2.2.2.2.2.2.2.2.2.2.2.2.2.2.1)
            have HS25_ := (hb.cell (World.block_lt_of_cell? _ _ (hHeld.2.2.2.2.2.2.2.2.2.2.2.2.2.2.2.2.2.2.2.2.2.2.2.2.2.1))).trans (hHeld.2.2.2.2.2.2.2.2.2.2.2.2.2.2.2.2.2.2.2.2.2.2.2.2.2.1)
            have HS26_ := (hb.cell (World.block_lt_of_cell? _ _ (hHeld.2.2.2.2.2.2.2.2.2.2.2.2.2.2.2.2.2.2.2.2.2.2.2.2.2.2.1))).trans (hHeld.2.2.2.2.2.2.2.2.2.2.2.2.2.2.2.2.2.2.2.2.2.2.2.2.2.2.1)
            have HS27_ := (hb.cell (World.block_lt_of_cell? _ _ (hHeld.2.2.2.2.2.2.2.2.2.2.2.2.2.2.2.2.2.2.2.2.2.2.2.2.2.2.2))).trans (hHeld.2.2.2.2.2.2.2.2.2.2.2.2.2.2.2.2.2.2.2.2.2.2.2.2.2.2.2)
            refine ⟨_, rfl, ?_⟩
            have n0_ := m_ (Kd.R_below (rN HO_6.out) hb)
            have n1_ := m_ (Kd.R_below (rN HO_8.out) hb)
            have n2_ := m_ (Kd.R_below (rN HO_279003.out) hb)
            have n3_ := m_ (Kd.R_below (rN HO_290003.out) hb)
            have n4_ := m_ (Kd.R_below (rN HO_301003.out) hb)
            have n5_ := m_ (blk_below (kN BK278.out) hb)
            have n6_ := m_ (blk_below (kN BK289.out) hb)
            have n7_ := m_ (blk_below (kN BK300.out) hb)
            have n8_ := m_ (below_step (bN HB.out) hb)
            clear HO_6
            clear HO_8
            clear HO_279003
            clear HO_290003
            clear HO_301003
            clear BK278
            clear BK289
            clear BK300
            clear HB
            have HO_6 := n0_
            have HO_8 := n1_
            have HO_279003 := n2_
            have HO_290003 := n3_
            have HO_301003 := n4_
            have BK278 := n5_
            have BK289 := n6_
            have BK300 := n7_
            have HB := n8_
            clear n0_ n1_ n2_ n3_ n4_ n5_ n6_ n7_ n8_
            (try clear hb)
            (try clear hb2)
            (try clear hk)
            (try clear hi)
            refine hK.out _ _ ⟨bc BK278 0, bc BK278 1, bc BK278 2, bc BK278 3, bc BK278 4, bc BK289 0, bc BK289 1, bc BK289 2, bc BK289 3, bc BK289 4, HS10_, HS11_, HS12_, HS13_, HS14_, HS15_, HS16_, HS17_, HS18_, HS19_, HS20_, HS21_, HS22_, HS23_, HS24_, HS25_, HS26_, HS27_⟩ (fun hHeld => ?_)
            clear hK K
            refine np (h := ?_)
            refine pu 30 95 HT_ (h := ?_)
            refine pu 31 96 HT_ (h := ?_)
            refine pv 32 97 HT_ (h := ?_)
            refine pv 33 98 HT_ (h := ?_)
            refine pv 34 99 HT_ (h := ?_)
            refine pv 35 100 HT_ (h := ?_)
            refine pv 36 101 HT_ (h := ?_)
            refine pv 37 102 HT_ (h := ?_)
            refine pv 38 103 HT_ (h := ?_)
            refine pv 39 104 HT_ (h := ?_)
            refine pu 40 105 HT_ (h := ?_)
            refine pu 41 106 HT_ (h := ?_)
            refine pv 42 107 HT_ (h := ?_)
            refine pv 43 108 HT_ (h := ?_)
            refine pv 44 109 HT_ (h := ?_)
            refine pv 45 110 HT_ (h := ?_)
            refine pu 46 111 HT_ (h := ?_)
            refine pu 47 112 HT_ (h := ?_)
            refine pv 48 113 HT_ (h := ?_)
            refine pv 49 114 HT_ (h := ?_)
            refine pv 50 115 HT_ (h := ?_)
            refine pv 51 116 HT_ (h := ?_)
            refine pv 52 117 HT_ (h := ?_)
            refine pu 53 118 HT_ (h := ?_)
            refine pu 54 2 HT_ (h := ?_)
            refine done_ (done_of HT_.out (by kernel_rfl)) ?_
            try go_wp2
            go_ret
            exact ⟨by first | rfl | (simp [errW_none, errW_some] <;> rfl) | (simp [*, errW_none, errW_some] <;> rfl), by repeat (first | (with_reducible first | exact HB.out | apply below_alloc | apply pw_below_drewN | apply below_drew1 | refine below_set ?_ GE278.out | refine below_set ?_ GE289.out | refine below_set ?_ GE300.out) | exact HB.out)⟩
         ·rw [if_neg c84] at H
          have c84b0 : (((rd_T35 t286 0).f5).toList == t277.toList) = false := beq_eq_false_iff_ne.mpr c84
          have c84b1 : (((rd_T35 t286 0).f5).toList != t277.toList) = true := bne_iff_ne.mpr c84
          obtain rfl := Option.some.inj H
          obtain ⟨Ao109, co109, eo109⟩ := Kd.R_slice HO_6.out
          subst eo109
          try go_wp2
          have n0_ := m_ (Kd.R_drew HO_6.out)
          have n1_ := m_ (Kd.R_drew HO_8.out)
          have n2_ := m_ (Kd.R_drew HO_279003.out)
          have n3_ := m_ (Kd.R_drew HO_290003.out)
          have n4_ := m_ (Kd.R_drew HO_301003.out)
          have n5_ := m_ (blk_drew BK278.out)
          have n6_ := m_ (blk_drew BK289.out)
          have n7_ := m_ (blk_drew BK300.out)
          have n8_ := m_ (below_drew1 HB.out)
          clear HO_6
          clear HO_8
          clear HO_279003
          clear HO_290003
          clear HO_301003
          clear BK278
          clear BK289
          clear BK300
          clear HB
          have HO_6 := n0_
          have HO_8 := n1_
          have HO_279003 := n2_
          have HO_290003 := n3_
          have HO_301003 := n4_
          have BK278 := n5_
          have BK289 := n6_
          have BK300 := n7_
          have HB := n8_
          clear n0_ n1_ n2_ n3_ n4_ n5_ n6_ n7_ n8_
          have p309 : 0 ≤ (0 : Int) := (by omega)
          have q309 : 0 < (t286.length : Int) := of_decide_eq_true (by first | (with_reducible assumption) | assumption)
          obtain ⟨ad309, e309, hx309_0, hx309_1, hx309_2, hx309_3, hx309_4, hx309_5⟩ := at_T35 (Kd.R_reads' HO_6.out).2.2 0 p309 q309
          cases e309
          have qi309 : (0 < t286.length) = True := eq_true (by omega)
          (try rw [show ((0 : Int)).toNat = 0 from rfl] at hx309_0)
          (try rw [show 0 * 6 = 0 from rfl] at hx309_0)
          (try rw [Addr.add_zero'] at hx309_0)
          (try rw [show ((0 : Int)).toNat = 0 from rfl] at hx309_1)
          (try rw [show 0 * 6 = 0 from rfl] at hx309_1)
          (try rw [Addr.add_zero'] at hx309_1)
          (try rw [show ((0 : Int)).toNat = 0 from rfl] at hx309_2)
          (try rw [show 0 * 6 = 0 from rfl] at hx309_2)
          (try rw [Addr.add_zero'] at hx309_2)
          (try rw [show ((0 : Int)).toNat = 0 from rfl] at hx309_3)
          (try rw [show 0 * 6 = 0 from rfl] at hx309_3)
          (try rw [Addr.add_zero'] at hx309_3)
          (try rw [show ((0 : Int)).toNat = 0 from rfl] at hx309_4)
          (try rw [show 0 * 6 = 0 from rfl] at hx309_4)
          (try rw [Addr.add_zero'] at hx309_4)
          (try rw [show ((0 : Int)).toNat = 0 from rfl] at hx309_5)
          (try rw [show 0 * 6 = 0 from rfl] at hx309_5)
          (try rw [Addr.add_zero'] at hx309_5)
          replace p309 := eq_true p309
          replace q309 := eq_true q309
          have p310 : 0 ≤ (0 : Int) := (by omega)
          have q310 : 0 < (t286.length : Int) := of_decide_eq_true (by first | (with_reducible assumption) | assumption)
          obtain ⟨ad310, e310, hx310_0, hx310_1, hx310_2, hx310_3, hx310_4, hx310_5⟩ := at_T35 (Kd.R_reads' HO_6.out).2.2 0 p310 q310
          obtain rfl : ad309 = ad310 := (by injection e310)
          have qi310 : (0 < t286.length) = True := eq_true (by omega)
          (try rw [show ((0 : Int)).toNat = 0 from rfl] at hx310_0)
          (try rw [show 0 * 6 = 0 from rfl] at hx310_0)
          (try rw [Addr.add_zero'] at hx310_0)
          (try rw [show ((0 : Int)).toNat = 0 from rfl] at hx310_1)
          (try rw [show 0 * 6 = 0 from rfl] at hx310_1)
          (try rw [Addr.add_zero'] at hx310_1)
          (try rw [show ((0 : Int)).toNat = 0 from rfl] at hx310_2)
          (try rw [show 0 * 6 = 0 from rfl] at hx310_2)
          (try rw [Addr.add_zero'] at hx310_2)
          (try rw [show ((0 : Int)).toNat = 0 from rfl] at hx310_3)
          (try rw [show 0 * 6 = 0 from rfl] at hx310_3)
          (try rw [Addr.add_zero'] at hx310_3)
          (try rw [show ((0 : Int)).toNat = 0 from rfl] at hx310_4)
          (try rw [show 0 * 6 = 0 from rfl] at hx310_4)
          (try rw [Addr.add_zero'] at hx310_4)
          (try rw [show ((0 : Int)).toNat = 0 from rfl] at hx310_5)
          (try rw [show 0 * 6 = 0 from rfl] at hx310_5)
          (try rw [Addr.add_zero'] at hx310_5)
          replace p310 := eq_true p310
          replace q310 := eq_true q310
          refine start_ (n := 55) (S := fun w' => w'.cell? ⟨gb278, 0, none⟩ = some (.int .i64 t270) ∧ w'.cell? ⟨gb278, 1, none⟩ = some (.int .i64 t271) ∧ w'.cell? ⟨gb278, 2, none⟩ = some (.int .i64 t272) ∧ w'.cell? ⟨gb278, 3, none⟩ = some (.slice Ao10 t273.length co10) ∧ w'.cell? ⟨gb278, 4, none⟩ = some (.bool t276) ∧ w'.cell? ad309 = some (.bool ((rd_T35 t286 0).f0)) ∧ w'.cell? ⟨ad309.block, ad309.off + 1, none⟩ = some (.bool ((rd_T35 t286 0).f1)) ∧ w'.cell? ⟨ad309.block, ad309.off + 2, none⟩ = some (.int .i64 ((rd_T35 t286 0).f2)) ∧ w'.cell? ⟨ad309.block, ad309.off + 3, none⟩ = some (.int .i64 ((rd_T35 t286 0).f3)) ∧ w'.cell? ⟨ad309.block, ad309.off + 4, none⟩ = some (.int .i64 ((rd_T35 t286 0).f4)) ∧ w'.cell? ⟨ad309.block, ad309.off + 5, none⟩ = some (.string ((rd_T35 t286 0).f5)) ∧ w'.cell? ad309 = some (.bool ((rd_T35 t286 0).f0)) ∧ w'.cell? ⟨ad309.block, ad309.off + 1, none⟩ = some (.bool ((rd_T35 t286 0).f1)) ∧ w'.cell? ⟨ad309.block, ad309.off + 2, none⟩ = some (.int .i64 ((rd_T35 t286 0).f2)) ∧ w'.cell? ⟨ad309.block, ad309.off + 3, none⟩ = some (.int .i64 ((rd_T35 t286 0).f3)) ∧ w'.cell? ⟨ad309.block, ad309.off + 4, none⟩ = some (.int .i64 ((rd_T35 t286 0).f4)) ∧ w'.cell? ⟨ad309.block, ad309.off + 5, none⟩ = some (.string ((rd_T35 t286 0).f5))) (ds := []) #[false, false, false, false, false, false, false, false, false, false, false, false, false, false, false, false, false, false, false, false, false, false, false, false, false, false, false, false, false, false, false, false, false, false, false, false, false, false, false, false, false, false, false, false, false, false, false, false, false, false, false, false, false, false, false] (by kernel_rfl) rfl rfl ⟨bc BK278 0, bc BK278 1, bc BK278 2, bc BK278 3, bc BK278 4, hx309_0, hx309_1, hx309_2, hx309_3, hx309_4, hx309_5, hx310_0, hx310_1, hx310_2, hx310_3, hx310_4, hx310_5⟩ (fun hHeld => ?_); refine with_tabW laws_FnFopSend.tab10 laws_FnFopSend.bits10 (fun HT_ HW_ => ?_)
          generalize wc.drew = w110 at HO_6 HO_8 HO_279003 HO_290003 HO_301003 BK278 BK289 BK300 HB hx309_0 hx309_1 hx309_2 hx309_3 hx309_4 hx309_5 hx310_0 hx310_1 hx310_2 hx310_3 hx310_4 hx310_5 hHeld ⊢
          refine pu 0 65 HT_ (h := ?_)
          refine pu 1 66 HT_ (h := ?_)
          refine pu 2 67 HT_ (h := ?_)
          refine pu 3 68 HT_ (h := ?_)
          refine pu 4 69 HT_ (h := ?_)
          refine pu 5 70 HT_ (h := ?_)
          refine pu 6 71 HT_ (h := ?_)
          refine pu 8 73 HT_ (h := ?_)
          refine take_ (i := 7) (N := some 72) (v := ?_) (a' := ?_) #[true, true, true, true, true, true, true, true, true, false, false, false, false, false, false, false, false, false, false, false, false, false, false, false, false, false, false, false, false, false, false, false, false, false, false, false, false, false, false, false, false, false, false, false, false, false, false, false, false, false, false, false, false, false, false] rfl rfl (take_ofW HT_.out HW_.out (by kernel_rfl)) (fun _ _ _ h => h) (Or.inl ⟨by rfl, ?_⟩) hHeld ?_ ?_
          rotate_left
          ·rintro w' ⟨s0, s1, s2, s3, s4, s5, s6, s7, s8, s9, s10, s11, s12, s13, s14, s15, s16⟩
           go_simp
           with_reducible rfl
          rotate_left
          ·simp only [Act.put, List.setIfInBounds_toArray, List.set_cons_zero, List.set_cons_succ, i64_w, i32_w]
           rfl
          refine take_ (i := 9) (N := some 74) (v := ?_) (a' := ?_) #[true, true, true, true, true, true, true, true, true, true, false, false, false, false, false, false, false, false, false, false, false, false, false, false, false, false, false, false, false, false, false, false, false, false, false, false, false, false, false, false, false, false, false, false, false, false, false, false, false, false, false, false, false, false, false] rfl rfl (take_ofW HT_.out HW_.out (by kernel_rfl)) (fun _ _ _ h => h) (Or.inl ⟨by rfl, ?_⟩) hHeld ?_ ?_
          rotate_left
          ·rintro w' ⟨s0, s1, s2, s3, s4, s5, s6, s7, s8, s9, s10, s11, s12, s13, s14, s15, s16⟩
           go_simp
           with_reducible rfl
          rotate_left
          ·simp only [Act.put, List.setIfInBounds_toArray, List.set_cons_zero, List.set_cons_succ, i64_w, i32_w]
           rfl
          refine pu 10 75 HT_ (h := ?_)
          refine pu 11 76 HT_ (h := ?_)
          refine pu 12 77 HT_ (h := ?_)
          refine pu 13 78 HT_ (h := ?_)
          refine pu 14 79 HT_ (h := ?_)
          refine pu 15 80 HT_ (h := ?_)
          refine pu 17 82 HT_ (h := ?_)
          refine take_ (i := 16) (N := some 81) (v := ?_) (a' := ?_) #[true, true, true, true, true, true, true, true, true, true, true, true, true, true, true, true, true, true, false, false, false, false, false, false, false, false, false, false, false, false, false, false, false, false, false, false, false, false, false, false, false, false, false, false, false, false, false, false, false, false, false, false, false, false, false] rfl rfl (take_ofW HT_.out HW_.out (by kernel_rfl)) (fun _ _ _ h => h) (Or.inl ⟨by rfl, ?_⟩) hHeld ?_ ?_
          rotate_left
          ·rintro w' ⟨s0, s1, s2, s3, s4, s5, s6, s7, s8, s9, s10, s11, s12, s13, s14, s15, s16⟩
           go_simp
           with_reducible rfl
          rotate_left
          ·simp only [Act.put, List.setIfInBounds_toArray, List.set_cons_zero, List.set_cons_succ, i64_w, i32_w]
           rfl
          refine pu 18 83 HT_ (h := ?_)
          refine pu 19 84 HT_ (h := ?_)
          refine pu 20 85 HT_ (h := ?_)
          refine pv 21 86 HT_ (h := ?_)
          refine pv 22 87 HT_ (h := ?_)
          refine pv 23 88 HT_ (h := ?_)
          refine pv 24 89 HT_ (h := ?_)
          refine pv 25 90 HT_ (h := ?_)
          refine pu 26 91 HT_ (h := ?_)
          refine pu 27 92 HT_ (h := ?_)
          refine pv 28 93 HT_ (h := ?_)
          refine pv 29 94 HT_ (h := ?_)
          refine pu 30 95 HT_ (h := ?_)
          refine pu 31 96 HT_ (h := ?_)
          refine pv 32 97 HT_ (h := ?_)
          refine pv 33 98 HT_ (h := ?_)
          refine pv 34 99 HT_ (h := ?_)
          refine pv 35 100 HT_ (h := ?_)
          refine pv 36 101 HT_ (h := ?_)
          refine pv 37 102 HT_ (h := ?_)
          refine pv 38 103 HT_ (h := ?_)
          refine pv 39 104 HT_ (h := ?_)
          refine pu 40 105 HT_ (h := ?_)
          refine pu 41 106 HT_ (h := ?_)
          refine pv 42 107 HT_ (h := ?_)
          refine pv 43 108 HT_ (h := ?_)
          refine pv 44 109 HT_ (h := ?_)
          refine pv 45 110 HT_ (h := ?_)
          refine pu 46 111 HT_ (h := ?_)
          refine pu 47 112 HT_ (h := ?_)
          refine pv 48 113 HT_ (h := ?_)
          refine pv 49 114 HT_ (h := ?_)
          refine pv 50 115 HT_ (h := ?_)
          refine pv 51 116 HT_ (h := ?_)
          refine pv 52 117 HT_ (h := ?_)
          refine pu 53 118 HT_ (h := ?_)
          refine pu 54 2 HT_ (h := ?_)
          refine done_ (done_of HT_.out (by kernel_rfl)) ?_
          try go_wp2
          go_ret
          exact ⟨by first | rfl | (simp [errW_none, errW_some] <;> rfl) | (simp [*, errW_none, errW_some] <;> rfl), by repeat (first | (with_reducible first | exact HB.out | apply below_alloc | apply pw_below_drewN | apply below_drew1 | refine below_set ?_ GE278.out | refine below_set ?_ GE289.out | refine below_set ?_ GE300.out) | exact HB.out)⟩
        ·rw [if_neg c83] at H
         have c83b0 : (((rd_T35 t286 0).f4) == t272) = false := beq_eq_false_iff_ne.mpr c83
         have c83b1 : (((rd_T35 t286 0).f4) != t272) = true := bne_iff_ne.mpr c83
         obtain rfl := Option.some.inj H
         obtain ⟨Ao111, co111, eo111⟩ := Kd.R_slice HO_6.out
         subst eo111
         try go_wp2
         have n0_ := m_ (Kd.R_drew HO_6.out)
         have n1_ := m_ (Kd.R_drew HO_8.out)
         have n2_ := m_ (Kd.R_drew HO_279003.out)
         have n3_ := m_ (Kd.R_drew HO_290003.out)
         have n4_ := m_ (Kd.R_drew HO_301003.out)
         have n5_ := m_ (blk_drew BK278.out)
         have n6_ := m_ (blk_drew BK289.out)
         have n7_ := m_ (blk_drew BK300.out)
         have n8_ := m_ (below_drew1 HB.out)
         clear HO_6
         clear HO_8
         clear HO_279003
         clear HO_290003
         clear HO_301003
         clear BK278
         clear BK289
         clear BK300
         clear HB
         have HO_6 := n0_
         have HO_8 := n1_
         have HO_279003 := n2_
         have HO_290003 := n3_
         have HO_301003 := n4_
         have BK278 := n5_
         have BK289 := n6_
         have BK300 := n7_
         have HB := n8_
         clear n0_ n1_ n2_ n3_ n4_ n5_ n6_ n7_ n8_
         have p309 : 0 ≤ (0 : Int) := (by omega)
         have q309 : 0 < (t286.length : Int) := of_decide_eq_true (by first | (with_reducible assumption) | assumption)
         obtain ⟨ad309, e309, hx309_0, hx309_1, hx309_2, hx309_3, hx309_4, hx309_5⟩ := at_T35 (Kd.R_reads' HO_6.out).2.2 0 p309 q309
         cases e309
         have qi309 : (0 < t286.length) = True := eq_true (by omega)
         (try rw [show ((0 : Int)).toNat = 0 from rfl] at hx309_0)
         (try rw [show 0 * 6 = 0 from rfl] at hx309_0)
         (try rw [Addr.add_zero'] at hx309_0)
         (try rw [show ((0 : Int)).toNat = 0 from rfl] at hx309_1)
         (try rw [show 0 * 6 = 0 from rfl] at hx309_1)
         (try rw [Addr.add_zero'] at hx309_1)
         (try rw [show ((0 : Int)).toNat = 0 from rfl] at hx309_2)
         (try rw [show 0 * 6 = 0 from rfl] at hx309_2)
         (try rw [Addr.add_zero'] at hx309_2)
         (try rw [show ((0 : Int)).toNat = 0 from rfl] at hx309_3)
         (try rw [show 0 * 6 = 0 from rfl] at hx309_3)
         (try rw [Addr.add_zero'] at hx309_3)
         (try rw [show ((0 : Int)).toNat = 0 from rfl] at hx309_4)
         (try rw [show 0 * 6 = 0 from rfl] at hx309_4)
         (try rw [Addr.add_zero'] at hx309_4)
         (try rw [show ((0 : Int)).toNat = 0 from rfl] at hx309_5)
         (try rw [show 0 * 6 = 0 from rfl] at hx309_5)
         (try rw [Addr.add_zero'] at hx309_5)
         replace p309 := eq_true p309
         replace q309 := eq_true q309
         refine start_ (n := 55) (S := fun w' => w'.cell? ⟨gb278, 0, none⟩ = some (.int .i64 t270) ∧ w'.cell? ⟨gb278, 1, none⟩ = some (.int .i64 t271) ∧ w'.cell? ⟨gb278, 2, none⟩ = some (.int .i64 t272) ∧ w'.cell? ⟨gb278, 3, none⟩ = some (.slice Ao10 t273.length co10) ∧ w'.cell? ⟨gb278, 4, none⟩ = some (.bool t276) ∧ w'.cell? ad309 = some (.bool ((rd_T35 t286 0).f0)) ∧ w'.cell? ⟨ad309.block, ad309.off + 1, none⟩ = some (.bool ((rd_T35 t286 0).f1)) ∧ w'.cell? ⟨ad309.block, ad309.off + 2, none⟩ = some (.int .i64 ((rd_T35 t286 0).f2)) ∧ w'.cell? ⟨ad309.block, ad309.off + 3, none⟩ = some (.int .i64 ((rd_T35 t286 0).f3)) ∧ w'.cell? ⟨ad309.block, ad309.off + 4, none⟩ = some (.int .i64 ((rd_T35 t286 0).f4)) ∧ w'.cell? ⟨ad309.block, ad309.off + 5, none⟩ = some (.string ((rd_T35 t286 0).f5))) (ds := []) #[false, false, false, false, false, false, false, false, false, false, false, false, false, false, false, false, false, false, false, false, false, false, false, false, false, false, false, false, false, false, false, false, false, false, false, false, false, false, false, false, false, false, false, false, false, false, false, false, false, false, false, false, false, false, false] (by kernel_rfl) rfl rfl ⟨bc BK278 0, bc BK278 1, bc BK278 2, bc BK278 3, bc BK278 4, hx309_0, hx309_1, hx309_2, hx309_3, hx309_4, hx309_5⟩ (fun hHeld => ?_); refine with_tabW laws_FnFopSend.tab10 laws_FnFopSend.bits10 (fun HT_ HW_ => ?_)
         generalize wc.drew = w112 at HO_6 HO_8 HO_279003 HO_290003 HO_301003 BK278 BK289 BK300 HB hx309_0 hx309_1 hx309_2 hx309_3 hx309_4 hx309_5 hHeld ⊢
         refine pu 0 65 HT_ (h := ?_)
         refine pu 1 66 HT_ (h := ?_)
         refine pu 2 67 HT_ (h := ?_)
         refine pu 3 68 HT_ (h := ?_)
         refine pu 4 69 HT_ (h := ?_)
         refine pu 5 70 HT_ (h := ?_)
         refine pu 6 71 HT_ (h := ?_)
         refine pu 8 73 HT_ (h := ?_)
         refine take_ (i := 7) (N := some 72) (v := ?_) (a' := ?_) #[true, true, true, true, true, true, true, true, true, false, false, false, false, false, false, false, false, false, false, false, false, false, false, false, false, false, false, false, false, false, false, false, false, false, false, false, false, false, false, false, false, false, false, false, false, false, false, false, false, false, false, false, false, false, false] rfl rfl (take_ofW HT_.out HW_.out (by kernel_rfl)) (fun _ _ _ h => h) (Or.inl ⟨by rfl, ?_⟩) hHeld ?_ ?_
         rotate_left
         ·rintro w' ⟨s0, s1, s2, s3, s4, s5, s6, s7, s8, s9, s10⟩
          go_simp
          with_reducible rfl
         rotate_left
         ·simp only [Act.put, List.setIfInBounds_toArray, List.set_cons_zero, List.set_cons_succ, i64_w, i32_w]
          rfl
         refine take_ (i := 9) (N := some 74) (v := ?_) (a' := ?_) #[true, true, true, true, true, true, true, true, true, true, false, false, false, false, false, false, false, false, false, false, false, false, false, false, false, false, false, false, false, false, false, false, false, false, false, false, false, false, false, false, false, false, false, false, false, false, false, false, false, false, false, false, false, false, false] rfl rfl (take_ofW HT_.out HW_.out (by kernel_rfl)) (fun _ _ _ h => h) (Or.inl ⟨by rfl, ?_⟩) hHeld ?_ ?_
         rotate_left
         ·rintro w' ⟨s0, s1, s2, s3, s4, s5, s6, s7, s8, s9, s10⟩
          go_simp
          with_reducible rfl
         rotate_left
         ·simp only [Act.put, List.setIfInBounds_toArray, List.set_cons_zero, List.set_cons_succ, i64_w, i32_w]
          rfl
         refine pu 10 75 HT_ (h := ?_)
         refine pu 11 76 HT_ (h := ?_)
         refine pu 12 77 HT_ (h := ?_)
         refine pv 13 78 HT_ (h := ?_)
         refine pv 14 79 HT_ (h := ?_)
         refine pv 15 80 HT_ (h := ?_)
         refine pv 16 81 HT_ (h := ?_)
         refine pv 17 82 HT_ (h := ?_)
         refine pv 18 83 HT_ (h := ?_)
         refine pu 19 84 HT_ (h := ?_)
         refine pu 20 85 HT_ (h := ?_)
         refine pv 21 86 HT_ (h := ?_)
         refine pv 22 87 HT_ (h := ?_)
         refine pv 23 88 HT_ (h := ?_)
         refine pv 24 89 HT_ (h := ?_)
         refine pv 25 90 HT_ (h := ?_)
         refine pu 26 91 HT_ (h := ?_)
         refine pu 27 92 HT_ (h := ?_)
         refine pv 28 93 HT_ (h := ?_)
         refine pv 29 94 HT_ (h := ?_)
         refine pu 30 95 HT_ (h := ?_)
         refine pu 31 96 HT_ (h := ?_)
         refine pv 32 97 HT_ (h := ?_)
         refine pv 33 98 HT_ (h := ?_)
         refine pv 34 99 HT_ (h := ?_)
         refine pv 35 100 HT_ (h := ?_)
         refine pv 36 101 HT_ (h := ?_)
         refine pv 37 102 HT_ (h := ?_)
         refine pv 38 103 HT_ (h := ?_)
         refine pv 39 104 HT_ (h := ?_)
         refine pu 40 105 HT_ (h := ?_)
         refine pu 41 106 HT_ (h := ?_)
         refine pv 42 107 HT_ (h := ?_)
         refine pv 43 108 HT_ (h := ?_)
         refine pv 44 109 HT_ (h := ?_)
         refine pv 45 110 HT_ (h := ?_)
         refine pu 46 111 HT_ (h := ?_)
         refine pu 47 112 HT_ (h := ?_)
         refine pv 48 113 HT_ (h := ?_)
         refine pv 49 114 HT_ (h := ?_)
         refine pv 50 115 HT_ (h := ?_)
         refine pv 51 116 HT_ (h := ?_)
         refine pv 52 117 HT_ (h := ?_)
         refine pu 53 118 HT_ (h := ?_)
         refine pu 54 2 HT_ (h := ?_)
         refine done_ (done_of HT_.out (by kernel_rfl)) ?_
         try go_wp2
         go_ret
         exact ⟨by first | rfl | (simp [errW_none, errW_some] <;> rfl) | (simp [*, errW_none, errW_some] <;> rfl), by repeat (first | (with_reducible first | exact HB.out | apply below_alloc | apply pw_below_drewN | apply below_drew1 | refine below_set ?_ GE278.out | refine below_set ?_ GE289.out | refine below_set ?_ GE300.out) | exact HB.out)⟩
       ·rw [if_neg c82] at H
        exact absurd H (by simp)
      ·rw [if_neg c81] at H
       have c81b0 : ((t286.length : Int) == 1) = false := beq_eq_false_iff_ne.mpr c81
       have c81b1 : ((t286.length : Int) != 1) = true := bne_iff_ne.mpr c81
       obtain rfl := Option.some.inj H
       obtain ⟨Ao113, co113, eo113⟩ := Kd.R_slice HO_6.out
       subst eo113
       try go_wp2
       have n0_ := m_ (Kd.R_drew HO_6.out)
       have n1_ := m_ (Kd.R_drew HO_8.out)
       have n2_ := m_ (Kd.R_drew HO_279003.out)
       have n3_ := m_ (Kd.R_drew HO_290003.out)
       have n4_ := m_ (Kd.R_drew HO_301003.out)
       have n5_ := m_ (blk_drew BK278.out)
       have n6_ := m_ (blk_drew BK289.out)
       have n7_ := m_ (blk_drew BK300.out)
       have n8_ := m_ (below_drew1 HB.out)
       clear HO_6
       clear HO_8
       clear HO_279003
       clear HO_290003
       clear HO_301003
       clear BK278
       clear BK289
       clear BK300
       clear HB
       have HO_6 := n0_
       have HO_8 := n1_
       have HO_279003 := n2_
       have HO_290003 := n3_
       have HO_301003 := n4_
       have BK278 := n5_
       have BK289 := n6_
       have BK300 := n7_
       have HB := n8_
       clear n0_ n1_ n2_ n3_ n4_ n5_ n6_ n7_ n8_
       refine start_ (n := 55) (S := fun w' => True) (ds := []) #[false, false, false, false, false, false, false, false, false, false, false, false, false, false, false, false, false, false, false, false, false, false, false, false, false, false, false, false, false, false, false, false, false, false, false, false, false, false, false, false, false, false, false, false, false, false, false, false, false, false, false, false, false, false, false] (by kernel_rfl) rfl rfl trivial (fun hHeld => ?_); refine with_tabW laws_FnFopSend.tab10 laws_FnFopSend.bits10 (fun HT_ HW_ => ?_)
       generalize wc.drew = w114 at HO_6 HO_8 HO_279003 HO_290003 HO_301003 BK278 BK289 BK300 HB hHeld ⊢
       refine pu 0 65 HT_ (h := ?_)
       refine pu 1 66 HT_ (h := ?_)
       refine pu 2 67 HT_ (h := ?_)
       refine pu 3 68 HT_ (h := ?_)
       refine pv 4 69 HT_ (h := ?_)
       refine pv 5 70 HT_ (h := ?_)
       refine pv 6 71 HT_ (h := ?_)
       refine pv 7 72 HT_ (h := ?_)
       refine pv 8 73 HT_ (h := ?_)
       refine pv 9 74 HT_ (h := ?_)
       refine pv 10 75 HT_ (h := ?_)
       refine pu 11 76 HT_ (h := ?_)
       refine pu 12 77 HT_ (h := ?_)
       refine pv 13 78 HT_ (h := ?_)
       refine pv 14 79 HT_ (h := ?_)
       refine pv 15 80 HT_ (h := ?_)
       refine pv 16 81 HT_ (h := ?_)
       refine pv 17 82 HT_ (h := ?_)
       refine pv 18 83 HT_ (h := ?_)
       refine pu 19 84 HT_ (h := ?_)
       refine pu 20 85 HT_ (h := ?_)
       refine pv 21 86 HT_ (h := ?_)
       refine pv 22 87 HT_ (h := ?_)
       refine pv 23 88 HT_ (h := ?_)
       refine pv 24 89 HT_ (h := ?_)
       refine pv 25 90 HT_ (h := ?_)
       refine pu 26 91 HT_ (h := ?_)
       refine pu 27 92 HT_ (h := ?_)
       refine pv 28 93 HT_ (h := ?_)
       refine pv 29 94 HT_ (h := ?_)
       refine pu 30 95 HT_ (h := ?_)
       refine pu 31 96 HT_ (h := ?_)
       refine pv 32 97 HT_ (h := ?_)
       refine pv 33 98 HT_ (h := ?_)
       refine pv 34 99 HT_ (h := ?_)
       refine pv 35 100 HT_ (h := ?_)
       refine pv 36 101 HT_ (h := ?_)
       refine pv 37 102 HT_ (h := ?_)
       refine pv 38 103 HT_ (h := ?_)
       refine pv 39 104 HT_ (h := ?_)
       refine pu 40 105 HT_ (h := ?_)
       refine pu 41 106 HT_ (h := ?_)
       refine pv 42 107 HT_ (h := ?_)
       refine pv 43 108 HT_ (h := ?_)
       refine pv 44 109 HT_ (h := ?_)
       refine pv 45 110 HT_ (h := ?_)
       refine pu 46 111 HT_ (h := ?_)
       refine pu 47 112 HT_ (h := ?_)
       refine pv 48 113 HT_ (h := ?_)
       refine pv 49 114 HT_ (h := ?_)
       refine pv 50 115 HT_ (h := ?_)
       refine pv 51 116 HT_ (h := ?_)
       refine pv 52 117 HT_ (h := ?_)
       refine pu 53 118 HT_ (h := ?_)
       refine pu 54 2 HT_ (h := ?_)
       refine done_ (done_of HT_.out (by kernel_rfl)) ?_
       try go_wp2
       go_ret
       exact ⟨by first | rfl | (simp [errW_none, errW_some] <;> rfl) | (simp [*, errW_none, errW_some] <;> rfl), by repeat (first | (with_reducible first | exact HB.out | apply below_alloc | apply pw_below_drewN | apply below_drew1 | refine below_set ?_ GE278.out | refine below_set ?_ GE289.out | refine below_set ?_ GE300.out) | exact HB.out)⟩

/-- THE ONE PURE STATEMENT of laws_FnFopSend: yours. -/
def laws_FnFopSend.Pure : Prop := ∀ (l0 : List Int), l0.length ≤ maxLen → l0.length * 1 ≤ 140737488351232 → (∀ x ∈ l0, (Lit.int .u8 x).wf = true) → ∃ k, laws_FnFopSend.f k l0 = some true
theorem laws_FnFopSend.walk (P : laws_FnFopSend.Pure) (a0 : Option Addr) (len0 cap0 : Nat) (z0 : List Int) (w : World) (w0 : (a0 = none ∧ len0 = 0 ∧ cap0 = 0 ∧ z0 = []) ∨ ∃ x, a0 = some x ∧ len0 ≤ cap0 ∧ cap0 ≤ maxLen ∧ z0.length = cap0 ∧ (∀ i, i < z0.length → w.cell? (x.add i) = some (.int .u8 (z0.getD i 0))) ∧ ∀ n ∈ z0, (Lit.int .u8 n).wf = true) (y0 : len0 * 1 ≤ 140737488351232) :
  Calls Try.prog 3 #[.slice a0 len0 cap0] w fun e w' => e = .returned (.bool true) ∧ Below w.heap.size w w' := by
 obtain ⟨l0, rfl, hr0, hm0, hw0, hc0⟩ := ReadsInt.ofRowC w0
 obtain ⟨k, h⟩ := P l0 hm0 y0 hw0
 refine (laws_FnFopSend.calls k _ _ l0 true w (Kd.C_of_reads (d := (0 : Int)) (h1 := fun _ => rfl) hr0) hc0 h).mono ?_
 rintro e w' ⟨rfl, hd⟩
 exact ⟨rfl, hd⟩

end Go.Proofs.Ytnlhaiihbcdmoaa.P
