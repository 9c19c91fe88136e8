/- The machine side of these statements, function by function: what each Go function answers (as a Lean function), and that it does. Written by a program (mp.py) for this claim. -/
import Derived.Test.YtcenmlpfbpogoaaDoorPx0
import Derived.Test.YtcenmlpfbpogoaaDoorPx1
import Derived.Test.YtcenmlpfbpogoaaDoorPx6
import Derived.Test.YtcenmlpfbpogoaaDoorPx7
namespace Go.Proofs.YtcenmlpfbpogoaaDoor.P
open Go.RowKit Go.Proofs.YtcenmlpfbpogoaaDoorW.PrintWords Go.Proofs.YtcenmlpfbpogoaaDoorW.PrintLast Go.Proofs.YtcenmlpfbpogoaaDoorW.PrintMore
attribute [local go_sem] max2_int min2_int max_two min_two max_three min_three max_four min_four   -- for this text's walks alone
set_option linter.unusedVariables false
set_option linter.unusedSimpArgs false

/-! ### spec_l15Conf: function 52 -/
mutual
def spec_l15Conf.l0 : Nat → Int → List Int → Int → Int → Int → List (List (S107)) → List Int → List Int → Int → Option (Int × Int × (List (List (S107))) × List Int × List Int × List Int × List Int × List Int × (List (S78)) × Int × Int)
 | 0, _, _, _, _, _, _, _, _, _ => none
 | k + 1, x4, x1000, x1001, x215000, x215001, x215002, x215003, x215004, x215009 => if x4 > 0 then ((spec_l15Prog.f k x1000 x1001).bind fun bt217 => (if x215002.length < 5864062014805 then ((some (([1, 7, 9] : List Int) : List Int)).bind fun y224 => (if 0 ≤ (x215003.length : Int) then (if (x215003.length : Int) < (y224.length : Int) then (if x215003.length < 17592186044416 then ((spec_l1Rd_pick.f k x1000 bt217.2 10).bind fun bt231 => ((spec_l1Rd_one.f k x1000 bt231.2 (([wrap64 (1 + bt231.1), 40] : List Int))).bind fun bt236 => (if x215004.length < 17592186044416 then (spec_l15Conf.l0 k (wrap64 (x4 - 1)) x1000 bt236.2 x215000 x215001 (x215002 ++ [bt217.1]) (x215003 ++ [rd y224 (x215003.length : Int)]) (x215004 ++ [bt236.1]) x215009) else (none)))) else (none)) else (none)) else (none))) else (none))) else ((spec_l1Rd_pick.f k x1000 x1001 4).bind fun bt241 => (spec_l15Conf.l1 k (wrap64 (1 + bt241.1)) x1000 bt241.2 x215000 x215001 x215002 x215003 x215004 ([] : List Int) ([] : List Int) x215009))
def spec_l15Conf.l1 : Nat → Int → List Int → Int → Int → Int → List (List (S107)) → List Int → List Int → List Int → List Int → Int → Option (Int × Int × (List (List (S107))) × List Int × List Int × List Int × List Int × List Int × (List (S78)) × Int × Int)
 | 0, _, _, _, _, _, _, _, _, _, _, _ => none
 | k + 1, x5, x1000, x1001, x215000, x215001, x215002, x215003, x215004, x215005, x215006, x215009 => if x5 > 0 then ((spec_l1Rd_pick.f k x1000 x1001 (wrap64 ((x215002.length : Int) + 1))).bind fun bt243 => (if x215005.length < 17592186044416 then ((spec_l1Rd_pick.f k x1000 bt243.2 2).bind fun bt248 => (if x215006.length < 17592186044416 then (spec_l15Conf.l1 k (wrap64 (x5 - 1)) x1000 bt248.2 x215000 x215001 x215002 x215003 x215004 (x215005 ++ [wrap64 (bt243.1 - 1)]) (x215006 ++ [wrap64 (bt248.1 - 1)]) x215009) else (none))) else (none))) else ((spec_l1Rd_pick.f k x1000 x1001 4).bind fun bt253 => (spec_l15Conf.l2 k (wrap64 (1 + bt253.1)) x1000 bt253.2 x215000 x215001 x215002 x215003 x215004 x215005 x215006 ([] : List Int) x215009))
def spec_l15Conf.l2 : Nat → Int → List Int → Int → Int → Int → List (List (S107)) → List Int → List Int → List Int → List Int → List Int → Int → Option (Int × Int × (List (List (S107))) × List Int × List Int × List Int × List Int × List Int × (List (S78)) × Int × Int)
 | 0, _, _, _, _, _, _, _, _, _, _, _, _ => none
 | k + 1, x6, x1000, x1001, x215000, x215001, x215002, x215003, x215004, x215005, x215006, x215007, x215009 => if x6 > 0 then ((spec_l1Rd_pick.f k x1000 x1001 (wrap64 ((x215002.length : Int) + 1))).bind fun bt255 => (if x215007.length < 17592186044416 then (spec_l15Conf.l2 k (wrap64 (x6 - 1)) x1000 bt255.2 x215000 x215001 x215002 x215003 x215004 x215005 x215006 (x215007 ++ [bt255.1]) x215009) else (none))) else ((spec_l1Rd_pick.f k x1000 x1001 2).bind fun bt260 => ((spec_l1Rd_pick.f k x1000 bt260.2 4).bind fun bt265 => (spec_l15Conf.l3 k bt265.1 x1000 bt265.2 x215000 x215001 x215002 x215003 x215004 x215005 x215006 x215007 (([(⟨1, 0, 8, 1, true, true⟩ : S78), (⟨1, 0, 8, 2, false, true⟩ : S78), (⟨1, 0, 11, 4, true, (bt260.1 == 0)⟩ : S78), (⟨1, 1, 8, 1, true, false⟩ : S78), (⟨2, 7, 8, 1, true, true⟩ : S78), (⟨1, 0, 17, 1, true, true⟩ : S78)] : List (S78))) x215009)))
def spec_l15Conf.l3 : Nat → Int → List Int → Int → Int → Int → List (List (S107)) → List Int → List Int → List Int → List Int → List Int → List (S78) → Int → Option (Int × Int × (List (List (S107))) × List Int × List Int × List Int × List Int × List Int × (List (S78)) × Int × Int)
 | 0, _, _, _, _, _, _, _, _, _, _, _, _, _ => none
 | k + 1, x7, x1000, x1001, x215000, x215001, x215002, x215003, x215004, x215005, x215006, x215007, x215008, x215009 => if x7 > 0 then ((spec_l15Rule.f k x1000 x1001).bind fun bt267 => (if x215008.length < 3518437208883 then (spec_l15Conf.l3 k (wrap64 (x7 - 1)) x1000 bt267.2.2.2.2.2.2 x215000 x215001 x215002 x215003 x215004 x215005 x215006 x215007 (x215008 ++ [(⟨bt267.1, bt267.2.1, bt267.2.2.1, bt267.2.2.2.1, bt267.2.2.2.2.1, bt267.2.2.2.2.2.1⟩ : S78)]) x215009) else (none))) else (some (x215000, x215001, x215002, x215003, x215004, x215005, x215006, x215007, x215008, x215009, x1001))
end
def spec_l15Conf.f (k : Nat) (s0_0 : List Int) (s0_1 : Int) : Option (Int × Int × (List (List (S107))) × List Int × List Int × List Int × List Int × List Int × (List (S78)) × Int × Int) := (spec_l1Rd_one.f k s0_0 s0_1 (([9999, 50, 5, 0, 1, 2] : List Int))).bind fun bt212 => ((spec_l1Rd_pick.f k s0_0 bt212.2 3).bind fun bt215 => (spec_l15Conf.l0 k (wrap64 (1 + bt215.1)) s0_0 bt215.2 5 3 ([] : List (List (S107))) ([] : List Int) ([] : List Int) bt212.1))
theorem spec_l15Conf.mono_l : ∀ k, (∀ y0 y1 y2 y3 y4 y5 y6 y7 y8, LeO (spec_l15Conf.l0 k y0 y1 y2 y3 y4 y5 y6 y7 y8) (spec_l15Conf.l0 (k + 1) y0 y1 y2 y3 y4 y5 y6 y7 y8)) ∧ (∀ y0 y1 y2 y3 y4 y5 y6 y7 y8 y9 y10, LeO (spec_l15Conf.l1 k y0 y1 y2 y3 y4 y5 y6 y7 y8 y9 y10) (spec_l15Conf.l1 (k + 1) y0 y1 y2 y3 y4 y5 y6 y7 y8 y9 y10)) ∧ (∀ y0 y1 y2 y3 y4 y5 y6 y7 y8 y9 y10 y11, LeO (spec_l15Conf.l2 k y0 y1 y2 y3 y4 y5 y6 y7 y8 y9 y10 y11) (spec_l15Conf.l2 (k + 1) y0 y1 y2 y3 y4 y5 y6 y7 y8 y9 y10 y11)) ∧ (∀ y0 y1 y2 y3 y4 y5 y6 y7 y8 y9 y10 y11 y12, LeO (spec_l15Conf.l3 k y0 y1 y2 y3 y4 y5 y6 y7 y8 y9 y10 y11 y12) (spec_l15Conf.l3 (k + 1) y0 y1 y2 y3 y4 y5 y6 y7 y8 y9 y10 y11 y12))
 | 0 => ⟨fun _ _ _ _ _ _ _ _ _ r h => by simp [spec_l15Conf.l0] at h, fun _ _ _ _ _ _ _ _ _ _ _ r h => by simp [spec_l15Conf.l1] at h, fun _ _ _ _ _ _ _ _ _ _ _ _ r h => by simp [spec_l15Conf.l2] at h, fun _ _ _ _ _ _ _ _ _ _ _ _ _ r h => by simp [spec_l15Conf.l3] at h⟩
 | k + 1 => by
  obtain ⟨ih0, ih1, ih2, ih3⟩ := spec_l15Conf.mono_l k
  refine ⟨?_, ?_, ?_, ?_⟩
  ·intro y0 y1 y2 y3 y4 y5 y6 y7 y8
   unfold spec_l15Conf.l0
   repeat' first
   | (with_reducible exact ih0 _ _ _ _ _ _ _ _ _)
   | (with_reducible exact ih1 _ _ _ _ _ _ _ _ _ _ _)
   | (with_reducible exact ih2 _ _ _ _ _ _ _ _ _ _ _ _)
   | (with_reducible exact ih3 _ _ _ _ _ _ _ _ _ _ _ _ _)
   | (with_reducible exact spec_l15Prog.mono _ _ _)
   | (with_reducible exact spec_l15Rule.mono _ _ _)
   | (with_reducible exact spec_l1Rd_one.mono _ _ _ _)
   | (with_reducible exact spec_l1Rd_pick.mono _ _ _ _)
   | (with_reducible exact LeO.refl _)
   | (with_reducible exact LeO.none _)
   | (with_reducible refine LeO.ite ?_ ?_)
   | (with_reducible refine LeO.bind ?_ (fun _ => ?_))
   | exact ih0 _ _ _ _ _ _ _ _ _
   | exact ih1 _ _ _ _ _ _ _ _ _ _ _
   | exact ih2 _ _ _ _ _ _ _ _ _ _ _ _
   | exact ih3 _ _ _ _ _ _ _ _ _ _ _ _ _
   | exact spec_l15Prog.mono _ _ _
   | exact spec_l15Rule.mono _ _ _
   | exact spec_l1Rd_one.mono _ _ _ _
   | exact spec_l1Rd_pick.mono _ _ _ _
   | exact LeO.none _
   | refine LeO.ite ?_ ?_
   | refine LeO.bind ?_ (fun _ => ?_)
  ·intro y0 y1 y2 y3 y4 y5 y6 y7 y8 y9 y10
   unfold spec_l15Conf.l1
   repeat' first
   | (with_reducible exact ih0 _ _ _ _ _ _ _ _ _)
   | (with_reducible exact ih1 _ _ _ _ _ _ _ _ _ _ _)
   | (with_reducible exact ih2 _ _ _ _ _ _ _ _ _ _ _ _)
   | (with_reducible exact ih3 _ _ _ _ _ _ _ _ _ _ _ _ _)
   | (with_reducible exact spec_l15Prog.mono _ _ _)
   | (with_reducible exact spec_l15Rule.mono _ _ _)
   | (with_reducible exact spec_l1Rd_one.mono _ _ _ _)
   | (with_reducible exact spec_l1Rd_pick.mono _ _ _ _)
   | (with_reducible exact LeO.refl _)
   | (with_reducible exact LeO.none _)
   | (with_reducible refine LeO.ite ?_ ?_)
   | (with_reducible refine LeO.bind ?_ (fun _ => ?_))
   | exact ih0 _ _ _ _ _ _ _ _ _
   | exact ih1 _ _ _ _ _ _ _ _ _ _ _
   | exact ih2 _ _ _ _ _ _ _ _ _ _ _ _
   | exact ih3 _ _ _ _ _ _ _ _ _ _ _ _ _
   | exact spec_l15Prog.mono _ _ _
   | exact spec_l15Rule.mono _ _ _
   | exact spec_l1Rd_one.mono _ _ _ _
   | exact spec_l1Rd_pick.mono _ _ _ _
   | exact LeO.none _
   | refine LeO.ite ?_ ?_
   | refine LeO.bind ?_ (fun _ => ?_)
  ·intro y0 y1 y2 y3 y4 y5 y6 y7 y8 y9 y10 y11
   unfold spec_l15Conf.l2
   repeat' first
   | (with_reducible exact ih0 _ _ _ _ _ _ _ _ _)
   | (with_reducible exact ih1 _ _ _ _ _ _ _ _ _ _ _)
   | (with_reducible exact ih2 _ _ _ _ _ _ _ _ _ _ _ _)
   | (with_reducible exact ih3 _ _ _ _ _ _ _ _ _ _ _ _ _)
   | (with_reducible exact spec_l15Prog.mono _ _ _)
   | (with_reducible exact spec_l15Rule.mono _ _ _)
   | (with_reducible exact spec_l1Rd_one.mono _ _ _ _)
   | (with_reducible exact spec_l1Rd_pick.mono _ _ _ _)
   | (with_reducible exact LeO.refl _)
   | (with_reducible exact LeO.none _)
   | (with_reducible refine LeO.ite ?_ ?_)
   | (with_reducible refine LeO.bind ?_ (fun _ => ?_))
   | exact ih0 _ _ _ _ _ _ _ _ _
   | exact ih1 _ _ _ _ _ _ _ _ _ _ _
   | exact ih2 _ _ _ _ _ _ _ _ _ _ _ _
   | exact ih3 _ _ _ _ _ _ _ _ _ _ _ _ _
   | exact spec_l15Prog.mono _ _ _
   | exact spec_l15Rule.mono _ _ _
   | exact spec_l1Rd_one.mono _ _ _ _
   | exact spec_l1Rd_pick.mono _ _ _ _
   | exact LeO.none _
   | refine LeO.ite ?_ ?_
   | refine LeO.bind ?_ (fun _ => ?_)
  ·intro y0 y1 y2 y3 y4 y5 y6 y7 y8 y9 y10 y11 y12
   unfold spec_l15Conf.l3
   repeat' first
   | (with_reducible exact ih0 _ _ _ _ _ _ _ _ _)
   | (with_reducible exact ih1 _ _ _ _ _ _ _ _ _ _ _)
   | (with_reducible exact ih2 _ _ _ _ _ _ _ _ _ _ _ _)
   | (with_reducible exact ih3 _ _ _ _ _ _ _ _ _ _ _ _ _)
   | (with_reducible exact spec_l15Prog.mono _ _ _)
   | (with_reducible exact spec_l15Rule.mono _ _ _)
   | (with_reducible exact spec_l1Rd_one.mono _ _ _ _)
   | (with_reducible exact spec_l1Rd_pick.mono _ _ _ _)
   | (with_reducible exact LeO.refl _)
   | (with_reducible exact LeO.none _)
   | (with_reducible refine LeO.ite ?_ ?_)
   | (with_reducible refine LeO.bind ?_ (fun _ => ?_))
   | exact ih0 _ _ _ _ _ _ _ _ _
   | exact ih1 _ _ _ _ _ _ _ _ _ _ _
   | exact ih2 _ _ _ _ _ _ _ _ _ _ _ _
   | exact ih3 _ _ _ _ _ _ _ _ _ _ _ _ _
   | exact spec_l15Prog.mono _ _ _
   | exact spec_l15Rule.mono _ _ _
   | exact spec_l1Rd_one.mono _ _ _ _
   | exact spec_l1Rd_pick.mono _ _ _ _
   | exact LeO.none _
   | refine LeO.ite ?_ ?_
   | refine LeO.bind ?_ (fun _ => ?_)
theorem spec_l15Conf.mono : ∀ a0 a1 k, LeO (spec_l15Conf.f k a0 a1) (spec_l15Conf.f (k + 1) a0 a1) := by
 intro a0 a1 k
 obtain ⟨ih0, ih1, ih2, ih3⟩ := spec_l15Conf.mono_l k
 unfold spec_l15Conf.f
 repeat' first
   | (with_reducible exact ih0 _ _ _ _ _ _ _ _ _)
   | (with_reducible exact ih1 _ _ _ _ _ _ _ _ _ _ _)
   | (with_reducible exact ih2 _ _ _ _ _ _ _ _ _ _ _ _)
   | (with_reducible exact ih3 _ _ _ _ _ _ _ _ _ _ _ _ _)
   | (with_reducible exact spec_l15Prog.mono _ _ _)
   | (with_reducible exact spec_l15Rule.mono _ _ _)
   | (with_reducible exact spec_l1Rd_one.mono _ _ _ _)
   | (with_reducible exact spec_l1Rd_pick.mono _ _ _ _)
   | (with_reducible exact LeO.refl _)
   | (with_reducible exact LeO.none _)
   | (with_reducible refine LeO.ite ?_ ?_)
   | (with_reducible refine LeO.bind ?_ (fun _ => ?_))
   | exact ih0 _ _ _ _ _ _ _ _ _
   | exact ih1 _ _ _ _ _ _ _ _ _ _ _
   | exact ih2 _ _ _ _ _ _ _ _ _ _ _ _
   | exact ih3 _ _ _ _ _ _ _ _ _ _ _ _ _
   | exact spec_l15Prog.mono _ _ _
   | exact spec_l15Rule.mono _ _ _
   | exact spec_l1Rd_one.mono _ _ _ _
   | exact spec_l1Rd_pick.mono _ _ _ _
   | exact LeO.none _
   | refine LeO.ite ?_ ?_
   | refine LeO.bind ?_ (fun _ => ?_)
def spec_l15Conf.T5 : Bool × List (List Nat × List Nat) := (true, [([], []), ([0], [0]), ([], []), ([2], [2]), ([3], [3]), ([1, 4, 3], [1, 4]), ([0, 1, 2, 3, 4, 5], []), ([6, 5, 5, 0, 1, 2, 3, 4, 5], [5, 6])])
def spec_l15Conf.B5 : List Nat := [0, 1, 0, 4, 12, 31, 63, 127]
theorem spec_l15Conf.tab5 : rtab .any (opsOf Tryd.f52 5) = spec_l15Conf.T5 := by kernel_rfl
theorem spec_l15Conf.bits5 : waitsOk spec_l15Conf.T5.2 spec_l15Conf.B5 = true := by kernel_rfl
def spec_l15Conf.T6 : Bool × List (List Nat × List Nat) := (true, [([], []), ([0], [0]), ([], []), ([], []), ([3], [3]), ([4], [4]), ([2, 5], [2, 5]), ([6], [6]), ([7], [7]), ([1, 8], [1, 8]), ([0, 1, 2, 3, 4, 5, 6, 7, 8, 9], []), ([10, 9, 9, 0, 1, 2, 3, 4, 5, 6, 7, 8, 9], [9, 10])])
def spec_l15Conf.B6 : List Nat := [0, 1, 0, 0, 8, 24, 60, 124, 252, 511, 1023, 2047]
theorem spec_l15Conf.tab6 : rtab .any (opsOf Tryd.f52 6) = spec_l15Conf.T6 := by kernel_rfl
theorem spec_l15Conf.bits6 : waitsOk spec_l15Conf.T6.2 spec_l15Conf.B6 = true := by kernel_rfl
def spec_l15Conf.T7 : Bool × List (List Nat × List Nat) := (true, [([], []), ([0], [0]), ([], []), ([], []), ([3], [3]), ([4], [4]), ([5], [5]), ([2, 6, 4], [2, 6]), ([7], [7]), ([1, 8, 7], [1, 8]), ([0, 1, 2, 3, 4, 5, 6, 7, 8, 9], []), ([10, 9, 9, 0, 1, 2, 3, 4, 5, 6, 7, 8, 9], [9, 10])])
def spec_l15Conf.B7 : List Nat := [0, 1, 0, 0, 8, 24, 56, 124, 252, 511, 1023, 2047]
theorem spec_l15Conf.tab7 : rtab .any (opsOf Tryd.f52 7) = spec_l15Conf.T7 := by kernel_rfl
theorem spec_l15Conf.bits7 : waitsOk spec_l15Conf.T7.2 spec_l15Conf.B7 = true := by kernel_rfl
def spec_l15Conf.T11 : Bool × List (List Nat × List Nat) := (true, [([], []), ([0], [0]), ([], []), ([], []), ([3], [3]), ([4], [4]), ([5], [5]), ([2, 6], [2, 6]), ([7], [7]), ([8], [8]), ([1, 9, 7], [1, 9]), ([0, 1, 2, 3, 4, 5, 6, 7, 8, 9, 10], []), ([11, 10, 10, 0, 1, 2, 3, 4, 5, 6, 7, 8, 9, 10], [10, 11])])
def spec_l15Conf.B11 : List Nat := [0, 1, 0, 0, 8, 24, 56, 124, 252, 508, 1023, 2047, 4095]
theorem spec_l15Conf.tab11 : rtab .any (opsOf Tryd.f52 11) = spec_l15Conf.T11 := by kernel_rfl
theorem spec_l15Conf.bits11 : waitsOk spec_l15Conf.T11.2 spec_l15Conf.B11 = true := by kernel_rfl
def spec_l15Conf.T12 : Bool × List (List Nat × List Nat) := (true, [([], []), ([0], [0]), ([], []), ([2], [2]), ([3], [3]), ([4], [4]), ([1, 5, 3], [1, 5]), ([0, 1, 2, 3, 4, 5, 6], []), ([7, 6, 6, 0, 1, 2, 3, 4, 5, 6], [6, 7])])
def spec_l15Conf.B12 : List Nat := [0, 1, 0, 4, 12, 28, 63, 127, 255]
theorem spec_l15Conf.tab12 : rtab .any (opsOf Tryd.f52 12) = spec_l15Conf.T12 := by kernel_rfl
theorem spec_l15Conf.bits12 : waitsOk spec_l15Conf.T12.2 spec_l15Conf.B12 = true := by kernel_rfl
def spec_l15Conf.T16 : Bool × List (List Nat × List Nat) := (true, [([], []), ([0], [0]), ([], []), ([], []), ([3], [3]), ([4], [4]), ([5], [5]), ([2, 6], [2, 6]), ([7], [7]), ([1, 8, 7], [1, 8]), ([0, 1, 2, 3, 4, 5, 6, 7, 8, 9], []), ([10, 9, 9, 0, 1, 2, 3, 4, 5, 6, 7, 8, 9], [9, 10])])
def spec_l15Conf.B16 : List Nat := [0, 1, 0, 0, 8, 24, 56, 124, 252, 511, 1023, 2047]
theorem spec_l15Conf.tab16 : rtab .any (opsOf Tryd.f52 16) = spec_l15Conf.T16 := by kernel_rfl
theorem spec_l15Conf.bits16 : waitsOk spec_l15Conf.T16.2 spec_l15Conf.B16 = true := by kernel_rfl
def spec_l15Conf.T21 : Bool × List (List Nat × List Nat) := (true, [([], []), ([0], [0]), ([], []), ([2], [2]), ([3], [3]), ([1, 4, 3], [1, 4]), ([0, 1, 2, 3, 4, 5], []), ([6, 5, 5, 0, 1, 2, 3, 4, 5], [5, 6])])
def spec_l15Conf.B21 : List Nat := [0, 1, 0, 4, 12, 31, 63, 127]
theorem spec_l15Conf.tab21 : rtab .any (opsOf Tryd.f52 21) = spec_l15Conf.T21 := by kernel_rfl
theorem spec_l15Conf.bits21 : waitsOk spec_l15Conf.T21.2 spec_l15Conf.B21 = true := by kernel_rfl
set_option maxHeartbeats 8000000 in
set_option maxRecDepth 100000 in
theorem spec_l15Conf.calls (k : Nat) (g : Nat) (s0_0 : List Int) (s0_1 : Int) (r1 : Int) (r2 : Int) (r3 : List (List (S107))) (r4 : List Int) (r5 : List Int) (r6 : List Int) (r7 : List Int) (r8 : List Int) (r9 : List (S78)) (r10 : Int) (r11 : Int) (w0 w : World) (hI : IsS86 w0 w g s0_0 s0_1) (hB : Below w0.heap.size w0 w) (h : spec_l15Conf.f k s0_0 s0_1 = some (r1, r2, r3, r4, r5, r6, r7, r8, r9, r10, r11)) :
  Calls Tryd.prog 52 #[.pointer (some ⟨g, 0, none⟩)] w fun e w' => ∃ v2_ v3_ v4_ v5_ v6_ v7_ v8_ : Value, e = .returned (.agg #[.int .i64 r1, .int .i64 r2, v2_, v3_, v4_, v5_, v6_, v7_, v8_, .int .i64 r10]) ∧ Kd.S (Kd.slice 107 k107) 75 w' w.heap.size (fun _ => True) v2_ r3 ∧ Kd.R (Kd.int .i64) 3 w' w.heap.size (fun k_ => some k_ ≠ (v4_ : Value).ownBlock ∧ some k_ ≠ (v5_ : Value).ownBlock ∧ some k_ ≠ (v6_ : Value).ownBlock ∧ some k_ ≠ (v7_ : Value).ownBlock) v3_ r4 ∧ Kd.R (Kd.int .i64) 3 w' w.heap.size (fun k_ => some k_ ≠ (v3_ : Value).ownBlock ∧ some k_ ≠ (v5_ : Value).ownBlock ∧ some k_ ≠ (v6_ : Value).ownBlock ∧ some k_ ≠ (v7_ : Value).ownBlock) v4_ r5 ∧ Kd.R (Kd.int .i64) 3 w' w.heap.size (fun k_ => some k_ ≠ (v3_ : Value).ownBlock ∧ some k_ ≠ (v4_ : Value).ownBlock ∧ some k_ ≠ (v6_ : Value).ownBlock ∧ some k_ ≠ (v7_ : Value).ownBlock) v5_ r6 ∧ Kd.R (Kd.int .i64) 3 w' w.heap.size (fun k_ => some k_ ≠ (v3_ : Value).ownBlock ∧ some k_ ≠ (v4_ : Value).ownBlock ∧ some k_ ≠ (v5_ : Value).ownBlock ∧ some k_ ≠ (v7_ : Value).ownBlock) v6_ r7 ∧ Kd.R (Kd.int .i64) 3 w' w.heap.size (fun k_ => some k_ ≠ (v3_ : Value).ownBlock ∧ some k_ ≠ (v4_ : Value).ownBlock ∧ some k_ ≠ (v5_ : Value).ownBlock ∧ some k_ ≠ (v6_ : Value).ownBlock) v7_ r8 ∧ Kd.R k78 78 w' w.heap.size (fun _ => True) v8_ r9 ∧ IsS86 w0 w' g s0_0 r11 ∧ Below w0.heap.size w0 w' ∧ KeepBut w w' g none := by
 have hu32 := Tryd.underlying32
 have hu78 := Tryd.underlying78
 have HI0 := Aside0.mk hI
 have HK := m_ (KeepBut.refl w g none)
 have HL := Aside0.mk hB.size
 clear hI
 have HW0 := Aside0.mk hB.size
 have HB := Aside0.mk hB
 clear hB
 have H : ((spec_l1Rd_one.f k s0_0 s0_1 (([9999, 50, 5, 0, 1, 2] : List Int))).bind fun bt212 => ((spec_l1Rd_pick.f k s0_0 bt212.2 3).bind fun bt215 => (spec_l15Conf.l0 k (wrap64 (1 + bt215.1)) s0_0 bt215.2 5 3 ([] : List (List (S107))) ([] : List Int) ([] : List Int) bt212.1))) = some (r1, r2, r3, r4, r5, r6, r7, r8, r9, r10, r11) := h
 clear h
 obtain ⟨y209, hy209⟩ : ∃ y_ : List Int, y_ = (([9999, 50, 5, 0, 1, 2] : List Int)) := ⟨_, rfl⟩
 replace H : ((spec_l1Rd_one.f k s0_0 s0_1 y209).bind fun bt212 => ((spec_l1Rd_pick.f k s0_0 bt212.2 3).bind fun bt215 => (spec_l15Conf.l0 k (wrap64 (1 + bt215.1)) s0_0 bt215.2 5 3 ([] : List (List (S107))) ([] : List Int) ([] : List Int) bt212.1))) = some (r1, r2, r3, r4, r5, r6, r7, r8, r9, r10, r11) := by first | (rw [hy209]; with_reducible exact H) | (have H2_ := (Option.bind_some _ _).symm.trans H; rw [hy209]; with_reducible exact H2_) | (have H2_ := (Option.bind_some _ _).symm.trans H; with_reducible exact H2_) | with_reducible exact H | (rw [hy209]; exact H) | exact H
 have Ny209 := Aside0.mk hy209
 clear hy209
 replace H := Option.bind_eq_some_iff.mp H
 obtain ⟨⟨t212, t213⟩, A20, H⟩ := H
 replace H : ((spec_l1Rd_pick.f k s0_0 t213 3).bind fun bt215 => (spec_l15Conf.l0 k (wrap64 (1 + bt215.1)) s0_0 bt215.2 5 3 ([] : List (List (S107))) ([] : List Int) ([] : List Int) t212)) = some (r1, r2, r3, r4, r5, r6, r7, r8, r9, r10, r11) := H
 have A2 := Aside0.mk A20
 clear A20
 replace H := Option.bind_eq_some_iff.mp H
 obtain ⟨⟨t215, t216⟩, A30, H⟩ := H
 replace H : (spec_l15Conf.l0 k (wrap64 (1 + t215)) s0_0 t216 5 3 ([] : List (List (S107))) ([] : List Int) ([] : List Int) t212) = some (r1, r2, r3, r4, r5, r6, r7, r8, r9, r10, r11) := H
 have A3 := Aside0.mk A30
 clear A30
 have H' := Aside0.mk H
 clear H
 go_enter Tryd.func52, Tryd.ntmps52
 go_wp2_with (first | ((with_reducible refine gate_dst (N := 2) rfl ?_); refine box_event ?hg (N := 2) ?hd (cs := #[.int .i64 0, .int .i64 0, .slice none 0 0, .slice none 0 0, .slice none 0 0, .slice none 0 0, .slice none 0 0, .slice none 0 0, .slice none 0 0, .int .i64 0]) (t := 32) ?hr ?_; (case hd => rfl); (case hg => rfl); (case hr => first | (go_simp; done) | (go_simp; rfl)); intro gb208 hg w4 hbox hb; have n0_ := m_ (IsS86.below ((hI0 HI0.out)) hb); have n1_ := m_ (KeepBut.trans (hK0 HK.out) (KeepBut.of_below hb g none) (.inl rfl)); have n2_ := m_ (below_step ((hB1 HB.out (IsS86.ge HI0.out))) hb); have n3_ := m_ (hbox); have n4_ := m_ ((by rw [hg]; exact (keep_size (w := w) (g := g) (row := none) (hK0 HK.out)) : w.heap.size ≤ gb208)); have n5_ := m_ ((Nat.le_trans HW0.out (by rw [hg]; exact (keep_size (w := w) (g := g) (row := none) (hK0 HK.out)) : w.heap.size ≤ gb208) : w0.heap.size ≤ gb208)); have n6_ := m_ ((by rw [hg]; exact Nat.ne_of_lt (IsS86.lt (show IsS86 w0 _ g s0_0 s0_1 from (hI0 HI0.out))) : g ≠ gb208)); have n7_ := m_ ((by rw [hg]; exact Nat.ne_of_gt (IsS86.lt (show IsS86 w0 _ g s0_0 s0_1 from (hI0 HI0.out))) : gb208 ≠ g)); clear HI0 HK HB; have HI0 := n0_; have HK := n1_; have HB := n2_; have BK208 := n3_; have GW208 := n4_; have GE208 := n5_; have NB0_208 := n6_; have NB208_0 := n7_; clear n0_ n1_ n2_ n3_ n4_ n5_ n6_ n7_ hb hbox hg) | ((with_reducible refine gate_dst (N := 9) rfl ?_); refine Kd.R_lit (Kd.int .i64) _ 3 ?hg (N := 9) ?hd (xs := ([9999, 50, 5, 0, 1, 2] : List Int)) (inner := [.int .i64 9999, .int .i64 50, .int .i64 5, .int .i64 0, .int .i64 1, .int .i64 2]) (ok := fun _ => True) (okp := fun _ => True) ?hr ?hp (fun _ hk => hk) trivial (Below.refl _ _) (Nat.le_refl _) (by simp) ?_; (case hd => rfl); (case hg => rfl); (case hr => first | (go_simp; done) | (go_simp; rfl)); (case hp => exact (Reps.one (show Kd.M (Kd.int .i64) _ _ _ 9999 [.int .i64 9999] from rfl) (Reps.one (show Kd.M (Kd.int .i64) _ _ _ 50 [.int .i64 50] from rfl) (Reps.one (show Kd.M (Kd.int .i64) _ _ _ 5 [.int .i64 5] from rfl) (Reps.one (show Kd.M (Kd.int .i64) _ _ _ 0 [.int .i64 0] from rfl) (Reps.one (show Kd.M (Kd.int .i64) _ _ _ 1 [.int .i64 1] from rfl) (Reps.one (show Kd.M (Kd.int .i64) _ _ _ 2 [.int .i64 2] from rfl) (Reps.none _ _)))))))); intro v210 w5 ho6 hb hg_ hnew_; clear hg_ hnew_; (first | rw [← Ny209.out] at ho6 | (simp only [Int.reduceToNat] at ho6; rw [← Ny209.out] at ho6)); have n0_ := m_ (Kd.R_lower ho6 (keep_size (w := w) (g := g) (row := none) (hK1 HK.out GW208.out))); have n1_ := m_ (IsS86.below ((hI1 HI0.out NB0_208.out)) hb); have n2_ := m_ (blk_below (kN BK208.out) hb); have n3_ := m_ (KeepBut.trans (hK1 HK.out GW208.out) (KeepBut.of_below hb g none) (.inl rfl)); have n4_ := m_ (below_step ((hB2 HB.out (IsS86.ge HI0.out) GE208.out)) hb); clear HI0 BK208 HK HB; have HO211 := n0_; have HI0 := n1_; have BK208 := n2_; have HK := n3_; have HB := n4_; clear n0_ n1_ n2_ n3_ n4_ hb ho6; obtain ⟨Ao7, co7, eo7⟩ := Kd.R_slice HO211.out; subst eo7) | ((with_reducible refine gate_callee (f := 43) rfl ?_); refine goesL_ (some 10) rfl rfl Tryd.func43 (by kernel_rfl) rfl #[.pointer (some ⟨g, 0, none⟩), .slice Ao7 y209.length co7] rfl gl_ ?_; (with_reducible refine (spec_l1Rd_one.calls k g s0_0 s0_1 _ _ y209 t212 t213 w0 _ ?side1 ?side2 ?side3 ?side4 ?side5 A2.out).mono ?_); (case side1 => exact hI1 HI0.out NB0_208.out); (case side2 => exact hB2 HB.out (IsS86.ge HI0.out) GE208.out); (case side3 => exact cN (Kd.R_reads' HO211.out).2.2); (case side4 => exact (Kd.R_reads' HO211.out).2.1); (case side5 => exact far_slice (IsS86.own_ne HI0.out HO211.out (by decide))); rintro e w8 ⟨rfl, hi, hb, hk⟩; refine ⟨_, rfl, ?_⟩; have n0_ := m_ (KeepBut.blk hk (g' := gb208) (o := .cells #[.int .i64 0, .int .i64 0, .slice none 0 0, .slice none 0 0, .slice none 0 0, .slice none 0 0, .slice none 0 0, .slice none 0 0, .slice none 0 0, .int .i64 0] 32 (0, 0)) (kN BK208.out) NB208_0.out (by simp)); have n1_ := m_ (rK (show IsS86 w0 _ g s0_0 s0_1 from (hI1 HI0.out NB0_208.out)) (rN HO211.out) hk); have n2_ := m_ (KeepBut.trans (hK1 HK.out GW208.out) hk (.inl rfl)); have n3_ := m_ (hb); have n4_ := m_ (hi); clear BK208 HO211 HK HB HI0; have BK208 := n0_; have HO211 := n1_; have HK := n2_; have HB := n3_; have HI0 := n4_; clear n0_ n1_ n2_ n3_ n4_; (try clear hb); (try clear hb2); (try clear hk); (try clear hi)) | ((with_reducible refine gate_dst (N := 3) rfl ?_); refine box_event ?hg (N := 3) ?hd (cs := #[.int .i64 0, .int .i64 0, .slice none 0 0, .slice none 0 0, .slice none 0 0, .slice none 0 0, .slice none 0 0, .slice none 0 0, .slice none 0 0, .int .i64 0]) (t := 32) ?hr ?_; (case hd => rfl); (case hg => rfl); (case hr => first | (go_simp; done) | (go_simp; rfl)); intro gb214 hg w9 hbox hb; have n0_ := m_ (Kd.R_below (rN HO211.out) hb); have n1_ := m_ (IsS86.below ((hI1 HI0.out NB0_208.out)) hb); have n2_ := m_ (blk_below (kN BK208.out) hb); have n3_ := m_ (KeepBut.trans (hK1 HK.out GW208.out) (KeepBut.of_below hb g none) (.inl rfl)); have n4_ := m_ (below_step ((hB2 HB.out (IsS86.ge HI0.out) GE208.out)) hb); have n5_ := m_ (hbox); have n6_ := m_ ((by rw [hg]; exact (keep_size (w := w) (g := g) (row := none) (hK1 HK.out GW208.out)) : w.heap.size ≤ gb214)); have n7_ := m_ ((Nat.le_trans HW0.out (by rw [hg]; exact (keep_size (w := w) (g := g) (row := none) (hK1 HK.out GW208.out)) : w.heap.size ≤ gb214) : w0.heap.size ≤ gb214)); have n8_ := m_ (nL hg BK208.out); have n9_ := m_ (nG hg BK208.out); have n10_ := m_ ((by rw [hg]; exact Nat.ne_of_lt (IsS86.lt (show IsS86 w0 _ g s0_0 t213 from (hI1 HI0.out NB0_208.out))) : g ≠ gb214)); have n11_ := m_ ((by rw [hg]; exact Nat.ne_of_gt (IsS86.lt (show IsS86 w0 _ g s0_0 t213 from (hI1 HI0.out NB0_208.out))) : gb214 ≠ g)); clear HO211 HI0 BK208 HK HB; have HO211 := n0_; have HI0 := n1_; have BK208 := n2_; have HK := n3_; have HB := n4_; have BK214 := n5_; have GW214 := n6_; have GE214 := n7_; have NB208_214 := n8_; have NB214_208 := n9_; have NB0_214 := n10_; have NB214_0 := n11_; clear n0_ n1_ n2_ n3_ n4_ n5_ n6_ n7_ n8_ n9_ n10_ n11_ hb hbox hg; have hnb10 := NB214_208.out; have hnc10 := NB208_214.out; have hnb11 := NB214_0.out; have hnc11 := NB0_214.out; obtain ⟨⟨hcz12_0, hcz12_1, hcz12_2, hcz12_3, hcz12_4, hcz12_5, hcz12_6, hcz12_7, hcz12_8, hcz12_9⟩, hfz12_0, hfz12_1, hfz12_2, hfz12_3, hfz12_4, hfz12_5, hfz12_6, hfz12_7, hfz12_8, hfz12_9⟩ := row10 BK214.out) | ((with_reducible refine gate_callee (f := 46) rfl ?_); refine goesL_ (some 13) rfl rfl Tryd.func46 (by kernel_rfl) rfl #[.pointer (some ⟨g, 0, none⟩), .int .i64 3] rfl gl_ ?_; (with_reducible refine (spec_l1Rd_pick.calls k g s0_0 t213 3 t215 t216 w0 _ ?side1 ?side2 A3.out).mono ?_); (case side1 => exact hI2 HI0.out NB0_208.out NB0_214.out); (case side2 => exact hB3 HB.out (IsS86.ge HI0.out) GE208.out GE214.out); rintro e w13 ⟨rfl, hi, hb, hk⟩; refine ⟨_, rfl, ?_⟩; have n0_ := m_ (KeepBut.blk hk (g' := gb208) (o := .cells #[.int .i64 0, .int .i64 0, .slice none 0 0, .slice none 0 0, .slice none 0 0, .slice none 0 0, .slice none 0 0, .slice none 0 0, .slice none 0 0, .int .i64 0] 32 (0, 0)) (kF BK208.out NB208_214.out) NB208_0.out (by simp)); have n1_ := m_ (rK (show IsS86 w0 _ g s0_0 t213 from (hI2 HI0.out NB0_208.out NB0_214.out)) (frN (Kd.R_types HO211.out BK214.out (by decide))) hk); have n2_ := m_ (KeepBut.blk hk (g' := gb214) (o := .cells #[.int .i64 5, .int .i64 3, .slice none 0 0, .slice none 0 0, .slice none 0 0, .slice none 0 0, .slice none 0 0, .slice none 0 0, .slice none 0 0, .int .i64 t212] 32 (0, 0)) (by (with_reducible repeat (first | refine blk_drewN ?_ _ | refine blk_drew ?_ | refine blk_alloc ?_ _)); apply put10; (with_reducible repeat (first | refine blk_drewN ?_ _ | refine blk_drew ?_ | refine blk_alloc ?_ _)); exact BK214.out) NB214_0.out (by simp)); have n3_ := m_ (KeepBut.trans (hK2 HK.out GW208.out GW214.out) hk (.inl rfl)); have n4_ := m_ (hb); have n5_ := m_ (hi); clear BK208 HO211 BK214 HK HB HI0; have BK208 := n0_; have HO211 := n1_; have BK214 := n2_; have HK := n3_; have HB := n4_; have HI0 := n5_; clear n0_ n1_ n2_ n3_ n4_ n5_; (try clear hb); (try clear hb2); (try clear hk); (try clear hi)))
 go_loopg [4] k (fun kq v4 w' => ∃ (x4_1 : Int) (x1001_1 : Int) (x215002_1 : List (List (S107))) (x215003_1 : List Int) (x215004_1 : List Int) (u215002 : Value) (u215003 : Value) (u215004 : Value), v4 = .int .i64 x4_1 ∧ Aside0 (spec_l15Conf.l0 kq x4_1 s0_0 x1001_1 5 3 x215002_1 x215003_1 x215004_1 t212 = some (r1, r2, r3, r4, r5, r6, r7, r8, r9, r10, r11)) ∧ Aside0 (kq ≤ k) ∧ Aside0 (Kd.S (Kd.slice 107 k107) 75 w' w.heap.size (fun _ => True) u215002 x215002_1) ∧ Aside0 (Kd.R (Kd.int .i64) 3 w' w.heap.size (fun k_ => some k_ ≠ (u215004 : Value).ownBlock) u215003 x215003_1) ∧ Aside0 (Kd.R (Kd.int .i64) 3 w' w.heap.size (fun k_ => some k_ ≠ (u215003 : Value).ownBlock) u215004 x215004_1) ∧ Aside0 (w'.heap[gb208]? = some (.cells #[.int .i64 0, .int .i64 0, (.slice none 0 0), (.slice none 0 0), (.slice none 0 0), (.slice none 0 0), (.slice none 0 0), (.slice none 0 0), (.slice none 0 0), .int .i64 0] 32 (0, 0))) ∧ Aside0 (w'.heap[gb214]? = some (.cells #[.int .i64 5, .int .i64 3, u215002, u215003, u215004, (.slice none 0 0), (.slice none 0 0), (.slice none 0 0), (.slice none 0 0), .int .i64 t212] 32 (0, 0))) ∧ Aside0 (IsS86 w0 w' g s0_0 x1001_1) ∧ Aside0 (KeepBut w w' g none) ∧ Aside0 (Below w0.heap.size w0 w'))
 case atStart => exact ⟨(wrap64 (1 + t215)), (t216), (([] : List (List (S107)))), (([] : List Int)), (([] : List Int)), (.slice none 0 0), (.slice none 0 0), (.slice none 0 0), (by first | rfl | (simp; done) | (simp [*]; done)), H', ⟨Nat.le_refl _⟩, ⟨by first | exact Kd.S_nil _ _ _ _ _ | exact Kd.N_nil _ _ _ _ _ | exact Kd.V_nil _ _ _ _ _ | exact Kd.Q_nil _ _ _ _ _ | exact Kd.R_nil _ _ _ _ _⟩, ⟨by first | exact Kd.R_nil _ _ _ _ _ | exact Kd.N_nil _ _ _ _ _ | exact Kd.V_nil _ _ _ _ _ | exact Kd.Q_nil _ _ _ _ _ | exact Kd.S_nil _ _ _ _ _⟩, ⟨by first | exact Kd.R_nil _ _ _ _ _ | exact Kd.N_nil _ _ _ _ _ | exact Kd.V_nil _ _ _ _ _ | exact Kd.Q_nil _ _ _ _ _ | exact Kd.S_nil _ _ _ _ _⟩, ⟨kN BK208.out⟩, ⟨kN BK214.out⟩, ⟨(hI2 HI0.out NB0_208.out NB0_214.out)⟩, ⟨(hK2 HK.out GW208.out GW214.out)⟩, ⟨(hB3 HB.out (IsS86.ge HI0.out) GE208.out GE214.out)⟩⟩
 case round =>
  clear H'
  try clear c1
  try clear p2
  try clear c4
  try clear c5
  try clear p6
  try clear c10
  try clear c11
  obtain ⟨x4_1, x1001_1, x215002_1, x215003_1, x215004_1, u215002, u215003, u215004, rfl, HA, HK1, HO_215002, HO_215003, HO_215004, BK208, BK214, HI0, HK, HB⟩ := hrel
  cases gk with
  | zero => exact absurd HA.out (by simp [spec_l15Conf.l0])
  | succ k1 =>
   have H := HA.out
   clear HA
   simp only [spec_l15Conf.l0] at H
   by_cases c14 : x4_1 > 0
   ·rw [if_pos c14] at H
    have c14b0 : decide (0 < x4_1) = true := decide_eq_true c14
    clear c14
    replace H := Option.bind_eq_some_iff.mp H
    obtain ⟨⟨t217, t220⟩, A150, H⟩ := H
    replace H : (if x215002_1.length < 5864062014805 then ((some (([1, 7, 9] : List Int) : List Int)).bind fun y224 => (if 0 ≤ (x215003_1.length : Int) then (if (x215003_1.length : Int) < (y224.length : Int) then (if x215003_1.length < 17592186044416 then ((spec_l1Rd_pick.f k1 s0_0 t220 10).bind fun bt231 => ((spec_l1Rd_one.f k1 s0_0 bt231.2 (([wrap64 (1 + bt231.1), 40] : List Int))).bind fun bt236 => (if x215004_1.length < 17592186044416 then (spec_l15Conf.l0 k1 (wrap64 (x4_1 - 1)) s0_0 bt236.2 5 3 (x215002_1 ++ [t217]) (x215003_1 ++ [rd y224 (x215003_1.length : Int)]) (x215004_1 ++ [bt236.1]) t212) else (none)))) else (none)) else (none)) else (none))) else (none)) = some (r1, r2, r3, r4, r5, r6, r7, r8, r9, r10, r11) := H
    have A15 := Aside0.mk A150
    clear A150
    by_cases c16 : x215002_1.length < 5864062014805
    ·rw [if_pos c16] at H
     have LMc16 := Aside0.mk c16
     clear c16
     obtain ⟨y221, hy221⟩ : ∃ y_ : List (List (S107)), y_ = (x215002_1 ++ [t217]) := ⟨_, rfl⟩
     replace H : ((some (([1, 7, 9] : List Int) : List Int)).bind fun y224 => (if 0 ≤ (x215003_1.length : Int) then (if (x215003_1.length : Int) < (y224.length : Int) then (if x215003_1.length < 17592186044416 then ((spec_l1Rd_pick.f k1 s0_0 t220 10).bind fun bt231 => ((spec_l1Rd_one.f k1 s0_0 bt231.2 (([wrap64 (1 + bt231.1), 40] : List Int))).bind fun bt236 => (if x215004_1.length < 17592186044416 then (spec_l15Conf.l0 k1 (wrap64 (x4_1 - 1)) s0_0 bt236.2 5 3 y221 (x215003_1 ++ [rd y224 (x215003_1.length : Int)]) (x215004_1 ++ [bt236.1]) t212) else (none)))) else (none)) else (none)) else (none))) = some (r1, r2, r3, r4, r5, r6, r7, r8, r9, r10, r11) := by first | (rw [hy221]; with_reducible exact H) | (have H2_ := (Option.bind_some _ _).symm.trans H; rw [hy221]; with_reducible exact H2_) | (have H2_ := (Option.bind_some _ _).symm.trans H; with_reducible exact H2_) | with_reducible exact H | (rw [hy221]; exact H) | exact H
     have Ny221 := Aside0.mk hy221
     clear hy221
     obtain ⟨y224, hy224⟩ : ∃ y_ : List Int, y_ = (([1, 7, 9] : List Int)) := ⟨_, rfl⟩
     replace H : (if 0 ≤ (x215003_1.length : Int) then (if (x215003_1.length : Int) < (y224.length : Int) then (if x215003_1.length < 17592186044416 then ((spec_l1Rd_pick.f k1 s0_0 t220 10).bind fun bt231 => ((spec_l1Rd_one.f k1 s0_0 bt231.2 (([wrap64 (1 + bt231.1), 40] : List Int))).bind fun bt236 => (if x215004_1.length < 17592186044416 then (spec_l15Conf.l0 k1 (wrap64 (x4_1 - 1)) s0_0 bt236.2 5 3 y221 (x215003_1 ++ [rd y224 (x215003_1.length : Int)]) (x215004_1 ++ [bt236.1]) t212) else (none)))) else (none)) else (none)) else (none)) = some (r1, r2, r3, r4, r5, r6, r7, r8, r9, r10, r11) := by first | (rw [hy224]; with_reducible exact H) | (have H2_ := (Option.bind_some _ _).symm.trans H; rw [hy224]; with_reducible exact H2_) | (have H2_ := (Option.bind_some _ _).symm.trans H; with_reducible exact H2_) | with_reducible exact H | (rw [hy224]; exact H) | exact H
     have Ny224 := Aside0.mk hy224
     clear hy224
     by_cases c17 : 0 ≤ (x215003_1.length : Int)
     ·rw [if_pos c17] at H
      have c17b0 : decide (0 ≤ (x215003_1.length : Int)) = true := decide_eq_true c17
      have c17b1 : decide (0 ≤ x215003_1.length) = true := decide_eq_true (by omega)
      clear c17
      by_cases c18 : (x215003_1.length : Int) < (y224.length : Int)
      ·rw [if_pos c18] at H
       have c18b0 : decide ((x215003_1.length : Int) < (y224.length : Int)) = true := decide_eq_true c18
       have c18b1 : decide (x215003_1.length < y224.length) = true := decide_eq_true (Int.ofNat_lt.mp c18)
       clear c18
       by_cases c19 : x215003_1.length < 17592186044416
       ·rw [if_pos c19] at H
        have LMc19 := Aside0.mk c19
        clear c19
        obtain ⟨y228, hy228⟩ : ∃ y_ : List Int, y_ = (x215003_1 ++ [rd y224 (x215003_1.length : Int)]) := ⟨_, rfl⟩
        replace H : ((spec_l1Rd_pick.f k1 s0_0 t220 10).bind fun bt231 => ((spec_l1Rd_one.f k1 s0_0 bt231.2 (([wrap64 (1 + bt231.1), 40] : List Int))).bind fun bt236 => (if x215004_1.length < 17592186044416 then (spec_l15Conf.l0 k1 (wrap64 (x4_1 - 1)) s0_0 bt236.2 5 3 y221 y228 (x215004_1 ++ [bt236.1]) t212) else (none)))) = some (r1, r2, r3, r4, r5, r6, r7, r8, r9, r10, r11) := by first | (rw [hy228]; with_reducible exact H) | (have H2_ := (Option.bind_some _ _).symm.trans H; rw [hy228]; with_reducible exact H2_) | (have H2_ := (Option.bind_some _ _).symm.trans H; with_reducible exact H2_) | with_reducible exact H | (rw [hy228]; exact H) | exact H
        have Ny228 := Aside0.mk hy228
        clear hy228
        replace H := Option.bind_eq_some_iff.mp H
        obtain ⟨⟨t231, t232⟩, A200, H⟩ := H
        replace H : ((spec_l1Rd_one.f k1 s0_0 t232 (([wrap64 (1 + t231), 40] : List Int))).bind fun bt236 => (if x215004_1.length < 17592186044416 then (spec_l15Conf.l0 k1 (wrap64 (x4_1 - 1)) s0_0 bt236.2 5 3 y221 y228 (x215004_1 ++ [bt236.1]) t212) else (none))) = some (r1, r2, r3, r4, r5, r6, r7, r8, r9, r10, r11) := H
        have A20 := Aside0.mk A200
        clear A200
        obtain ⟨y233, hy233⟩ : ∃ y_ : List Int, y_ = (([wrap64 (1 + t231), 40] : List Int)) := ⟨_, rfl⟩
        replace H : ((spec_l1Rd_one.f k1 s0_0 t232 y233).bind fun bt236 => (if x215004_1.length < 17592186044416 then (spec_l15Conf.l0 k1 (wrap64 (x4_1 - 1)) s0_0 bt236.2 5 3 y221 y228 (x215004_1 ++ [bt236.1]) t212) else (none))) = some (r1, r2, r3, r4, r5, r6, r7, r8, r9, r10, r11) := by first | (rw [hy233]; with_reducible exact H) | (have H2_ := (Option.bind_some _ _).symm.trans H; rw [hy233]; with_reducible exact H2_) | (have H2_ := (Option.bind_some _ _).symm.trans H; with_reducible exact H2_) | with_reducible exact H | (rw [hy233]; exact H) | exact H
        have Ny233 := Aside0.mk hy233
        clear hy233
        replace H := Option.bind_eq_some_iff.mp H
        obtain ⟨⟨t236, t237⟩, A210, H⟩ := H
        replace H : (if x215004_1.length < 17592186044416 then (spec_l15Conf.l0 k1 (wrap64 (x4_1 - 1)) s0_0 t237 5 3 y221 y228 (x215004_1 ++ [t236]) t212) else (none)) = some (r1, r2, r3, r4, r5, r6, r7, r8, r9, r10, r11) := H
        have A21 := Aside0.mk A210
        clear A210
        by_cases c22 : x215004_1.length < 17592186044416
        ·rw [if_pos c22] at H
         have LMc22 := Aside0.mk c22
         clear c22
         obtain ⟨y238, hy238⟩ : ∃ y_ : List Int, y_ = (x215004_1 ++ [t236]) := ⟨_, rfl⟩
         replace H : (spec_l15Conf.l0 k1 (wrap64 (x4_1 - 1)) s0_0 t237 5 3 y221 y228 y238 t212) = some (r1, r2, r3, r4, r5, r6, r7, r8, r9, r10, r11) := by first | (rw [hy238]; with_reducible exact H) | (have H2_ := (Option.bind_some _ _).symm.trans H; rw [hy238]; with_reducible exact H2_) | (have H2_ := (Option.bind_some _ _).symm.trans H; with_reducible exact H2_) | with_reducible exact H | (rw [hy238]; exact H) | exact H
         have Ny238 := Aside0.mk hy238
         clear hy238
         have H' := Aside0.mk H
         clear H
         try go_wp2
         have n0_ := m_ (Kd.S_drew HO_215002.out)
         have n1_ := m_ (Kd.R_drew HO_215003.out)
         have n2_ := m_ (Kd.R_drew HO_215004.out)
         have n3_ := m_ (blk_drew BK208.out)
         have n4_ := m_ (blk_drew BK214.out)
         have n5_ := m_ (IsS86.drew HI0.out)
         have n6_ := m_ (keep_drew HK.out)
         have n7_ := m_ (below_drew1 HB.out)
         clear HO_215002 HO_215003 HO_215004 BK208 BK214 HI0 HK HB
         have HO_215002 := n0_; have HO_215003 := n1_
         have HO_215004 := n2_; have BK208 := n3_; have BK214 := n4_
         have HI0 := n5_; have HK := n6_; have HB := n7_
         clear n0_ n1_ n2_ n3_ n4_ n5_ n6_ n7_
         refine start_ (n := 8) (S := fun w' => w'.cell? ⟨gb214, 0, none⟩ = some (.int .i64 5) ∧ w'.cell? ⟨gb214, 1, none⟩ = some (.int .i64 3) ∧ w'.cell? ⟨gb214, 2, none⟩ = some (u215002) ∧ w'.cell? ⟨gb214, 3, none⟩ = some (u215003) ∧ w'.cell? ⟨gb214, 4, none⟩ = some (u215004) ∧ w'.cell? ⟨gb214, 5, none⟩ = some (.slice none 0 0) ∧ w'.cell? ⟨gb214, 6, none⟩ = some (.slice none 0 0) ∧ w'.cell? ⟨gb214, 7, none⟩ = some (.slice none 0 0) ∧ w'.cell? ⟨gb214, 8, none⟩ = some (.slice none 0 0) ∧ w'.cell? ⟨gb214, 9, none⟩ = some (.int .i64 t212)) (ds := [7]) #[false, false, false, false, false, false, false, false] (by kernel_rfl) rfl rfl ⟨bc BK214 0, bc BK214 1, bc BK214 2, bc BK214 3, bc BK214 4, bc BK214 5, bc BK214 6, bc BK214 7, bc BK214 8, bc BK214 9⟩ (fun hHeld => ?_); refine with_tabW spec_l15Conf.tab5 spec_l15Conf.bits5 (fun HT_ HW_ => ?_)
         generalize wr.drew = w23 at HO_215002 HO_215003 HO_215004 BK208 BK214 HI0 HK HB hHeld ⊢
         refine pu 0 19 HT_ (h := ?_)
         refine pu 2 21 HT_ (h := ?_)
         refine take_ (i := 1) (N := some 20) (v := ?_) (a' := ?_) #[true, true, true, false, false, false, false, false] rfl rfl (take_ofW HT_.out HW_.out (by kernel_rfl)) (fun _ _ _ h => h) (Or.inl ⟨by rfl, ?_⟩) hHeld ?_ ?_
         rotate_left
         ·rintro w' ⟨s0, s1, s2, s3, s4, s5, s6, s7, s8, s9⟩
          go_simp
          with_reducible rfl
         rotate_left
         ·simp only [Act.put, List.setIfInBounds_toArray, List.set_cons_zero, List.set_cons_succ, i64_w, i32_w]
          rfl
         refine one_ (i := 3) (N := some 22) #[true, true, true, true, false, false, false, false] rfl rfl (one_of HT_.out (by kernel_rfl)) (by decide) (fun K hK => ?_)
         refine goes_ Tryd.func67 (by kernel_rfl) rfl #[.pointer (some ⟨g, 0, none⟩)] (by rfl) rfl rfl gl_ ?_
         with_reducible refine (spec_l15Prog.calls k1 g s0_0 x1001_1 t217 t220 w0 _ ?side1 ?side2 A15.out).mono ?_
         (case side1 => exact hI2 HI0.out NB0_208.out NB0_214.out)
         (case side2 => exact hB3 HB.out (IsS86.ge HI0.out) GE208.out GE214.out)
         rintro e w24 ⟨v218, rfl, ho0, hi, hb, hk⟩
         refine ⟨_, rfl, ?_⟩
         have n0_ := m_ (Kd.S_mono (Kd.S_told (Kd.S_oldK (IsS86.apartS (show IsS86 w0 _ g s0_0 x1001_1 from (hI2 HI0.out NB0_208.out NB0_214.out)) (by (with_reducible repeat (first | apply Kd.S_alloc | apply Kd.S_drewN | apply Kd.S_drew)); exact HO_215002.out) (by decide)) hk) (Kd.R_base ho0)) (fun _ h_ => h_.1))
         have n1_ := m_ (rK (show IsS86 w0 _ g s0_0 x1001_1 from (hI2 HI0.out NB0_208.out NB0_214.out)) (rN HO_215003.out) hk)
         have n2_ := m_ (rK (show IsS86 w0 _ g s0_0 x1001_1 from (hI2 HI0.out NB0_208.out NB0_214.out)) (rN HO_215004.out) hk)
         have n3_ := m_ (KeepBut.blk hk (g' := gb208) (o := .cells #[.int .i64 0, .int .i64 0, .slice none 0 0, .slice none 0 0, .slice none 0 0, .slice none 0 0, .slice none 0 0, .slice none 0 0, .slice none 0 0, .int .i64 0] 32 (0, 0)) (kN BK208.out) NB208_0.out (by simp))
         have n4_ := m_ (KeepBut.blk hk (g' := gb214) (o := .cells #[.int .i64 5, .int .i64 3, u215002, u215003, u215004, .slice none 0 0, .slice none 0 0, .slice none 0 0, .slice none 0 0, .int .i64 t212] 32 (0, 0)) (kN BK214.out) NB214_0.out (by simp))
         have n5_ := m_ (Kd.R_lower ho0 (keep_size (w := w) (g := g) (row := none) (hK2 HK.out GW208.out GW214.out)))
         have n6_ := m_ (KeepBut.trans (hK2 HK.out GW208.out GW214.out) hk (.inl rfl))
         have n7_ := m_ (hb)
         have n8_ := m_ (hi)
         clear HO_215002 HO_215003 HO_215004 BK208 BK214 HK HB HI0
         have HO_215002 := n0_; have HO_215003 := n1_
         have HO_215004 := n2_; have BK208 := n3_; have BK214 := n4_
         have HO219 := n5_; have HK := n6_
         have HB := n7_; have HI0 := n8_
         clear n0_ n1_ n2_ n3_ n4_ n5_ n6_ n7_ n8_
         (try clear hb)
         (try clear hb2)
         (try clear hk)
         (try clear hi)
         (try clear ho0)
         obtain ⟨Ao26, co26, eo26⟩ := Kd.R_slice HO219.out
         (first | subst eo26 | (injection eo26 with f1_ f2_ f3_; have f4_ := f1_.symm; have f5_ := f3_.symm; clear f1_ f2_ f3_; subst f4_; subst f5_))
         refine hK.out _ _ ⟨bc BK214 0, bc BK214 1, bc BK214 2, bc BK214 3, bc BK214 4, bc BK214 5, bc BK214 6, bc BK214 7, bc BK214 8, bc BK214 9⟩ (fun hHeld => ?_)
         clear hK K
         refine np (h := ?_)
         refine one_ (i := 4) (N := some 23) #[true, true, true, true, true, false, false, false] rfl rfl (one_of HT_.out (by kernel_rfl)) (by decide) (fun K hK => ?_)
         refine value_ (w1 := ?_) (v := ?_) (by rfl) rfl ?_ ?_
         rotate_left 2
         ·go_simp
          constructor
          ·rfl
          ·rfl
         refine hK.out _ _ ⟨(blk_cell (blk_alloc BK214.out _) 0).trans rfl, (blk_cell (blk_alloc BK214.out _) 1).trans rfl, (blk_cell (blk_alloc BK214.out _) 2).trans rfl, (blk_cell (blk_alloc BK214.out _) 3).trans rfl, (blk_cell (blk_alloc BK214.out _) 4).trans rfl, (blk_cell (blk_alloc BK214.out _) 5).trans rfl, (blk_cell (blk_alloc BK214.out _) 6).trans rfl, (blk_cell (blk_alloc BK214.out _) 7).trans rfl, (blk_cell (blk_alloc BK214.out _) 8).trans rfl, (blk_cell (blk_alloc BK214.out _) 9).trans rfl⟩ (fun hHeld => ?_)
         clear hK K
         refine np (h := ?_)
         refine one_ (i := 5) (N := some 24) #[true, true, true, true, true, true, false, false] rfl rfl (one_of HT_.out (by kernel_rfl)) (by decide) (fun K hK => ?_)
         refine Kd.S_append_step (Kd.slice 107 k107) w.heap.size (by rfl) (.tmp 20) (.tmp 23) 29 75 (.slice none 0 0) 24 rfl Tryd.underlying29 info75 rfl (by decide) (by omega) u215002 x215002_1 t217 [.slice Ao26 t217.length co26] (fun _ => True) (fun k_ => some k_ = (.slice Ao26 t217.length co26 : Value).ownBlock) rfl rfl ?aP (fun k_ hk_ => ((Kd.R_mono (ok' := fun k_ => ((fun _ => True)) k_ ∧ some k_ ≠ (u215002 : Value).ownBlock) (Kd.R_apart' (HO219.out) (Kd.S_typed HO_215002.out) (by decide)) (fun k_ hk => ⟨trivial, hk.2⟩))).1 k_ hk_.symm) ?aF ?aO (Below.refl _ _) ?aS ?aL ?_
         (case aP => exact Kd.M_row (Kd.R_mono (Kd.R_tight rfl (Kd.R_mono (ok' := fun k_ => ((fun _ => True)) k_ ∧ some k_ ≠ (u215002 : Value).ownBlock) (Kd.R_apart' (HO219.out) (Kd.S_typed HO_215002.out) (by decide)) (fun k_ hk => ⟨trivial, hk.2⟩))) (fun _ h_ => h_)))
         (case aF => exact (fun _ _ => trivial))
         (case aO => exact (by (with_reducible repeat (first | apply Kd.S_alloc | apply Kd.S_drewN | apply Kd.S_drew)); exact Kd.S_mono HO_215002.out (fun k_ hk => ⟨trivial, fun e_ => hk.2 e_⟩)))
         (case aS => exact (keep_size (w := w) (g := g) (row := none) (hK2 HK.out GW208.out GW214.out)))
         (case aL => have := LMc16.out; omega)
         intro v222 w25 ho hb hg hat
         rw [← Ny221.out] at ho
         have n0_ := m_ (Kd.R_over' (rN HO_215003.out) (Kd.S_typed (by (with_reducible repeat (first | apply Kd.S_alloc | apply Kd.S_drewN | apply Kd.S_drew)); exact HO_215002.out)) (by decide) hg)
         have n1_ := m_ (Kd.R_over' (rN HO_215004.out) (Kd.S_typed (by (with_reducible repeat (first | apply Kd.S_alloc | apply Kd.S_drewN | apply Kd.S_drew)); exact HO_215002.out)) (by decide) hg)
         have n2_ := m_ (blk_grown (g := gb208) (o := .cells #[.int .i64 0, .int .i64 0, .slice none 0 0, .slice none 0 0, .slice none 0 0, .slice none 0 0, .slice none 0 0, .slice none 0 0, .slice none 0 0, .int .i64 0] 32 (0, 0)) (kN BK208.out) hg (Kd.S_ne HO_215002.out BK208.out (by decide)))
         have n3_ := m_ (blk_grown (g := gb214) (o := .cells #[.int .i64 5, .int .i64 3, u215002, u215003, u215004, .slice none 0 0, .slice none 0 0, .slice none 0 0, .slice none 0 0, .int .i64 t212] 32 (0, 0)) (kN BK214.out) hg (Kd.S_ne HO_215002.out BK214.out (by decide)))
         have n4_ := m_ (IsS86.grown ((hI2 HI0.out NB0_208.out NB0_214.out)) hg (IsS86.own_neS HI0.out HO_215002.out (by decide)))
         have n5_ := m_ (below_weaken ((hB3 HB.out (IsS86.ge HI0.out) GE208.out GE214.out)) HL.out hb)
         have n6_ := m_ (KeepBut.trans (hK2 HK.out GW208.out GW214.out) (KeepBut.of_grown hg g) (Kd.S_base2 HO_215002.out))
         have n7_ := m_ (ho)
         clear HO_215003 HO_215004 BK208 BK214 HI0 HB HK HO_215002 HO219
         have HO_215003 := n0_; have HO_215004 := n1_; have BK208 := n2_; have BK214 := n3_
         have HI0 := n4_; have HB := n5_
         have HK := n6_; have HO223 := n7_
         clear n0_ n1_ n2_ n3_ n4_ n5_ n6_ n7_ ho hb hg hat
         obtain ⟨Ao27, co27, eo27⟩ := Kd.S_slice HO223.out
         (first | subst eo27 | (injection eo27 with f1_ f2_ f3_; have f4_ := f1_.symm; have f5_ := f3_.symm; clear f1_ f2_ f3_; subst f4_; subst f5_))
         refine hK.out _ _ ⟨bc BK214 0, bc BK214 1, bc BK214 2, bc BK214 3, bc BK214 4, bc BK214 5, bc BK214 6, bc BK214 7, bc BK214 8, bc BK214 9⟩ (fun hHeld => ?_)
         clear hK K
         refine np (h := ?_)
         refine pu 6 25 HT_ (h := ?_)
         refine last_ (i := 7) (N := none) #[true, true, true, true, true, true, true, true] rfl rfl (one_of HT_.out (by kernel_rfl)) (by decide) (fun K hK => ?_)
         have hs28 : w25.cell? ⟨gb214, 2, none⟩ = some (u215002) := bc BK214 2
         have hfs28 := blk_frozen BK214.out 2
         have hns28_0 := NB208_214.out
         have hms28_0 := NB214_208.out
         refine skip_ (w1 := ?_) (by rfl) rfl ?_ ?_
         rotate_left
         ·go_simp
          rfl
         refine hK.out _ _ ?_
         clear hK K
         refine done_ (done_of HT_.out (by kernel_rfl)) ?_
         try go_wp2
         have pi227 : (0 ≤ ((x215003_1.length : Int) : Int)) = True := eq_true (of_decide_eq_true (by first | (with_reducible assumption) | assumption))
         have qi227 : ((x215003_1.length : Int) < (y224.length : Int)) = True := eq_true (of_decide_eq_true (by first | (with_reducible assumption) | assumption))
         have n0_ : Aside0 (Kd.R (Kd.int .i64) 3 (w25.setCell ⟨gb214, 2, none⟩ (.slice Ao27 y221.length co27)) w.heap.size (fun k_ => some k_ ≠ (u215004 : Value).ownBlock) u215003 x215003_1) := ⟨frM (Kd.R_types HO_215003.out BK214.out (by decide))⟩
         have n1_ : Aside0 (Kd.R (Kd.int .i64) 3 (w25.setCell ⟨gb214, 2, none⟩ (.slice Ao27 y221.length co27)) w.heap.size (fun k_ => some k_ ≠ (u215003 : Value).ownBlock) u215004 x215004_1) := ⟨frM (Kd.R_types HO_215004.out BK214.out (by decide))⟩
         have n2_ : Aside0 (Kd.S (Kd.slice 107 k107) 75 (w25.setCell ⟨gb214, 2, none⟩ (.slice Ao27 y221.length co27)) w.heap.size (fun _ => True) (.slice Ao27 y221.length co27) y221) := ⟨by (with_reducible repeat (first | apply Kd.S_alloc | apply Kd.S_drewN | apply Kd.S_drew)); exact Kd.S_mono (Kd.S_far (p := ⟨gb214, 2, none⟩) (Kd.S_types HO223.out BK214.out (by decide)) (fun _ hk => hk.2) (.slice Ao27 y221.length co27)) (fun _ hk => trivial)⟩
         have n3_ : Aside0 ((w25.setCell ⟨gb214, 2, none⟩ (.slice Ao27 y221.length co27)).heap[gb208]? = some (.cells #[.int .i64 0, .int .i64 0, .slice none 0 0, .slice none 0 0, .slice none 0 0, .slice none 0 0, .slice none 0 0, .slice none 0 0, .slice none 0 0, .int .i64 0] 32 (0, 0))) := ⟨kF BK208.out NB208_214.out⟩
         have n4_ : Aside0 ((w25.setCell ⟨gb214, 2, none⟩ (.slice Ao27 y221.length co27)).heap[gb214]? = some (.cells #[.int .i64 5, .int .i64 3, .slice Ao27 y221.length co27, u215003, u215004, .slice none 0 0, .slice none 0 0, .slice none 0 0, .slice none 0 0, .int .i64 t212] 32 (0, 0))) := ⟨kP BK214.out⟩
         have n5_ : Aside0 (IsS86 w0 (w25.setCell ⟨gb214, 2, none⟩ (.slice Ao27 y221.length co27)) g s0_0 t220) := ⟨(hI2 HI0.out NB0_208.out NB0_214.out)⟩
         have n6_ : Aside0 (KeepBut w (w25.setCell ⟨gb214, 2, none⟩ (.slice Ao27 y221.length co27)) g none) := ⟨(hK2 HK.out GW208.out GW214.out)⟩
         have n7_ : Aside0 (Below w0.heap.size w0 (w25.setCell ⟨gb214, 2, none⟩ (.slice Ao27 y221.length co27))) := ⟨(hB3 HB.out (IsS86.ge HI0.out) GE208.out GE214.out)⟩
         (try clear HO_215003)
         (try clear HO_215004)
         (try clear HO223)
         (try clear BK208)
         (try clear BK214)
         (try clear HI0)
         (try clear HK)
         (try clear HB)
         generalize (w25.setCell ⟨gb214, 2, none⟩ (.slice Ao27 y221.length co27)) = w29 at n0_ n1_ n2_ n3_ n4_ n5_ n6_ n7_ ⊢
         have HO_215003 := n0_; have HO_215004 := n1_
         have HO223 := n2_; have BK208 := n3_; have BK214 := n4_
         have HI0 := n5_; have HK := n6_; have HB := n7_
         clear n0_ n1_ n2_ n3_ n4_ n5_ n6_ n7_
         have n0_ := m_ (Kd.R_drew HO_215003.out)
         have n1_ := m_ (Kd.R_drew HO_215004.out)
         have n2_ := m_ (Kd.S_drew HO223.out)
         have n3_ := m_ (blk_drew BK208.out)
         have n4_ := m_ (blk_drew BK214.out)
         have n5_ := m_ (IsS86.drew HI0.out)
         have n6_ := m_ (keep_drew HK.out)
         have n7_ := m_ (below_drew1 HB.out)
         clear HO_215003 HO_215004 HO223 BK208 BK214 HI0 HK HB
         have HO_215003 := n0_; have HO_215004 := n1_
         have HO223 := n2_; have BK208 := n3_; have BK214 := n4_
         have HI0 := n5_; have HK := n6_; have HB := n7_
         clear n0_ n1_ n2_ n3_ n4_ n5_ n6_ n7_
         obtain ⟨Ao31, co31, eo31⟩ := Kd.R_slice HO_215003.out
         (first | subst eo31 | (injection eo31 with f1_ f2_ f3_; have f4_ := f1_.symm; have f5_ := f3_.symm; clear f1_ f2_ f3_; subst f4_; subst f5_))
         refine start_ (n := 12) (S := fun w' => w'.cell? ⟨gb214, 0, none⟩ = some (.int .i64 5) ∧ w'.cell? ⟨gb214, 1, none⟩ = some (.int .i64 3) ∧ w'.cell? ⟨gb214, 2, none⟩ = some (.slice Ao27 y221.length co27) ∧ w'.cell? ⟨gb214, 3, none⟩ = some (.slice Ao31 x215003_1.length co31) ∧ w'.cell? ⟨gb214, 4, none⟩ = some (u215004) ∧ w'.cell? ⟨gb214, 5, none⟩ = some (.slice none 0 0) ∧ w'.cell? ⟨gb214, 6, none⟩ = some (.slice none 0 0) ∧ w'.cell? ⟨gb214, 7, none⟩ = some (.slice none 0 0) ∧ w'.cell? ⟨gb214, 8, none⟩ = some (.slice none 0 0) ∧ w'.cell? ⟨gb214, 9, none⟩ = some (.int .i64 t212)) (ds := [11]) #[false, false, false, false, false, false, false, false, false, false, false, false] (by kernel_rfl) rfl rfl ⟨bc BK214 0, bc BK214 1, bc BK214 2, bc BK214 3, bc BK214 4, bc BK214 5, bc BK214 6, bc BK214 7, bc BK214 8, bc BK214 9⟩ (fun hHeld => ?_); refine with_tabW spec_l15Conf.tab6 spec_l15Conf.bits6 (fun HT_ HW_ => ?_)
         generalize w29.drew = w30 at HO_215003 HO_215004 HO223 BK208 BK214 HI0 HK HB hHeld ⊢
         refine pu 0 26 HT_ (h := ?_)
         refine pu 3 29 HT_ (h := ?_)
         refine take_ (i := 1) (N := some 27) (v := ?_) (a' := ?_) #[true, true, false, true, false, false, false, false, false, false, false, false] rfl rfl (take_ofW HT_.out HW_.out (by kernel_rfl)) (fun _ _ _ h => h) (Or.inl ⟨by rfl, ?_⟩) hHeld ?_ ?_
         rotate_left
         ·rintro w' ⟨s0, s1, s2, s3, s4, s5, s6, s7, s8, s9⟩
          go_simp
          with_reducible rfl
         rotate_left
         ·simp only [Act.put, List.setIfInBounds_toArray, List.set_cons_zero, List.set_cons_succ, i64_w, i32_w]
          rfl
         refine take_ (i := 4) (N := some 30) (v := ?_) (a' := ?_) #[true, true, false, true, true, false, false, false, false, false, false, false] rfl rfl (take_ofW HT_.out HW_.out (by kernel_rfl)) (fun _ _ _ h => h) (Or.inl ⟨by rfl, ?_⟩) hHeld ?_ ?_
         rotate_left
         ·rintro w' ⟨s0, s1, s2, s3, s4, s5, s6, s7, s8, s9⟩
          go_simp
          with_reducible rfl
         rotate_left
         ·simp only [Act.put, List.setIfInBounds_toArray, List.set_cons_zero, List.set_cons_succ, i64_w, i32_w]
          rfl
         refine pu 5 31 HT_ (h := ?_)
         refine one_ (i := 2) (N := some 28) #[true, true, true, true, true, true, false, false, false, false, false, false] rfl rfl (one_of HT_.out (by kernel_rfl)) (by decide) (fun K hK => ?_)
         refine Kd.R_lit_step (Kd.int .i64) _ 3 ?hg (N := 28) ?hd (xs := ([1, 7, 9] : List Int)) (inner := [.int .i64 1, .int .i64 7, .int .i64 9]) (ok := fun _ => True) (okp := fun _ => True) ?hr ?hp (fun _ hk => hk) trivial (Below.refl _ _) (Nat.le_refl _) (by simp) ?_; (case hd => rfl); (case hg => rfl); (case hr => first | (go_simp; done) | (go_simp; rfl)); (case hp => exact (Reps.one (show Kd.M (Kd.int .i64) _ _ _ 1 [.int .i64 1] from rfl) (Reps.one (show Kd.M (Kd.int .i64) _ _ _ 7 [.int .i64 7] from rfl) (Reps.one (show Kd.M (Kd.int .i64) _ _ _ 9 [.int .i64 9] from rfl) (Reps.none _ _)))))
         intro v225 w32 ho33 hb hg_ hnew_
         clear hg_ hnew_
         (first | rw [← Ny224.out] at ho33 | (simp only [Int.reduceToNat] at ho33; rw [← Ny224.out] at ho33))
         have n0_ := m_ (Kd.R_elder' (rN HO_215003.out) (Kd.R_base ho33) hb)
         have n1_ := m_ (Kd.R_elder' (rN HO_215004.out) (Kd.R_base ho33) hb)
         have n2_ := m_ (Kd.S_below (by (with_reducible repeat (first | apply Kd.S_alloc | apply Kd.S_drewN | apply Kd.S_drew)); exact HO223.out) hb)
         have n3_ := m_ (Kd.R_lower (Kd.R_new' (Kd.R_new' ho33 (Kd.R_lt (rN HO_215003.out))) (Kd.R_lt (rN HO_215004.out))) (keep_size (w := w) (g := g) (row := none) (hK2 HK.out GW208.out GW214.out)))
         have n4_ := m_ (blk_below (kN BK208.out) hb)
         have n5_ := m_ (blk_below (kN BK214.out) hb)
         have n6_ := m_ (IsS86.below ((hI2 HI0.out NB0_208.out NB0_214.out)) hb)
         have n7_ := m_ (KeepBut.trans (hK2 HK.out GW208.out GW214.out) (KeepBut.of_below hb g none) (.inl rfl))
         have n8_ := m_ (below_step ((hB3 HB.out (IsS86.ge HI0.out) GE208.out GE214.out)) hb)
         clear HO_215003 HO_215004 HO223 BK208 BK214 HI0 HK HB
         have HO_215003 := n0_; have HO_215004 := n1_
         have HO223 := n2_; have HO226 := n3_; have BK208 := n4_; have BK214 := n5_
         have HI0 := n6_; have HK := n7_; have HB := n8_
         clear n0_ n1_ n2_ n3_ n4_ n5_ n6_ n7_ n8_ hb ho33
         obtain ⟨Ao34, co34, eo34⟩ := Kd.R_slice HO226.out
         subst eo34
         obtain ⟨ado34, fo34, _⟩ := Kd.at_int (Kd.R_reads' HO226.out).2.2 0 (by decide) (by rw [Ny224.out]; simp)
         cases fo34
         refine hK.out _ _ ⟨bc BK214 0, bc BK214 1, bc BK214 2, bc BK214 3, bc BK214 4, bc BK214 5, bc BK214 6, bc BK214 7, bc BK214 8, bc BK214 9⟩ (fun hHeld => ?_)
         clear hK K
         refine np (h := ?_)
         refine pu 6 32 HT_ (h := ?_)
         refine one_ (i := 7) (N := some 33) #[true, true, true, true, true, true, true, true, false, false, false, false] rfl rfl (one_of HT_.out (by kernel_rfl)) (by decide) (fun K hK => ?_)
         (have p227 : 0 ≤ ((x215003_1.length : Int) : Int) := of_decide_eq_true (by first | (with_reducible assumption) | assumption); have q227 : (x215003_1.length : Int) < (y224.length : Int) := of_decide_eq_true (by first | (with_reducible assumption) | assumption); obtain ⟨ad227, e227, hx227_0⟩ := Kd.at_int (Kd.R_reads' HO226.out).2.2 (x215003_1.length : Int) p227 q227; (try rw [Int.toNat_natCast] at hx227_0); obtain rfl : ado34 = ad227 := (by injection e227))
         refine value_ (w1 := ?_) (v := ?_) (by rfl) rfl ?_ ?_
         rotate_left 2
         ·go_simp
          constructor
          ·rfl
          ·rfl
         clear hx227_0
         refine hK.out _ _ ⟨bc BK214 0, bc BK214 1, bc BK214 2, bc BK214 3, bc BK214 4, bc BK214 5, bc BK214 6, bc BK214 7, bc BK214 8, bc BK214 9⟩ (fun hHeld => ?_)
         clear hK K
         refine np (h := ?_)
         refine one_ (i := 8) (N := some 34) #[true, true, true, true, true, true, true, true, true, false, false, false] rfl rfl (one_of HT_.out (by kernel_rfl)) (by decide) (fun K hK => ?_)
         refine value_ (w1 := ?_) (v := ?_) (by rfl) rfl ?_ ?_
         rotate_left 2
         ·go_simp
          constructor
          ·rfl
          ·rfl
         refine hK.out _ _ ⟨(blk_cell (blk_alloc BK214.out _) 0).trans rfl, (blk_cell (blk_alloc BK214.out _) 1).trans rfl, (blk_cell (blk_alloc BK214.out _) 2).trans rfl, (blk_cell (blk_alloc BK214.out _) 3).trans rfl, (blk_cell (blk_alloc BK214.out _) 4).trans rfl, (blk_cell (blk_alloc BK214.out _) 5).trans rfl, (blk_cell (blk_alloc BK214.out _) 6).trans rfl, (blk_cell (blk_alloc BK214.out _) 7).trans rfl, (blk_cell (blk_alloc BK214.out _) 8).trans rfl, (blk_cell (blk_alloc BK214.out _) 9).trans rfl⟩ (fun hHeld => ?_)
         clear hK K
         refine np (h := ?_)
         refine one_ (i := 9) (N := some 35) #[true, true, true, true, true, true, true, true, true, true, false, false] rfl rfl (one_of HT_.out (by kernel_rfl)) (by decide) (fun K hK => ?_)
         refine Kd.R_append_step (Kd.int .i64) w.heap.size (by rfl) (.tmp 27) (.tmp 34) 23 3 (.int .i64 0) 8 rfl Tryd.underlying23 info3 rfl (by decide) (by omega) (.slice Ao31 x215003_1.length co31) x215003_1 (rd y224 (x215003_1.length : Int)) [.int .i64 (rd y224 (x215003_1.length : Int))] (fun k_ => some k_ ≠ (u215004 : Value).ownBlock ∧ some k_ ≠ (.slice (some ado34) y224.length co34 : Value).ownBlock) (fun _ => False) rfl rfl ?aP (fun _ hk => hk.elim) ?aF ?aO (Below.refl _ _) ?aS ?aL ?_
         (case aP => exact rfl)
         (case aF => exact (fun k_ hk => ⟨Kd.fresh' (Kd.R_lt (rN HO_215004.out)) k_ hk, Kd.fresh' (Kd.R_lt (rN HO226.out)) k_ hk⟩))
         (case aO => exact (rN HO_215003.out))
         (case aS => exact (keep_size (w := w) (g := g) (row := none) (hK2 HK.out GW208.out GW214.out)))
         (case aL => have := LMc19.out; omega)
         intro v229 w35 ho hb hg hat
         rw [← Ny228.out] at ho
         have n0_ := m_ (Kd.R_after (ok := (fun k_ => some k_ ≠ (.slice (some ado34) y224.length co34 : Value).ownBlock)) (by (with_reducible repeat (first | apply Kd.R_alloc | apply Kd.R_drewN | apply Kd.R_drew)); exact Kd.R_mono HO_215004.out (fun _ hk => ⟨hk.2, hk.1⟩)) hg hat)
         have n1_ := m_ (blk_grown (g := gb208) (o := .cells #[.int .i64 0, .int .i64 0, .slice none 0 0, .slice none 0 0, .slice none 0 0, .slice none 0 0, .slice none 0 0, .slice none 0 0, .slice none 0 0, .int .i64 0] 32 (0, 0)) (kN BK208.out) hg (Kd.R_ne HO_215003.out BK208.out (by decide)))
         have n2_ := m_ (blk_grown (g := gb214) (o := .cells #[.int .i64 5, .int .i64 3, .slice Ao27 y221.length co27, .slice Ao31 x215003_1.length co31, u215004, .slice none 0 0, .slice none 0 0, .slice none 0 0, .slice none 0 0, .int .i64 t212] 32 (0, 0)) (kN BK214.out) hg (Kd.R_ne HO_215003.out BK214.out (by decide)))
         have n3_ := m_ (IsS86.grown ((hI2 HI0.out NB0_208.out NB0_214.out)) hg (IsS86.own_ne HI0.out HO_215003.out (by decide)))
         have n4_ := m_ (Kd.S_over' (by (with_reducible repeat (first | apply Kd.S_alloc | apply Kd.S_drewN | apply Kd.S_drew)); exact HO223.out) (Kd.R_typed (rN HO_215003.out)) (by decide) hg)
         have n5_ := m_ (Kd.R_after (ok := (fun k_ => some k_ ≠ (u215004 : Value).ownBlock)) (by (with_reducible repeat (first | apply Kd.R_alloc | apply Kd.R_drewN | apply Kd.R_drew)); exact Kd.R_mono HO226.out (fun _ hk => ⟨hk.2, hk.1.2⟩)) hg hat)
         have n6_ := m_ (below_weaken ((hB3 HB.out (IsS86.ge HI0.out) GE208.out GE214.out)) HL.out hb)
         have n7_ := m_ (KeepBut.trans (hK2 HK.out GW208.out GW214.out) (KeepBut.of_grown hg g) (Kd.R_base2 HO_215003.out))
         have n8_ := m_ (ho)
         clear HO_215004 BK208 BK214 HI0 HO223 HO226 HB HK HO_215003
         have HO_215004 := n0_; have BK208 := n1_; have BK214 := n2_
         have HI0 := n3_; have HO223 := n4_
         have HO226 := n5_; have HB := n6_
         have HK := n7_; have HO230 := n8_
         clear n0_ n1_ n2_ n3_ n4_ n5_ n6_ n7_ n8_ ho hb hg hat
         obtain ⟨Ao36, co36, eo36⟩ := Kd.R_slice HO230.out
         (first | subst eo36 | (injection eo36 with f1_ f2_ f3_; have f4_ := f1_.symm; have f5_ := f3_.symm; clear f1_ f2_ f3_; subst f4_; subst f5_))
         refine hK.out _ _ ⟨bc BK214 0, bc BK214 1, bc BK214 2, bc BK214 3, bc BK214 4, bc BK214 5, bc BK214 6, bc BK214 7, bc BK214 8, bc BK214 9⟩ (fun hHeld => ?_)
         clear hK K
         refine np (h := ?_)
         refine pu 10 36 HT_ (h := ?_)
         refine last_ (i := 11) (N := none) #[true, true, true, true, true, true, true, true, true, true, true, true] rfl rfl (one_of HT_.out (by kernel_rfl)) (by decide) (fun K hK => ?_)
         have hs37 : w35.cell? ⟨gb214, 3, none⟩ = some (.slice Ao31 x215003_1.length co31) := bc BK214 3
         have hfs37 := blk_frozen BK214.out 3
         have hns37_0 := NB208_214.out
         have hms37_0 := NB214_208.out
         refine skip_ (w1 := ?_) (by rfl) rfl ?_ ?_
         rotate_left
         ·go_simp
          rfl
         refine hK.out _ _ ?_
         clear hK K
         refine done_ (done_of HT_.out (by kernel_rfl)) ?_
         try go_wp2
         have n0_ : Aside0 (Kd.R (Kd.int .i64) 3 (w35.setCell ⟨gb214, 3, none⟩ (.slice Ao36 y228.length co36)) w.heap.size (fun k_ => some k_ ≠ (.slice (some ado34) y224.length co34 : Value).ownBlock ∧ nb Ao36 y228.length co36 k_) u215004 x215004_1) := ⟨frM (Kd.R_types HO_215004.out BK214.out (by decide))⟩
         have n1_ : Aside0 (Kd.S (Kd.slice 107 k107) 75 (w35.setCell ⟨gb214, 3, none⟩ (.slice Ao36 y228.length co36)) w.heap.size (fun _ => True) (.slice Ao27 y221.length co27) y221) := ⟨by (with_reducible repeat (first | apply Kd.S_alloc | apply Kd.S_drewN | apply Kd.S_drew)); exact Kd.S_mono (Kd.S_far (p := ⟨gb214, 3, none⟩) (Kd.S_types HO223.out BK214.out (by decide)) (fun _ hk => hk.2) (.slice Ao36 y228.length co36)) (fun _ hk => trivial)⟩
         have n2_ : Aside0 (Kd.R (Kd.int .i64) 3 (w35.setCell ⟨gb214, 3, none⟩ (.slice Ao36 y228.length co36)) w.heap.size (fun k_ => some k_ ≠ (u215004 : Value).ownBlock ∧ nb Ao36 y228.length co36 k_) (.slice (some ado34) y224.length co34) y224) := ⟨frM (Kd.R_types HO226.out BK214.out (by decide))⟩
         have n3_ : Aside0 (Kd.R (Kd.int .i64) 3 (w35.setCell ⟨gb214, 3, none⟩ (.slice Ao36 y228.length co36)) w.heap.size (fun k_ => some k_ ≠ (u215004 : Value).ownBlock ∧ some k_ ≠ (.slice (some ado34) y224.length co34 : Value).ownBlock) (.slice Ao36 y228.length co36) y228) := ⟨frM (Kd.R_types HO230.out BK214.out (by decide))⟩
         have n4_ : Aside0 ((w35.setCell ⟨gb214, 3, none⟩ (.slice Ao36 y228.length co36)).heap[gb208]? = some (.cells #[.int .i64 0, .int .i64 0, .slice none 0 0, .slice none 0 0, .slice none 0 0, .slice none 0 0, .slice none 0 0, .slice none 0 0, .slice none 0 0, .int .i64 0] 32 (0, 0))) := ⟨kF BK208.out NB208_214.out⟩
         have n5_ : Aside0 ((w35.setCell ⟨gb214, 3, none⟩ (.slice Ao36 y228.length co36)).heap[gb214]? = some (.cells #[.int .i64 5, .int .i64 3, .slice Ao27 y221.length co27, .slice Ao36 y228.length co36, u215004, .slice none 0 0, .slice none 0 0, .slice none 0 0, .slice none 0 0, .int .i64 t212] 32 (0, 0))) := ⟨kP BK214.out⟩
         have n6_ : Aside0 (IsS86 w0 (w35.setCell ⟨gb214, 3, none⟩ (.slice Ao36 y228.length co36)) g s0_0 t220) := ⟨(hI2 HI0.out NB0_208.out NB0_214.out)⟩
         have n7_ : Aside0 (KeepBut w (w35.setCell ⟨gb214, 3, none⟩ (.slice Ao36 y228.length co36)) g none) := ⟨(hK2 HK.out GW208.out GW214.out)⟩
         have n8_ : Aside0 (Below w0.heap.size w0 (w35.setCell ⟨gb214, 3, none⟩ (.slice Ao36 y228.length co36))) := ⟨(hB3 HB.out (IsS86.ge HI0.out) GE208.out GE214.out)⟩
         (try clear HO_215004)
         (try clear HO223)
         (try clear HO226)
         (try clear HO230)
         (try clear BK208)
         (try clear BK214)
         (try clear HI0)
         (try clear HK)
         (try clear HB)
         generalize (w35.setCell ⟨gb214, 3, none⟩ (.slice Ao36 y228.length co36)) = w38 at n0_ n1_ n2_ n3_ n4_ n5_ n6_ n7_ n8_ ⊢
         have HO_215004 := n0_; have HO223 := n1_
         have HO226 := n2_; have HO230 := n3_; have BK208 := n4_; have BK214 := n5_
         have HI0 := n6_; have HK := n7_; have HB := n8_
         clear n0_ n1_ n2_ n3_ n4_ n5_ n6_ n7_ n8_
         have n0_ := m_ (Kd.R_drew HO_215004.out)
         have n1_ := m_ (Kd.S_drew HO223.out)
         have n2_ := m_ (Kd.R_drew HO226.out)
         have n3_ := m_ (Kd.R_drew HO230.out)
         have n4_ := m_ (blk_drew BK208.out)
         have n5_ := m_ (blk_drew BK214.out)
         have n6_ := m_ (IsS86.drew HI0.out)
         have n7_ := m_ (keep_drew HK.out)
         have n8_ := m_ (below_drew1 HB.out)
         clear HO_215004 HO223 HO226 HO230 BK208 BK214 HI0 HK HB
         have HO_215004 := n0_; have HO223 := n1_
         have HO226 := n2_; have HO230 := n3_; have BK208 := n4_; have BK214 := n5_
         have HI0 := n6_; have HK := n7_; have HB := n8_
         clear n0_ n1_ n2_ n3_ n4_ n5_ n6_ n7_ n8_
         refine start_ (n := 12) (S := fun w' => w'.cell? ⟨gb214, 0, none⟩ = some (.int .i64 5) ∧ w'.cell? ⟨gb214, 1, none⟩ = some (.int .i64 3) ∧ w'.cell? ⟨gb214, 2, none⟩ = some (.slice Ao27 y221.length co27) ∧ w'.cell? ⟨gb214, 3, none⟩ = some (.slice Ao36 y228.length co36) ∧ w'.cell? ⟨gb214, 4, none⟩ = some (u215004) ∧ w'.cell? ⟨gb214, 5, none⟩ = some (.slice none 0 0) ∧ w'.cell? ⟨gb214, 6, none⟩ = some (.slice none 0 0) ∧ w'.cell? ⟨gb214, 7, none⟩ = some (.slice none 0 0) ∧ w'.cell? ⟨gb214, 8, none⟩ = some (.slice none 0 0) ∧ w'.cell? ⟨gb214, 9, none⟩ = some (.int .i64 t212)) (ds := [11]) #[false, false, false, false, false, false, false, false, false, false, false, false] (by kernel_rfl) rfl rfl ⟨bc BK214 0, bc BK214 1, bc BK214 2, bc BK214 3, bc BK214 4, bc BK214 5, bc BK214 6, bc BK214 7, bc BK214 8, bc BK214 9⟩ (fun hHeld => ?_); refine with_tabW spec_l15Conf.tab7 spec_l15Conf.bits7 (fun HT_ HW_ => ?_)
         generalize w38.drew = w39 at HO_215004 HO223 HO226 HO230 BK208 BK214 HI0 HK HB hHeld ⊢
         refine pu 0 37 HT_ (h := ?_)
         refine pu 2 39 HT_ (h := ?_)
         refine pu 3 40 HT_ (h := ?_)
         refine take_ (i := 1) (N := some 38) (v := ?_) (a' := ?_) #[true, true, true, true, false, false, false, false, false, false, false, false] rfl rfl (take_ofW HT_.out HW_.out (by kernel_rfl)) (fun _ _ _ h => h) (Or.inl ⟨by rfl, ?_⟩) hHeld ?_ ?_
         rotate_left
         ·rintro w' ⟨s0, s1, s2, s3, s4, s5, s6, s7, s8, s9⟩
          go_simp
          with_reducible rfl
         rotate_left
         ·simp only [Act.put, List.setIfInBounds_toArray, List.set_cons_zero, List.set_cons_succ, i64_w, i32_w]
          rfl
         refine one_ (i := 4) (N := some 41) #[true, true, true, true, true, false, false, false, false, false, false, false] rfl rfl (one_of HT_.out (by kernel_rfl)) (by decide) (fun K hK => ?_)
         refine goes_ Tryd.func46 (by kernel_rfl) rfl #[.pointer (some ⟨g, 0, none⟩), .int .i64 10] (by rfl) rfl rfl gl_ ?_
         with_reducible refine (spec_l1Rd_pick.calls k1 g s0_0 t220 10 t231 t232 w0 _ ?side1 ?side2 A20.out).mono ?_
         (case side1 => exact hI2 HI0.out NB0_208.out NB0_214.out)
         (case side2 => exact hB3 HB.out (IsS86.ge HI0.out) GE208.out GE214.out)
         rintro e w40 ⟨rfl, hi, hb, hk⟩
         refine ⟨_, rfl, ?_⟩
         have n0_ := m_ (rK (show IsS86 w0 _ g s0_0 t220 from (hI2 HI0.out NB0_208.out NB0_214.out)) (rN HO_215004.out) hk)
         have n1_ := m_ (KeepBut.blk hk (g' := gb208) (o := .cells #[.int .i64 0, .int .i64 0, .slice none 0 0, .slice none 0 0, .slice none 0 0, .slice none 0 0, .slice none 0 0, .slice none 0 0, .slice none 0 0, .int .i64 0] 32 (0, 0)) (kN BK208.out) NB208_0.out (by simp))
         have n2_ := m_ (KeepBut.blk hk (g' := gb214) (o := .cells #[.int .i64 5, .int .i64 3, .slice Ao27 y221.length co27, .slice Ao36 y228.length co36, u215004, .slice none 0 0, .slice none 0 0, .slice none 0 0, .slice none 0 0, .int .i64 t212] 32 (0, 0)) (kN BK214.out) NB214_0.out (by simp))
         have n3_ := m_ (Kd.S_mono (Kd.S_keep (IsS86.apartS (show IsS86 w0 _ g s0_0 t220 from (hI2 HI0.out NB0_208.out NB0_214.out)) (by (with_reducible repeat (first | apply Kd.S_alloc | apply Kd.S_drewN | apply Kd.S_drew)); exact HO223.out) (by decide)) hk (fun _ h => h.2)) (fun _ h => h.1))
         have n4_ := m_ (rK (show IsS86 w0 _ g s0_0 t220 from (hI2 HI0.out NB0_208.out NB0_214.out)) (rN HO226.out) hk)
         have n5_ := m_ (rK (show IsS86 w0 _ g s0_0 t220 from (hI2 HI0.out NB0_208.out NB0_214.out)) (rN HO230.out) hk)
         have n6_ := m_ (KeepBut.trans (hK2 HK.out GW208.out GW214.out) hk (.inl rfl))
         have n7_ := m_ (hb)
         have n8_ := m_ (hi)
         clear HO_215004 BK208 BK214 HO223 HO226 HO230 HK HB HI0
         have HO_215004 := n0_; have BK208 := n1_; have BK214 := n2_
         have HO223 := n3_; have HO226 := n4_
         have HO230 := n5_; have HK := n6_
         have HB := n7_; have HI0 := n8_
         clear n0_ n1_ n2_ n3_ n4_ n5_ n6_ n7_ n8_
         (try clear hb)
         (try clear hb2)
         (try clear hk)
         (try clear hi)
         refine hK.out _ _ ⟨bc BK214 0, bc BK214 1, bc BK214 2, bc BK214 3, bc BK214 4, bc BK214 5, bc BK214 6, bc BK214 7, bc BK214 8, bc BK214 9⟩ (fun hHeld => ?_)
         clear hK K
         refine np (h := ?_)
         refine pu 5 42 HT_ (h := ?_)
         refine one_ (i := 6) (N := some 43) #[true, true, true, true, true, true, true, false, false, false, false, false] rfl rfl (one_of HT_.out (by kernel_rfl)) (by decide) (fun K hK => ?_)
         refine Kd.R_lit_step (Kd.int .i64) _ 3 ?hg (N := 43) ?hd (xs := ([wrap64 (1 + t231), 40] : List Int)) (inner := [.int .i64 (wrap64 (1 + t231)), .int .i64 40]) (ok := fun _ => True) (okp := fun _ => True) ?hr ?hp (fun _ hk => hk) trivial (Below.refl _ _) (Nat.le_refl _) (by simp) ?_; (case hd => rfl); (case hg => rfl); (case hr => first | (go_simp; done) | (go_simp; rfl)); (case hp => exact (Reps.one (show Kd.M (Kd.int .i64) _ _ _ (wrap64 (1 + t231)) [.int .i64 (wrap64 (1 + t231))] from rfl) (Reps.one (show Kd.M (Kd.int .i64) _ _ _ 40 [.int .i64 40] from rfl) (Reps.none _ _))))
         intro v234 w41 ho42 hb hg_ hnew_
         clear hg_ hnew_
         (first | rw [← Ny233.out] at ho42 | (simp only [Int.reduceToNat] at ho42; rw [← Ny233.out] at ho42))
         have n0_ := m_ (Kd.R_elder' (rN HO_215004.out) (Kd.R_base ho42) hb)
         have n1_ := m_ (Kd.S_below (by (with_reducible repeat (first | apply Kd.S_alloc | apply Kd.S_drewN | apply Kd.S_drew)); exact HO223.out) hb)
         have n2_ := m_ (Kd.R_elder' (rN HO226.out) (Kd.R_base ho42) hb)
         have n3_ := m_ (Kd.R_elder' (rN HO230.out) (Kd.R_base ho42) hb)
         have n4_ := m_ (Kd.R_lower (Kd.R_new' (Kd.R_new' (Kd.R_new' ho42 (Kd.R_lt (rN HO_215004.out))) (Kd.R_lt (rN HO226.out))) (Kd.R_lt (rN HO230.out))) (keep_size (w := w) (g := g) (row := none) (hK2 HK.out GW208.out GW214.out)))
         have n5_ := m_ (blk_below (kN BK208.out) hb)
         have n6_ := m_ (blk_below (kN BK214.out) hb)
         have n7_ := m_ (IsS86.below ((hI2 HI0.out NB0_208.out NB0_214.out)) hb)
         have n8_ := m_ (KeepBut.trans (hK2 HK.out GW208.out GW214.out) (KeepBut.of_below hb g none) (.inl rfl))
         have n9_ := m_ (below_step ((hB3 HB.out (IsS86.ge HI0.out) GE208.out GE214.out)) hb)
         clear HO_215004 HO223 HO226 HO230 BK208 BK214 HI0 HK HB
         have HO_215004 := n0_; have HO223 := n1_
         have HO226 := n2_; have HO230 := n3_
         have HO235 := n4_; have BK208 := n5_; have BK214 := n6_
         have HI0 := n7_; have HK := n8_; have HB := n9_
         clear n0_ n1_ n2_ n3_ n4_ n5_ n6_ n7_ n8_ n9_ hb ho42
         obtain ⟨Ao43, co43, eo43⟩ := Kd.R_slice HO235.out
         (first | subst eo43 | (injection eo43 with f1_ f2_ f3_; have f4_ := f1_.symm; have f5_ := f3_.symm; clear f1_ f2_ f3_; subst f4_; subst f5_))
         refine hK.out _ _ ⟨bc BK214 0, bc BK214 1, bc BK214 2, bc BK214 3, bc BK214 4, bc BK214 5, bc BK214 6, bc BK214 7, bc BK214 8, bc BK214 9⟩ (fun hHeld => ?_)
         clear hK K
         refine np (h := ?_)
         refine one_ (i := 7) (N := some 44) #[true, true, true, true, true, true, true, true, false, false, false, false] rfl rfl (one_of HT_.out (by kernel_rfl)) (by decide) (fun K hK => ?_)
         refine goes_ Tryd.func43 (by kernel_rfl) rfl #[.pointer (some ⟨g, 0, none⟩), .slice Ao43 y233.length co43] (by rfl) rfl rfl gl_ ?_
         with_reducible refine (spec_l1Rd_one.calls k1 g s0_0 t232 _ _ y233 t236 t237 w0 _ ?side1 ?side2 ?side3 ?side4 ?side5 A21.out).mono ?_
         (case side1 => exact hI2 HI0.out NB0_208.out NB0_214.out)
         (case side2 => exact hB3 HB.out (IsS86.ge HI0.out) GE208.out GE214.out)
         (case side3 => exact cN (Kd.R_reads' HO235.out).2.2)
         (case side4 => exact (Kd.R_reads' HO235.out).2.1)
         (case side5 => exact far_slice (IsS86.own_ne HI0.out HO235.out (by decide)))
         rintro e w44 ⟨rfl, hi, hb, hk⟩
         refine ⟨_, rfl, ?_⟩
         have n0_ := m_ (rK (show IsS86 w0 _ g s0_0 t232 from (hI2 HI0.out NB0_208.out NB0_214.out)) (rN HO_215004.out) hk)
         have n1_ := m_ (KeepBut.blk hk (g' := gb208) (o := .cells #[.int .i64 0, .int .i64 0, .slice none 0 0, .slice none 0 0, .slice none 0 0, .slice none 0 0, .slice none 0 0, .slice none 0 0, .slice none 0 0, .int .i64 0] 32 (0, 0)) (kN BK208.out) NB208_0.out (by simp))
         have n2_ := m_ (KeepBut.blk hk (g' := gb214) (o := .cells #[.int .i64 5, .int .i64 3, .slice Ao27 y221.length co27, .slice Ao36 y228.length co36, u215004, .slice none 0 0, .slice none 0 0, .slice none 0 0, .slice none 0 0, .int .i64 t212] 32 (0, 0)) (kN BK214.out) NB214_0.out (by simp))
         have n3_ := m_ (Kd.S_mono (Kd.S_keep (IsS86.apartS (show IsS86 w0 _ g s0_0 t232 from (hI2 HI0.out NB0_208.out NB0_214.out)) (by (with_reducible repeat (first | apply Kd.S_alloc | apply Kd.S_drewN | apply Kd.S_drew)); exact HO223.out) (by decide)) hk (fun _ h => h.2)) (fun _ h => h.1))
         have n4_ := m_ (rK (show IsS86 w0 _ g s0_0 t232 from (hI2 HI0.out NB0_208.out NB0_214.out)) (rN HO226.out) hk)
         have n5_ := m_ (rK (show IsS86 w0 _ g s0_0 t232 from (hI2 HI0.out NB0_208.out NB0_214.out)) (rN HO230.out) hk)
         have n6_ := m_ (rK (show IsS86 w0 _ g s0_0 t232 from (hI2 HI0.out NB0_208.out NB0_214.out)) (rN HO235.out) hk)
         have n7_ := m_ (KeepBut.trans (hK2 HK.out GW208.out GW214.out) hk (.inl rfl))
         have n8_ := m_ (hb)
         have n9_ := m_ (hi)
         clear HO_215004 BK208 BK214 HO223 HO226 HO230 HO235 HK HB HI0
         have HO_215004 := n0_; have BK208 := n1_; have BK214 := n2_
         have HO223 := n3_; have HO226 := n4_
         have HO230 := n5_; have HO235 := n6_
         have HK := n7_; have HB := n8_; have HI0 := n9_
         clear n0_ n1_ n2_ n3_ n4_ n5_ n6_ n7_ n8_ n9_
         (try clear hb)
         (try clear hb2)
         (try clear hk)
         (try clear hi)
         refine hK.out _ _ ⟨bc BK214 0, bc BK214 1, bc BK214 2, bc BK214 3, bc BK214 4, bc BK214 5, bc BK214 6, bc BK214 7, bc BK214 8, bc BK214 9⟩ (fun hHeld => ?_)
         clear hK K
         refine np (h := ?_)
         refine one_ (i := 8) (N := some 45) #[true, true, true, true, true, true, true, true, true, false, false, false] rfl rfl (one_of HT_.out (by kernel_rfl)) (by decide) (fun K hK => ?_)
         refine value_ (w1 := ?_) (v := ?_) (by rfl) rfl ?_ ?_
         rotate_left 2
         ·go_simp
          constructor
          ·rfl
          ·rfl
         refine hK.out _ _ ⟨(blk_cell (blk_alloc BK214.out _) 0).trans rfl, (blk_cell (blk_alloc BK214.out _) 1).trans rfl, (blk_cell (blk_alloc BK214.out _) 2).trans rfl, (blk_cell (blk_alloc BK214.out _) 3).trans rfl, (blk_cell (blk_alloc BK214.out _) 4).trans rfl, (blk_cell (blk_alloc BK214.out _) 5).trans rfl, (blk_cell (blk_alloc BK214.out _) 6).trans rfl, (blk_cell (blk_alloc BK214.out _) 7).trans rfl, (blk_cell (blk_alloc BK214.out _) 8).trans rfl, (blk_cell (blk_alloc BK214.out _) 9).trans rfl⟩ (fun hHeld => ?_)
         clear hK K
         refine np (h := ?_)
         refine one_ (i := 9) (N := some 46) #[true, true, true, true, true, true, true, true, true, true, false, false] rfl rfl (one_of HT_.out (by kernel_rfl)) (by decide) (fun K hK => ?_)
         refine Kd.R_append_step (Kd.int .i64) w.heap.size (by rfl) (.tmp 38) (.tmp 45) 23 3 (.int .i64 0) 8 rfl Tryd.underlying23 info3 rfl (by decide) (by omega) u215004 x215004_1 t236 [.int .i64 t236] (fun k_ => some k_ ≠ (.slice (some ado34) y224.length co34 : Value).ownBlock ∧ nb Ao36 y228.length co36 k_ ∧ nb Ao43 y233.length co43 k_) (fun _ => False) rfl rfl ?aP (fun _ hk => hk.elim) ?aF ?aO (Below.refl _ _) ?aS ?aL ?_
         (case aP => exact rfl)
         (case aF => exact (fun k_ hk => ⟨Kd.fresh' (Kd.R_lt (rN HO226.out)) k_ hk, Kd.fresh' (Kd.R_lt (rN HO230.out)) k_ hk, Kd.fresh' (Kd.R_lt (rN HO235.out)) k_ hk⟩))
         (case aO => exact (by (with_reducible repeat (first | apply Kd.R_alloc | apply Kd.R_drewN | apply Kd.R_drew)); exact Kd.R_mono HO_215004.out (fun _ hk => ⟨hk.1.1, ⟨hk.1.2, hk.2⟩⟩)))
         (case aS => exact (keep_size (w := w) (g := g) (row := none) (hK2 HK.out GW208.out GW214.out)))
         (case aL => have := LMc22.out; omega)
         intro v239 w45 ho hb hg hat
         rw [← Ny238.out] at ho
         have n0_ := m_ (blk_grown (g := gb208) (o := .cells #[.int .i64 0, .int .i64 0, .slice none 0 0, .slice none 0 0, .slice none 0 0, .slice none 0 0, .slice none 0 0, .slice none 0 0, .slice none 0 0, .int .i64 0] 32 (0, 0)) (kN BK208.out) hg (Kd.R_ne HO_215004.out BK208.out (by decide)))
         have n1_ := m_ (blk_grown (g := gb214) (o := .cells #[.int .i64 5, .int .i64 3, .slice Ao27 y221.length co27, .slice Ao36 y228.length co36, u215004, .slice none 0 0, .slice none 0 0, .slice none 0 0, .slice none 0 0, .int .i64 t212] 32 (0, 0)) (kN BK214.out) hg (Kd.R_ne HO_215004.out BK214.out (by decide)))
         have n2_ := m_ (IsS86.grown ((hI2 HI0.out NB0_208.out NB0_214.out)) hg (IsS86.own_ne HI0.out HO_215004.out (by decide)))
         have n3_ := m_ (Kd.S_over' (by (with_reducible repeat (first | apply Kd.S_alloc | apply Kd.S_drewN | apply Kd.S_drew)); exact HO223.out) (Kd.R_typed (rN HO_215004.out)) (by decide) hg)
         have n4_ := m_ (Kd.R_after (ok := (fun k_ => nb Ao36 y228.length co36 k_ ∧ nb Ao43 y233.length co43 k_)) (by (with_reducible repeat (first | apply Kd.R_alloc | apply Kd.R_drewN | apply Kd.R_drew)); exact Kd.R_mono HO226.out (fun _ hk => ⟨⟨hk.1.2, hk.2⟩, hk.1.1⟩)) hg hat)
         have n5_ := m_ (Kd.R_after (ok := (fun k_ => some k_ ≠ (.slice (some ado34) y224.length co34 : Value).ownBlock ∧ nb Ao43 y233.length co43 k_)) (by (with_reducible repeat (first | apply Kd.R_alloc | apply Kd.R_drewN | apply Kd.R_drew)); exact Kd.R_mono HO230.out (fun _ hk => ⟨⟨hk.1.2, hk.2⟩, hk.1.1⟩)) hg hat)
         have n6_ := m_ (Kd.R_after (ok := (fun k_ => some k_ ≠ (.slice (some ado34) y224.length co34 : Value).ownBlock ∧ nb Ao36 y228.length co36 k_)) (by (with_reducible repeat (first | apply Kd.R_alloc | apply Kd.R_drewN | apply Kd.R_drew)); exact Kd.R_mono HO235.out (fun _ hk => ⟨⟨hk.1.2, hk.2⟩, hk.1.1.2⟩)) hg hat)
         have n7_ := m_ (below_weaken ((hB3 HB.out (IsS86.ge HI0.out) GE208.out GE214.out)) HL.out hb)
         have n8_ := m_ (KeepBut.trans (hK2 HK.out GW208.out GW214.out) (KeepBut.of_grown hg g) (Kd.R_base2 HO_215004.out))
         have n9_ := m_ (ho)
         clear BK208 BK214 HI0 HO223 HO226 HO230 HO235 HB HK HO_215004
         have BK208 := n0_
         have BK214 := n1_
         have HI0 := n2_; have HO223 := n3_
         have HO226 := n4_; have HO230 := n5_
         have HO235 := n6_; have HB := n7_
         have HK := n8_; have HO240 := n9_
         clear n0_ n1_ n2_ n3_ n4_ n5_ n6_ n7_ n8_ n9_ ho hb hg hat
         obtain ⟨Ao46, co46, eo46⟩ := Kd.R_slice HO240.out
         (first | subst eo46 | (injection eo46 with f1_ f2_ f3_; have f4_ := f1_.symm; have f5_ := f3_.symm; clear f1_ f2_ f3_; subst f4_; subst f5_))
         refine hK.out _ _ ⟨bc BK214 0, bc BK214 1, bc BK214 2, bc BK214 3, bc BK214 4, bc BK214 5, bc BK214 6, bc BK214 7, bc BK214 8, bc BK214 9⟩ (fun hHeld => ?_)
         clear hK K
         refine np (h := ?_)
         refine pu 10 47 HT_ (h := ?_)
         refine last_ (i := 11) (N := none) #[true, true, true, true, true, true, true, true, true, true, true, true] rfl rfl (one_of HT_.out (by kernel_rfl)) (by decide) (fun K hK => ?_)
         have hs47 : w45.cell? ⟨gb214, 4, none⟩ = some (u215004) := bc BK214 4
         have hfs47 := blk_frozen BK214.out 4
         have hns47_0 := NB208_214.out
         have hms47_0 := NB214_208.out
         refine skip_ (w1 := ?_) (by rfl) rfl ?_ ?_
         rotate_left
         ·go_simp
          rfl
         refine hK.out _ _ ?_
         clear hK K
         refine done_ (done_of HT_.out (by kernel_rfl)) ?_
         try go_wp2
         go_roundg k1
         case measure => have := HK1.out; omega
         case rel => exact ⟨(wrap64 (x4_1 - 1)), (t237), (y221), (y228), (y238), (.slice Ao27 y221.length co27), (.slice Ao36 y228.length co36), (.slice Ao46 y238.length co46), (by first | rfl | (simp; done) | (simp [*]; done)), H', ⟨by have := HK1.out; omega⟩, ⟨by (with_reducible repeat (first | apply Kd.S_alloc | apply Kd.S_drewN | apply Kd.S_drew)); exact Kd.S_mono (Kd.S_far (p := ⟨gb214, 4, none⟩) (Kd.S_types HO223.out BK214.out (by decide)) (fun _ hk => hk.2) (.slice Ao46 y238.length co46)) (fun _ hk => trivial)⟩, ⟨frM (Kd.R_types HO230.out BK214.out (by decide))⟩, ⟨frM (Kd.R_types HO240.out BK214.out (by decide))⟩, ⟨kF BK208.out NB208_214.out⟩, ⟨kP BK214.out⟩, ⟨(hI2 HI0.out NB0_208.out NB0_214.out)⟩, ⟨(hK2 HK.out GW208.out GW214.out)⟩, ⟨(hB3 HB.out (IsS86.ge HI0.out) GE208.out GE214.out)⟩⟩
        ·rw [if_neg c22] at H
         exact absurd H (by simp)
       ·rw [if_neg c19] at H
        exact absurd H (by simp)
      ·rw [if_neg c18] at H
       exact absurd H (by simp)
     ·rw [if_neg c17] at H
      exact absurd H (by simp)
    ·rw [if_neg c16] at H
     exact absurd H (by simp)
   ·rw [if_neg c14] at H
    have c14b0 : decide (0 < x4_1) = false := decide_eq_false c14
    clear c14
    replace H := Option.bind_eq_some_iff.mp H
    obtain ⟨⟨t241, t242⟩, A480, H⟩ := H
    replace H : (spec_l15Conf.l1 k1 (wrap64 (1 + t241)) s0_0 t242 5 3 x215002_1 x215003_1 x215004_1 ([] : List Int) ([] : List Int) t212) = some (r1, r2, r3, r4, r5, r6, r7, r8, r9, r10, r11) := H
    have A48 := Aside0.mk A480
    clear A480
    have H' := Aside0.mk H
    clear H
    go_wp2_with (first | ((with_reducible refine gate_callee (f := 46) rfl ?_); refine goesL_ (some 49) rfl rfl Tryd.func46 (by kernel_rfl) rfl #[.pointer (some ⟨g, 0, none⟩), .int .i64 4] rfl gl_ ?_; (with_reducible refine (spec_l1Rd_pick.calls k1 g s0_0 x1001_1 4 t241 t242 w0 _ ?side1 ?side2 A48.out).mono ?_); (case side1 => exact hI2 HI0.out NB0_208.out NB0_214.out); (case side2 => exact hB3 HB.out (IsS86.ge HI0.out) GE208.out GE214.out); rintro e w49 ⟨rfl, hi, hb, hk⟩; refine ⟨_, rfl, ?_⟩; have n0_ := m_ (Kd.S_mono (Kd.S_keep (IsS86.apartS (show IsS86 w0 _ g s0_0 x1001_1 from (hI2 HI0.out NB0_208.out NB0_214.out)) (by (with_reducible repeat (first | apply Kd.S_alloc | apply Kd.S_drewN | apply Kd.S_drew)); exact HO_215002.out) (by decide)) hk (fun _ h => h.2)) (fun _ h => h.1)); have n1_ := m_ (rK (show IsS86 w0 _ g s0_0 x1001_1 from (hI2 HI0.out NB0_208.out NB0_214.out)) (rN HO_215003.out) hk); have n2_ := m_ (rK (show IsS86 w0 _ g s0_0 x1001_1 from (hI2 HI0.out NB0_208.out NB0_214.out)) (rN HO_215004.out) hk); have n3_ := m_ (KeepBut.blk hk (g' := gb208) (o := .cells #[.int .i64 0, .int .i64 0, .slice none 0 0, .slice none 0 0, .slice none 0 0, .slice none 0 0, .slice none 0 0, .slice none 0 0, .slice none 0 0, .int .i64 0] 32 (0, 0)) (kN BK208.out) NB208_0.out (by simp)); have n4_ := m_ (KeepBut.blk hk (g' := gb214) (o := .cells #[.int .i64 5, .int .i64 3, u215002, u215003, u215004, .slice none 0 0, .slice none 0 0, .slice none 0 0, .slice none 0 0, .int .i64 t212] 32 (0, 0)) (kN BK214.out) NB214_0.out (by simp)); have n5_ := m_ (KeepBut.trans (hK2 HK.out GW208.out GW214.out) hk (.inl rfl)); have n6_ := m_ (hb); have n7_ := m_ (hi); clear HO_215002 HO_215003 HO_215004 BK208 BK214 HK HB HI0; have HO_215002 := n0_; have HO_215003 := n1_; have HO_215004 := n2_; have BK208 := n3_; have BK214 := n4_; have HK := n5_; have HB := n6_; have HI0 := n7_; clear n0_ n1_ n2_ n3_ n4_ n5_ n6_ n7_; (try clear hb); (try clear hb2); (try clear hk); (try clear hi)))
    go_loopg [5] k1 (fun kq v5 w' => ∃ (x5_2 : Int) (x1001_2 : Int) (x215005_2 : List Int) (x215006_2 : List Int) (u215005 : Value) (u215006 : Value), v5 = .int .i64 x5_2 ∧ Aside0 (spec_l15Conf.l1 kq x5_2 s0_0 x1001_2 5 3 x215002_1 x215003_1 x215004_1 x215005_2 x215006_2 t212 = some (r1, r2, r3, r4, r5, r6, r7, r8, r9, r10, r11)) ∧ Aside0 (kq ≤ k1) ∧ Aside0 (Kd.S (Kd.slice 107 k107) 75 w' w.heap.size (fun _ => True) u215002 x215002_1) ∧ Aside0 (Kd.R (Kd.int .i64) 3 w' w.heap.size (fun k_ => some k_ ≠ (u215004 : Value).ownBlock ∧ some k_ ≠ (u215005 : Value).ownBlock ∧ some k_ ≠ (u215006 : Value).ownBlock) u215003 x215003_1) ∧ Aside0 (Kd.R (Kd.int .i64) 3 w' w.heap.size (fun k_ => some k_ ≠ (u215003 : Value).ownBlock ∧ some k_ ≠ (u215005 : Value).ownBlock ∧ some k_ ≠ (u215006 : Value).ownBlock) u215004 x215004_1) ∧ Aside0 (Kd.R (Kd.int .i64) 3 w' w.heap.size (fun k_ => some k_ ≠ (u215003 : Value).ownBlock ∧ some k_ ≠ (u215004 : Value).ownBlock ∧ some k_ ≠ (u215006 : Value).ownBlock) u215005 x215005_2) ∧ Aside0 (Kd.R (Kd.int .i64) 3 w' w.heap.size (fun k_ => some k_ ≠ (u215003 : Value).ownBlock ∧ some k_ ≠ (u215004 : Value).ownBlock ∧ some k_ ≠ (u215005 : Value).ownBlock) u215006 x215006_2) ∧ Aside0 (w'.heap[gb208]? = some (.cells #[.int .i64 0, .int .i64 0, (.slice none 0 0), (.slice none 0 0), (.slice none 0 0), (.slice none 0 0), (.slice none 0 0), (.slice none 0 0), (.slice none 0 0), .int .i64 0] 32 (0, 0))) ∧ Aside0 (w'.heap[gb214]? = some (.cells #[.int .i64 5, .int .i64 3, u215002, u215003, u215004, u215005, u215006, (.slice none 0 0), (.slice none 0 0), .int .i64 t212] 32 (0, 0))) ∧ Aside0 (IsS86 w0 w' g s0_0 x1001_2) ∧ Aside0 (KeepBut w w' g none) ∧ Aside0 (Below w0.heap.size w0 w'))
    case atStart => exact ⟨(wrap64 (1 + t241)), (t242), (([] : List Int)), (([] : List Int)), (.slice none 0 0), (.slice none 0 0), (by first | rfl | (simp; done) | (simp [*]; done)), H', ⟨Nat.le_refl _⟩, ⟨by (with_reducible repeat (first | apply Kd.S_alloc | apply Kd.S_drewN | apply Kd.S_drew)); exact HO_215002.out⟩, ⟨by (with_reducible repeat (first | apply Kd.R_alloc | apply Kd.R_drewN | apply Kd.R_drew)); exact Kd.R_mono HO_215003.out (fun _ hk => ⟨hk, ⟨(by simp [Value.ownBlock]), (by simp [Value.ownBlock])⟩⟩)⟩, ⟨by (with_reducible repeat (first | apply Kd.R_alloc | apply Kd.R_drewN | apply Kd.R_drew)); exact Kd.R_mono HO_215004.out (fun _ hk => ⟨hk, ⟨(by simp [Value.ownBlock]), (by simp [Value.ownBlock])⟩⟩)⟩, ⟨by first | exact Kd.R_nil _ _ _ _ _ | exact Kd.N_nil _ _ _ _ _ | exact Kd.V_nil _ _ _ _ _ | exact Kd.Q_nil _ _ _ _ _ | exact Kd.S_nil _ _ _ _ _⟩, ⟨by first | exact Kd.R_nil _ _ _ _ _ | exact Kd.N_nil _ _ _ _ _ | exact Kd.V_nil _ _ _ _ _ | exact Kd.Q_nil _ _ _ _ _ | exact Kd.S_nil _ _ _ _ _⟩, ⟨kN BK208.out⟩, ⟨kN BK214.out⟩, ⟨(hI2 HI0.out NB0_208.out NB0_214.out)⟩, ⟨(hK2 HK.out GW208.out GW214.out)⟩, ⟨(hB3 HB.out (IsS86.ge HI0.out) GE208.out GE214.out)⟩⟩
    case round =>
     clear H'
     try clear c1
     try clear c2
     try clear p2
     try clear q2
     try clear hx2
     try clear c4
     try clear p6
     try clear c14
     try clear c14b0
     try clear c16
     try clear c17
     try clear c18
     try clear c19
     try clear c22
     try clear p22
     try clear q22
     try clear hx22
     try clear c43
     try clear c46
     try clear hx227_0
     try clear p227
     try clear q227
     obtain ⟨x5_2, x1001_2, x215005_2, x215006_2, u215005, u215006, rfl, HA, HK2, HO_215002, HO_215003, HO_215004, HO_215005, HO_215006, BK208, BK214, HI0, HK, HB⟩ := hrel
     cases gk with
     | zero => exact absurd HA.out (by simp [spec_l15Conf.l1])
     | succ k2 =>
      have H := HA.out
      clear HA
      simp only [spec_l15Conf.l1] at H
      by_cases c50 : x5_2 > 0
      ·rw [if_pos c50] at H
       have c50b0 : decide (0 < x5_2) = true := decide_eq_true c50
       clear c50
       replace H := Option.bind_eq_some_iff.mp H
       obtain ⟨⟨t243, t244⟩, A510, H⟩ := H
       replace H : (if x215005_2.length < 17592186044416 then ((spec_l1Rd_pick.f k2 s0_0 t244 2).bind fun bt248 => (if x215006_2.length < 17592186044416 then (spec_l15Conf.l1 k2 (wrap64 (x5_2 - 1)) s0_0 bt248.2 5 3 x215002_1 x215003_1 x215004_1 (x215005_2 ++ [wrap64 (t243 - 1)]) (x215006_2 ++ [wrap64 (bt248.1 - 1)]) t212) else (none))) else (none)) = some (r1, r2, r3, r4, r5, r6, r7, r8, r9, r10, r11) := H
       have A51 := Aside0.mk A510
       clear A510
       by_cases c52 : x215005_2.length < 17592186044416
       ·rw [if_pos c52] at H
        have LMc52 := Aside0.mk c52
        clear c52
        obtain ⟨y245, hy245⟩ : ∃ y_ : List Int, y_ = (x215005_2 ++ [wrap64 (t243 - 1)]) := ⟨_, rfl⟩
        replace H : ((spec_l1Rd_pick.f k2 s0_0 t244 2).bind fun bt248 => (if x215006_2.length < 17592186044416 then (spec_l15Conf.l1 k2 (wrap64 (x5_2 - 1)) s0_0 bt248.2 5 3 x215002_1 x215003_1 x215004_1 y245 (x215006_2 ++ [wrap64 (bt248.1 - 1)]) t212) else (none))) = some (r1, r2, r3, r4, r5, r6, r7, r8, r9, r10, r11) := by first | (rw [hy245]; with_reducible exact H) | (have H2_ := (Option.bind_some _ _).symm.trans H; rw [hy245]; with_reducible exact H2_) | (have H2_ := (Option.bind_some _ _).symm.trans H; with_reducible exact H2_) | with_reducible exact H | (rw [hy245]; exact H) | exact H
        have Ny245 := Aside0.mk hy245
        clear hy245
        replace H := Option.bind_eq_some_iff.mp H
        obtain ⟨⟨t248, t249⟩, A530, H⟩ := H
        replace H : (if x215006_2.length < 17592186044416 then (spec_l15Conf.l1 k2 (wrap64 (x5_2 - 1)) s0_0 t249 5 3 x215002_1 x215003_1 x215004_1 y245 (x215006_2 ++ [wrap64 (t248 - 1)]) t212) else (none)) = some (r1, r2, r3, r4, r5, r6, r7, r8, r9, r10, r11) := H
        have A53 := Aside0.mk A530
        clear A530
        by_cases c54 : x215006_2.length < 17592186044416
        ·rw [if_pos c54] at H
         have LMc54 := Aside0.mk c54
         clear c54
         obtain ⟨y250, hy250⟩ : ∃ y_ : List Int, y_ = (x215006_2 ++ [wrap64 (t248 - 1)]) := ⟨_, rfl⟩
         replace H : (spec_l15Conf.l1 k2 (wrap64 (x5_2 - 1)) s0_0 t249 5 3 x215002_1 x215003_1 x215004_1 y245 y250 t212) = some (r1, r2, r3, r4, r5, r6, r7, r8, r9, r10, r11) := by first | (rw [hy250]; with_reducible exact H) | (have H2_ := (Option.bind_some _ _).symm.trans H; rw [hy250]; with_reducible exact H2_) | (have H2_ := (Option.bind_some _ _).symm.trans H; with_reducible exact H2_) | with_reducible exact H | (rw [hy250]; exact H) | exact H
         have Ny250 := Aside0.mk hy250
         clear hy250
         have H' := Aside0.mk H
         clear H
         try go_wp2
         have n0_ := m_ (Kd.S_drew HO_215002.out)
         have n1_ := m_ (Kd.R_drew HO_215003.out)
         have n2_ := m_ (Kd.R_drew HO_215004.out)
         have n3_ := m_ (Kd.R_drew HO_215005.out)
         have n4_ := m_ (Kd.R_drew HO_215006.out)
         have n5_ := m_ (blk_drew BK208.out)
         have n6_ := m_ (blk_drew BK214.out)
         have n7_ := m_ (IsS86.drew HI0.out)
         have n8_ := m_ (keep_drew HK.out)
         have n9_ := m_ (below_drew1 HB.out)
         clear HO_215002 HO_215003 HO_215004 HO_215005 HO_215006 BK208 BK214 HI0 HK HB
         have HO_215002 := n0_; have HO_215003 := n1_
         have HO_215004 := n2_; have HO_215005 := n3_
         have HO_215006 := n4_; have BK208 := n5_; have BK214 := n6_
         have HI0 := n7_; have HK := n8_; have HB := n9_
         clear n0_ n1_ n2_ n3_ n4_ n5_ n6_ n7_ n8_ n9_
         obtain ⟨Ao56, co56, eo56⟩ := Kd.S_slice HO_215002.out
         (first | subst eo56 | (injection eo56 with f1_ f2_ f3_; have f4_ := f1_.symm; have f5_ := f3_.symm; clear f1_ f2_ f3_; subst f4_; subst f5_))
         refine start_ (n := 13) (S := fun w' => w'.cell? ⟨gb214, 0, none⟩ = some (.int .i64 5) ∧ w'.cell? ⟨gb214, 1, none⟩ = some (.int .i64 3) ∧ w'.cell? ⟨gb214, 2, none⟩ = some (.slice Ao56 x215002_1.length co56) ∧ w'.cell? ⟨gb214, 3, none⟩ = some (u215003) ∧ w'.cell? ⟨gb214, 4, none⟩ = some (u215004) ∧ w'.cell? ⟨gb214, 5, none⟩ = some (u215005) ∧ w'.cell? ⟨gb214, 6, none⟩ = some (u215006) ∧ w'.cell? ⟨gb214, 7, none⟩ = some (.slice none 0 0) ∧ w'.cell? ⟨gb214, 8, none⟩ = some (.slice none 0 0) ∧ w'.cell? ⟨gb214, 9, none⟩ = some (.int .i64 t212)) (ds := [12]) #[false, false, false, false, false, false, false, false, false, false, false, false, false] (by kernel_rfl) rfl rfl ⟨bc BK214 0, bc BK214 1, bc BK214 2, bc BK214 3, bc BK214 4, bc BK214 5, bc BK214 6, bc BK214 7, bc BK214 8, bc BK214 9⟩ (fun hHeld => ?_); refine with_tabW spec_l15Conf.tab11 spec_l15Conf.bits11 (fun HT_ HW_ => ?_)
         generalize wr.drew = w55 at HO_215002 HO_215003 HO_215004 HO_215005 HO_215006 BK208 BK214 HI0 HK HB hHeld ⊢
         refine pu 0 55 HT_ (h := ?_)
         refine pu 2 57 HT_ (h := ?_)
         refine pu 3 58 HT_ (h := ?_)
         refine take_ (i := 1) (N := some 56) (v := ?_) (a' := ?_) #[true, true, true, true, false, false, false, false, false, false, false, false, false] rfl rfl (take_ofW HT_.out HW_.out (by kernel_rfl)) (fun _ _ _ h => h) (Or.inl ⟨by rfl, ?_⟩) hHeld ?_ ?_
         rotate_left
         ·rintro w' ⟨s0, s1, s2, s3, s4, s5, s6, s7, s8, s9⟩
          go_simp
          with_reducible rfl
         rotate_left
         ·simp only [Act.put, List.setIfInBounds_toArray, List.set_cons_zero, List.set_cons_succ, i64_w, i32_w]
          rfl
         refine take_ (i := 4) (N := some 59) (v := ?_) (a' := ?_) #[true, true, true, true, true, false, false, false, false, false, false, false, false] rfl rfl (take_ofW HT_.out HW_.out (by kernel_rfl)) (fun _ _ _ h => h) (Or.inl ⟨by rfl, ?_⟩) hHeld ?_ ?_
         rotate_left
         ·rintro w' ⟨s0, s1, s2, s3, s4, s5, s6, s7, s8, s9⟩
          go_simp
          with_reducible rfl
         rotate_left
         ·simp only [Act.put, List.setIfInBounds_toArray, List.set_cons_zero, List.set_cons_succ, i64_w, i32_w]
          rfl
         refine pu 5 60 HT_ (h := ?_)
         refine pu 6 61 HT_ (h := ?_)
         refine one_ (i := 7) (N := some 62) #[true, true, true, true, true, true, true, true, false, false, false, false, false] rfl rfl (one_of HT_.out (by kernel_rfl)) (by decide) (fun K hK => ?_)
         refine goes_ Tryd.func46 (by kernel_rfl) rfl #[.pointer (some ⟨g, 0, none⟩), .int .i64 (wrap64 ((x215002_1.length : Int) + 1))] (by rfl) rfl rfl gl_ ?_
         with_reducible refine (spec_l1Rd_pick.calls k2 g s0_0 x1001_2 (wrap64 ((x215002_1.length : Int) + 1)) t243 t244 w0 _ ?side1 ?side2 A51.out).mono ?_
         (case side1 => exact hI2 HI0.out NB0_208.out NB0_214.out)
         (case side2 => exact hB3 HB.out (IsS86.ge HI0.out) GE208.out GE214.out)
         rintro e w57 ⟨rfl, hi, hb, hk⟩
         refine ⟨_, rfl, ?_⟩
         have n0_ := m_ (Kd.S_mono (Kd.S_keep (IsS86.apartS (show IsS86 w0 _ g s0_0 x1001_2 from (hI2 HI0.out NB0_208.out NB0_214.out)) (by (with_reducible repeat (first | apply Kd.S_alloc | apply Kd.S_drewN | apply Kd.S_drew)); exact HO_215002.out) (by decide)) hk (fun _ h => h.2)) (fun _ h => h.1))
         have n1_ := m_ (rK (show IsS86 w0 _ g s0_0 x1001_2 from (hI2 HI0.out NB0_208.out NB0_214.out)) (rN HO_215003.out) hk)
         have n2_ := m_ (rK (show IsS86 w0 _ g s0_0 x1001_2 from (hI2 HI0.out NB0_208.out NB0_214.out)) (rN HO_215004.out) hk)
         have n3_ := m_ (rK (show IsS86 w0 _ g s0_0 x1001_2 from (hI2 HI0.out NB0_208.out NB0_214.out)) (rN HO_215005.out) hk)
         have n4_ := m_ (rK (show IsS86 w0 _ g s0_0 x1001_2 from (hI2 HI0.out NB0_208.out NB0_214.out)) (rN HO_215006.out) hk)
         have n5_ := m_ (KeepBut.blk hk (g' := gb208) (o := .cells #[.int .i64 0, .int .i64 0, .slice none 0 0, .slice none 0 0, .slice none 0 0, .slice none 0 0, .slice none 0 0, .slice none 0 0, .slice none 0 0, .int .i64 0] 32 (0, 0)) (kN BK208.out) NB208_0.out (by simp))
         have n6_ := m_ (KeepBut.blk hk (g' := gb214) (o := .cells #[.int .i64 5, .int .i64 3, .slice Ao56 x215002_1.length co56, u215003, u215004, u215005, u215006, .slice none 0 0, .slice none 0 0, .int .i64 t212] 32 (0, 0)) (kN BK214.out) NB214_0.out (by simp))
         have n7_ := m_ (KeepBut.trans (hK2 HK.out GW208.out GW214.out) hk (.inl rfl))
         have n8_ := m_ (hb)
         have n9_ := m_ (hi)
         clear HO_215002 HO_215003 HO_215004 HO_215005 HO_215006 BK208 BK214 HK HB HI0
         have HO_215002 := n0_; have HO_215003 := n1_
         have HO_215004 := n2_; have HO_215005 := n3_
         have HO_215006 := n4_; have BK208 := n5_; have BK214 := n6_
         have HK := n7_; have HB := n8_; have HI0 := n9_
         clear n0_ n1_ n2_ n3_ n4_ n5_ n6_ n7_ n8_ n9_
         (try clear hb)
         (try clear hb2)
         (try clear hk)
         (try clear hi)
         refine hK.out _ _ ⟨bc BK214 0, bc BK214 1, bc BK214 2, bc BK214 3, bc BK214 4, bc BK214 5, bc BK214 6, bc BK214 7, bc BK214 8, bc BK214 9⟩ (fun hHeld => ?_)
         clear hK K
         refine np (h := ?_)
         refine pu 8 63 HT_ (h := ?_)
         refine one_ (i := 9) (N := some 64) #[true, true, true, true, true, true, true, true, true, true, false, false, false] rfl rfl (one_of HT_.out (by kernel_rfl)) (by decide) (fun K hK => ?_)
         refine value_ (w1 := ?_) (v := ?_) (by rfl) rfl ?_ ?_
         rotate_left 2
         ·go_simp
          constructor
          ·rfl
          ·rfl
         refine hK.out _ _ ⟨(blk_cell (blk_alloc BK214.out _) 0).trans rfl, (blk_cell (blk_alloc BK214.out _) 1).trans rfl, (blk_cell (blk_alloc BK214.out _) 2).trans rfl, (blk_cell (blk_alloc BK214.out _) 3).trans rfl, (blk_cell (blk_alloc BK214.out _) 4).trans rfl, (blk_cell (blk_alloc BK214.out _) 5).trans rfl, (blk_cell (blk_alloc BK214.out _) 6).trans rfl, (blk_cell (blk_alloc BK214.out _) 7).trans rfl, (blk_cell (blk_alloc BK214.out _) 8).trans rfl, (blk_cell (blk_alloc BK214.out _) 9).trans rfl⟩ (fun hHeld => ?_)
         clear hK K
         refine np (h := ?_)
         refine one_ (i := 10) (N := some 65) #[true, true, true, true, true, true, true, true, true, true, true, false, false] rfl rfl (one_of HT_.out (by kernel_rfl)) (by decide) (fun K hK => ?_)
         refine Kd.R_append_step (Kd.int .i64) w.heap.size (by rfl) (.tmp 56) (.tmp 64) 23 3 (.int .i64 0) 8 rfl Tryd.underlying23 info3 rfl (by decide) (by omega) u215005 x215005_2 (wrap64 (t243 - 1)) [.int .i64 (wrap64 (t243 - 1))] (fun k_ => some k_ ≠ (u215003 : Value).ownBlock ∧ some k_ ≠ (u215004 : Value).ownBlock ∧ some k_ ≠ (u215006 : Value).ownBlock) (fun _ => False) rfl rfl ?aP (fun _ hk => hk.elim) ?aF ?aO (Below.refl _ _) ?aS ?aL ?_
         (case aP => exact rfl)
         (case aF => exact (fun k_ hk => ⟨Kd.fresh' (Kd.R_lt (rN HO_215003.out)) k_ hk, Kd.fresh' (Kd.R_lt (rN HO_215004.out)) k_ hk, Kd.fresh' (Kd.R_lt (rN HO_215006.out)) k_ hk⟩))
         (case aO => exact (rN HO_215005.out))
         (case aS => exact (keep_size (w := w) (g := g) (row := none) (hK2 HK.out GW208.out GW214.out)))
         (case aL => have := LMc52.out; omega)
         intro v246 w58 ho hb hg hat
         rw [← Ny245.out] at ho
         have n0_ := m_ (Kd.S_over' (by (with_reducible repeat (first | apply Kd.S_alloc | apply Kd.S_drewN | apply Kd.S_drew)); exact HO_215002.out) (Kd.R_typed (rN HO_215005.out)) (by decide) hg)
         have n1_ := m_ (Kd.R_after (ok := (fun k_ => some k_ ≠ (u215004 : Value).ownBlock ∧ some k_ ≠ (u215006 : Value).ownBlock)) (by (with_reducible repeat (first | apply Kd.R_alloc | apply Kd.R_drewN | apply Kd.R_drew)); exact Kd.R_mono HO_215003.out (fun _ hk => ⟨⟨hk.1, hk.2.2⟩, hk.2.1⟩)) hg hat)
         have n2_ := m_ (Kd.R_after (ok := (fun k_ => some k_ ≠ (u215003 : Value).ownBlock ∧ some k_ ≠ (u215006 : Value).ownBlock)) (by (with_reducible repeat (first | apply Kd.R_alloc | apply Kd.R_drewN | apply Kd.R_drew)); exact Kd.R_mono HO_215004.out (fun _ hk => ⟨⟨hk.1, hk.2.2⟩, hk.2.1⟩)) hg hat)
         have n3_ := m_ (Kd.R_after (ok := (fun k_ => some k_ ≠ (u215003 : Value).ownBlock ∧ some k_ ≠ (u215004 : Value).ownBlock)) (by (with_reducible repeat (first | apply Kd.R_alloc | apply Kd.R_drewN | apply Kd.R_drew)); exact Kd.R_mono HO_215006.out (fun _ hk => ⟨⟨hk.1, hk.2.1⟩, hk.2.2⟩)) hg hat)
         have n4_ := m_ (blk_grown (g := gb208) (o := .cells #[.int .i64 0, .int .i64 0, .slice none 0 0, .slice none 0 0, .slice none 0 0, .slice none 0 0, .slice none 0 0, .slice none 0 0, .slice none 0 0, .int .i64 0] 32 (0, 0)) (kN BK208.out) hg (Kd.R_ne HO_215005.out BK208.out (by decide)))
         have n5_ := m_ (blk_grown (g := gb214) (o := .cells #[.int .i64 5, .int .i64 3, .slice Ao56 x215002_1.length co56, u215003, u215004, u215005, u215006, .slice none 0 0, .slice none 0 0, .int .i64 t212] 32 (0, 0)) (kN BK214.out) hg (Kd.R_ne HO_215005.out BK214.out (by decide)))
         have n6_ := m_ (IsS86.grown ((hI2 HI0.out NB0_208.out NB0_214.out)) hg (IsS86.own_ne HI0.out HO_215005.out (by decide)))
         have n7_ := m_ (below_weaken ((hB3 HB.out (IsS86.ge HI0.out) GE208.out GE214.out)) HL.out hb)
         have n8_ := m_ (KeepBut.trans (hK2 HK.out GW208.out GW214.out) (KeepBut.of_grown hg g) (Kd.R_base2 HO_215005.out))
         have n9_ := m_ (ho)
         clear HO_215002 HO_215003 HO_215004 HO_215006 BK208 BK214 HI0 HB HK HO_215005
         have HO_215002 := n0_; have HO_215003 := n1_
         have HO_215004 := n2_; have HO_215006 := n3_; have BK208 := n4_; have BK214 := n5_
         have HI0 := n6_; have HB := n7_
         have HK := n8_; have HO247 := n9_
         clear n0_ n1_ n2_ n3_ n4_ n5_ n6_ n7_ n8_ n9_ ho hb hg hat
         obtain ⟨Ao59, co59, eo59⟩ := Kd.R_slice HO247.out
         (first | subst eo59 | (injection eo59 with f1_ f2_ f3_; have f4_ := f1_.symm; have f5_ := f3_.symm; clear f1_ f2_ f3_; subst f4_; subst f5_))
         refine hK.out _ _ ⟨bc BK214 0, bc BK214 1, bc BK214 2, bc BK214 3, bc BK214 4, bc BK214 5, bc BK214 6, bc BK214 7, bc BK214 8, bc BK214 9⟩ (fun hHeld => ?_)
         clear hK K
         refine np (h := ?_)
         refine pu 11 66 HT_ (h := ?_)
         refine last_ (i := 12) (N := none) #[true, true, true, true, true, true, true, true, true, true, true, true, true] rfl rfl (one_of HT_.out (by kernel_rfl)) (by decide) (fun K hK => ?_)
         have hs60 : w58.cell? ⟨gb214, 5, none⟩ = some (u215005) := bc BK214 5
         have hfs60 := blk_frozen BK214.out 5
         have hns60_0 := NB208_214.out
         have hms60_0 := NB214_208.out
         refine skip_ (w1 := ?_) (by rfl) rfl ?_ ?_
         rotate_left
         ·go_simp
          rfl
         refine hK.out _ _ ?_
         clear hK K
         refine done_ (done_of HT_.out (by kernel_rfl)) ?_
         try go_wp2
         have n0_ : Aside0 (Kd.S (Kd.slice 107 k107) 75 (w58.setCell ⟨gb214, 5, none⟩ (.slice Ao59 y245.length co59)) w.heap.size (fun _ => True) (.slice Ao56 x215002_1.length co56) x215002_1) := ⟨by (with_reducible repeat (first | apply Kd.S_alloc | apply Kd.S_drewN | apply Kd.S_drew)); exact Kd.S_mono (Kd.S_far (p := ⟨gb214, 5, none⟩) (Kd.S_types HO_215002.out BK214.out (by decide)) (fun _ hk => hk.2) (.slice Ao59 y245.length co59)) (fun _ hk => trivial)⟩
         have n1_ : Aside0 (Kd.R (Kd.int .i64) 3 (w58.setCell ⟨gb214, 5, none⟩ (.slice Ao59 y245.length co59)) w.heap.size (fun k_ => some k_ ≠ (u215004 : Value).ownBlock ∧ some k_ ≠ (u215006 : Value).ownBlock ∧ nb Ao59 y245.length co59 k_) u215003 x215003_1) := ⟨frM (Kd.R_types HO_215003.out BK214.out (by decide))⟩
         have n2_ : Aside0 (Kd.R (Kd.int .i64) 3 (w58.setCell ⟨gb214, 5, none⟩ (.slice Ao59 y245.length co59)) w.heap.size (fun k_ => some k_ ≠ (u215003 : Value).ownBlock ∧ some k_ ≠ (u215006 : Value).ownBlock ∧ nb Ao59 y245.length co59 k_) u215004 x215004_1) := ⟨frM (Kd.R_types HO_215004.out BK214.out (by decide))⟩
         have n3_ : Aside0 (Kd.R (Kd.int .i64) 3 (w58.setCell ⟨gb214, 5, none⟩ (.slice Ao59 y245.length co59)) w.heap.size (fun k_ => some k_ ≠ (u215003 : Value).ownBlock ∧ some k_ ≠ (u215004 : Value).ownBlock ∧ nb Ao59 y245.length co59 k_) u215006 x215006_2) := ⟨frM (Kd.R_types HO_215006.out BK214.out (by decide))⟩
         have n4_ : Aside0 (Kd.R (Kd.int .i64) 3 (w58.setCell ⟨gb214, 5, none⟩ (.slice Ao59 y245.length co59)) w.heap.size (fun k_ => some k_ ≠ (u215003 : Value).ownBlock ∧ some k_ ≠ (u215004 : Value).ownBlock ∧ some k_ ≠ (u215006 : Value).ownBlock) (.slice Ao59 y245.length co59) y245) := ⟨frM (Kd.R_types HO247.out BK214.out (by decide))⟩
         have n5_ : Aside0 ((w58.setCell ⟨gb214, 5, none⟩ (.slice Ao59 y245.length co59)).heap[gb208]? = some (.cells #[.int .i64 0, .int .i64 0, .slice none 0 0, .slice none 0 0, .slice none 0 0, .slice none 0 0, .slice none 0 0, .slice none 0 0, .slice none 0 0, .int .i64 0] 32 (0, 0))) := ⟨kF BK208.out NB208_214.out⟩
         have n6_ : Aside0 ((w58.setCell ⟨gb214, 5, none⟩ (.slice Ao59 y245.length co59)).heap[gb214]? = some (.cells #[.int .i64 5, .int .i64 3, .slice Ao56 x215002_1.length co56, u215003, u215004, .slice Ao59 y245.length co59, u215006, .slice none 0 0, .slice none 0 0, .int .i64 t212] 32 (0, 0))) := ⟨kP BK214.out⟩
         have n7_ : Aside0 (IsS86 w0 (w58.setCell ⟨gb214, 5, none⟩ (.slice Ao59 y245.length co59)) g s0_0 t244) := ⟨(hI2 HI0.out NB0_208.out NB0_214.out)⟩
         have n8_ : Aside0 (KeepBut w (w58.setCell ⟨gb214, 5, none⟩ (.slice Ao59 y245.length co59)) g none) := ⟨(hK2 HK.out GW208.out GW214.out)⟩
         have n9_ : Aside0 (Below w0.heap.size w0 (w58.setCell ⟨gb214, 5, none⟩ (.slice Ao59 y245.length co59))) := ⟨(hB3 HB.out (IsS86.ge HI0.out) GE208.out GE214.out)⟩
         (try clear HO_215002)
         (try clear HO_215003)
         (try clear HO_215004)
         (try clear HO_215006)
         (try clear HO247)
         (try clear BK208)
         (try clear BK214)
         (try clear HI0)
         (try clear HK)
         (try clear HB)
         generalize (w58.setCell ⟨gb214, 5, none⟩ (.slice Ao59 y245.length co59)) = w61 at n0_ n1_ n2_ n3_ n4_ n5_ n6_ n7_ n8_ n9_ ⊢
         have HO_215002 := n0_; have HO_215003 := n1_
         have HO_215004 := n2_; have HO_215006 := n3_
         have HO247 := n4_; have BK208 := n5_; have BK214 := n6_
         have HI0 := n7_; have HK := n8_; have HB := n9_
         clear n0_ n1_ n2_ n3_ n4_ n5_ n6_ n7_ n8_ n9_
         have n0_ := m_ (Kd.S_drew HO_215002.out)
         have n1_ := m_ (Kd.R_drew HO_215003.out)
         have n2_ := m_ (Kd.R_drew HO_215004.out)
         have n3_ := m_ (Kd.R_drew HO_215006.out)
         have n4_ := m_ (Kd.R_drew HO247.out)
         have n5_ := m_ (blk_drew BK208.out)
         have n6_ := m_ (blk_drew BK214.out)
         have n7_ := m_ (IsS86.drew HI0.out)
         have n8_ := m_ (keep_drew HK.out)
         have n9_ := m_ (below_drew1 HB.out)
         clear HO_215002 HO_215003 HO_215004 HO_215006 HO247 BK208 BK214 HI0 HK HB
         have HO_215002 := n0_; have HO_215003 := n1_
         have HO_215004 := n2_; have HO_215006 := n3_
         have HO247 := n4_; have BK208 := n5_; have BK214 := n6_
         have HI0 := n7_; have HK := n8_; have HB := n9_
         clear n0_ n1_ n2_ n3_ n4_ n5_ n6_ n7_ n8_ n9_
         refine start_ (n := 9) (S := fun w' => w'.cell? ⟨gb214, 0, none⟩ = some (.int .i64 5) ∧ w'.cell? ⟨gb214, 1, none⟩ = some (.int .i64 3) ∧ w'.cell? ⟨gb214, 2, none⟩ = some (.slice Ao56 x215002_1.length co56) ∧ w'.cell? ⟨gb214, 3, none⟩ = some (u215003) ∧ w'.cell? ⟨gb214, 4, none⟩ = some (u215004) ∧ w'.cell? ⟨gb214, 5, none⟩ = some (.slice Ao59 y245.length co59) ∧ w'.cell? ⟨gb214, 6, none⟩ = some (u215006) ∧ w'.cell? ⟨gb214, 7, none⟩ = some (.slice none 0 0) ∧ w'.cell? ⟨gb214, 8, none⟩ = some (.slice none 0 0) ∧ w'.cell? ⟨gb214, 9, none⟩ = some (.int .i64 t212)) (ds := [8]) #[false, false, false, false, false, false, false, false, false] (by kernel_rfl) rfl rfl ⟨bc BK214 0, bc BK214 1, bc BK214 2, bc BK214 3, bc BK214 4, bc BK214 5, bc BK214 6, bc BK214 7, bc BK214 8, bc BK214 9⟩ (fun hHeld => ?_); refine with_tabW spec_l15Conf.tab12 spec_l15Conf.bits12 (fun HT_ HW_ => ?_)
         generalize w61.drew = w62 at HO_215002 HO_215003 HO_215004 HO_215006 HO247 BK208 BK214 HI0 HK HB hHeld ⊢
         refine pu 0 67 HT_ (h := ?_)
         refine pu 2 69 HT_ (h := ?_)
         refine take_ (i := 1) (N := some 68) (v := ?_) (a' := ?_) #[true, true, true, false, false, false, false, false, false] rfl rfl (take_ofW HT_.out HW_.out (by kernel_rfl)) (fun _ _ _ h => h) (Or.inl ⟨by rfl, ?_⟩) hHeld ?_ ?_
         rotate_left
         ·rintro w' ⟨s0, s1, s2, s3, s4, s5, s6, s7, s8, s9⟩
          go_simp
          with_reducible rfl
         rotate_left
         ·simp only [Act.put, List.setIfInBounds_toArray, List.set_cons_zero, List.set_cons_succ, i64_w, i32_w]
          rfl
         refine one_ (i := 3) (N := some 70) #[true, true, true, true, false, false, false, false, false] rfl rfl (one_of HT_.out (by kernel_rfl)) (by decide) (fun K hK => ?_)
         refine goes_ Tryd.func46 (by kernel_rfl) rfl #[.pointer (some ⟨g, 0, none⟩), .int .i64 2] (by rfl) rfl rfl gl_ ?_
         with_reducible refine (spec_l1Rd_pick.calls k2 g s0_0 t244 2 t248 t249 w0 _ ?side1 ?side2 A53.out).mono ?_
         (case side1 => exact hI2 HI0.out NB0_208.out NB0_214.out)
         (case side2 => exact hB3 HB.out (IsS86.ge HI0.out) GE208.out GE214.out)
         rintro e w63 ⟨rfl, hi, hb, hk⟩
         refine ⟨_, rfl, ?_⟩
         have n0_ := m_ (Kd.S_mono (Kd.S_keep (IsS86.apartS (show IsS86 w0 _ g s0_0 t244 from (hI2 HI0.out NB0_208.out NB0_214.out)) (by (with_reducible repeat (first | apply Kd.S_alloc | apply Kd.S_drewN | apply Kd.S_drew)); exact HO_215002.out) (by decide)) hk (fun _ h => h.2)) (fun _ h => h.1))
         have n1_ := m_ (rK (show IsS86 w0 _ g s0_0 t244 from (hI2 HI0.out NB0_208.out NB0_214.out)) (rN HO_215003.out) hk)
         have n2_ := m_ (rK (show IsS86 w0 _ g s0_0 t244 from (hI2 HI0.out NB0_208.out NB0_214.out)) (rN HO_215004.out) hk)
         have n3_ := m_ (rK (show IsS86 w0 _ g s0_0 t244 from (hI2 HI0.out NB0_208.out NB0_214.out)) (rN HO_215006.out) hk)
         have n4_ := m_ (KeepBut.blk hk (g' := gb208) (o := .cells #[.int .i64 0, .int .i64 0, .slice none 0 0, .slice none 0 0, .slice none 0 0, .slice none 0 0, .slice none 0 0, .slice none 0 0, .slice none 0 0, .int .i64 0] 32 (0, 0)) (kN BK208.out) NB208_0.out (by simp))
         have n5_ := m_ (KeepBut.blk hk (g' := gb214) (o := .cells #[.int .i64 5, .int .i64 3, .slice Ao56 x215002_1.length co56, u215003, u215004, .slice Ao59 y245.length co59, u215006, .slice none 0 0, .slice none 0 0, .int .i64 t212] 32 (0, 0)) (kN BK214.out) NB214_0.out (by simp))
         have n6_ := m_ (rK (show IsS86 w0 _ g s0_0 t244 from (hI2 HI0.out NB0_208.out NB0_214.out)) (rN HO247.out) hk)
         have n7_ := m_ (KeepBut.trans (hK2 HK.out GW208.out GW214.out) hk (.inl rfl))
         have n8_ := m_ (hb)
         have n9_ := m_ (hi)
         clear HO_215002 HO_215003 HO_215004 HO_215006 BK208 BK214 HO247 HK HB HI0
         have HO_215002 := n0_; have HO_215003 := n1_
         have HO_215004 := n2_; have HO_215006 := n3_; have BK208 := n4_; have BK214 := n5_
         have HO247 := n6_; have HK := n7_
         have HB := n8_; have HI0 := n9_
         clear n0_ n1_ n2_ n3_ n4_ n5_ n6_ n7_ n8_ n9_
         (try clear hb)
         (try clear hb2)
         (try clear hk)
         (try clear hi)
         refine hK.out _ _ ⟨bc BK214 0, bc BK214 1, bc BK214 2, bc BK214 3, bc BK214 4, bc BK214 5, bc BK214 6, bc BK214 7, bc BK214 8, bc BK214 9⟩ (fun hHeld => ?_)
         clear hK K
         refine np (h := ?_)
         refine pu 4 71 HT_ (h := ?_)
         refine one_ (i := 5) (N := some 72) #[true, true, true, true, true, true, false, false, false] rfl rfl (one_of HT_.out (by kernel_rfl)) (by decide) (fun K hK => ?_)
         refine value_ (w1 := ?_) (v := ?_) (by rfl) rfl ?_ ?_
         rotate_left 2
         ·go_simp
          constructor
          ·rfl
          ·rfl
         refine hK.out _ _ ⟨(blk_cell (blk_alloc BK214.out _) 0).trans rfl, (blk_cell (blk_alloc BK214.out _) 1).trans rfl, (blk_cell (blk_alloc BK214.out _) 2).trans rfl, (blk_cell (blk_alloc BK214.out _) 3).trans rfl, (blk_cell (blk_alloc BK214.out _) 4).trans rfl, (blk_cell (blk_alloc BK214.out _) 5).trans rfl, (blk_cell (blk_alloc BK214.out _) 6).trans rfl, (blk_cell (blk_alloc BK214.out _) 7).trans rfl, (blk_cell (blk_alloc BK214.out _) 8).trans rfl, (blk_cell (blk_alloc BK214.out _) 9).trans rfl⟩ (fun hHeld => ?_)
         clear hK K
         refine np (h := ?_)
         refine one_ (i := 6) (N := some 73) #[true, true, true, true, true, true, true, false, false] rfl rfl (one_of HT_.out (by kernel_rfl)) (by decide) (fun K hK => ?_)
         refine Kd.R_append_step (Kd.int .i64) w.heap.size (by rfl) (.tmp 68) (.tmp 72) 23 3 (.int .i64 0) 8 rfl Tryd.underlying23 info3 rfl (by decide) (by omega) u215006 x215006_2 (wrap64 (t248 - 1)) [.int .i64 (wrap64 (t248 - 1))] (fun k_ => some k_ ≠ (u215003 : Value).ownBlock ∧ some k_ ≠ (u215004 : Value).ownBlock ∧ nb Ao59 y245.length co59 k_) (fun _ => False) rfl rfl ?aP (fun _ hk => hk.elim) ?aF ?aO (Below.refl _ _) ?aS ?aL ?_
         (case aP => exact rfl)
         (case aF => exact (fun k_ hk => ⟨Kd.fresh' (Kd.R_lt (rN HO_215003.out)) k_ hk, Kd.fresh' (Kd.R_lt (rN HO_215004.out)) k_ hk, Kd.fresh' (Kd.R_lt (rN HO247.out)) k_ hk⟩))
         (case aO => exact (rN HO_215006.out))
         (case aS => exact (keep_size (w := w) (g := g) (row := none) (hK2 HK.out GW208.out GW214.out)))
         (case aL => have := LMc54.out; omega)
         intro v251 w64 ho hb hg hat
         rw [← Ny250.out] at ho
         have n0_ := m_ (Kd.S_over' (by (with_reducible repeat (first | apply Kd.S_alloc | apply Kd.S_drewN | apply Kd.S_drew)); exact HO_215002.out) (Kd.R_typed (rN HO_215006.out)) (by decide) hg)
         have n1_ := m_ (Kd.R_after (ok := (fun k_ => some k_ ≠ (u215004 : Value).ownBlock ∧ nb Ao59 y245.length co59 k_)) (by (with_reducible repeat (first | apply Kd.R_alloc | apply Kd.R_drewN | apply Kd.R_drew)); exact Kd.R_mono HO_215003.out (fun _ hk => ⟨⟨hk.1, hk.2.2⟩, hk.2.1⟩)) hg hat)
         have n2_ := m_ (Kd.R_after (ok := (fun k_ => some k_ ≠ (u215003 : Value).ownBlock ∧ nb Ao59 y245.length co59 k_)) (by (with_reducible repeat (first | apply Kd.R_alloc | apply Kd.R_drewN | apply Kd.R_drew)); exact Kd.R_mono HO_215004.out (fun _ hk => ⟨⟨hk.1, hk.2.2⟩, hk.2.1⟩)) hg hat)
         have n3_ := m_ (blk_grown (g := gb208) (o := .cells #[.int .i64 0, .int .i64 0, .slice none 0 0, .slice none 0 0, .slice none 0 0, .slice none 0 0, .slice none 0 0, .slice none 0 0, .slice none 0 0, .int .i64 0] 32 (0, 0)) (kN BK208.out) hg (Kd.R_ne HO_215006.out BK208.out (by decide)))
         have n4_ := m_ (blk_grown (g := gb214) (o := .cells #[.int .i64 5, .int .i64 3, .slice Ao56 x215002_1.length co56, u215003, u215004, .slice Ao59 y245.length co59, u215006, .slice none 0 0, .slice none 0 0, .int .i64 t212] 32 (0, 0)) (kN BK214.out) hg (Kd.R_ne HO_215006.out BK214.out (by decide)))
         have n5_ := m_ (IsS86.grown ((hI2 HI0.out NB0_208.out NB0_214.out)) hg (IsS86.own_ne HI0.out HO_215006.out (by decide)))
         have n6_ := m_ (Kd.R_after (ok := (fun k_ => some k_ ≠ (u215003 : Value).ownBlock ∧ some k_ ≠ (u215004 : Value).ownBlock)) (by (with_reducible repeat (first | apply Kd.R_alloc | apply Kd.R_drewN | apply Kd.R_drew)); exact Kd.R_mono HO247.out (fun _ hk => ⟨⟨hk.1, hk.2.1⟩, hk.2.2⟩)) hg hat)
         have n7_ := m_ (below_weaken ((hB3 HB.out (IsS86.ge HI0.out) GE208.out GE214.out)) HL.out hb)
         have n8_ := m_ (KeepBut.trans (hK2 HK.out GW208.out GW214.out) (KeepBut.of_grown hg g) (Kd.R_base2 HO_215006.out))
         have n9_ := m_ (ho)
         clear HO_215002 HO_215003 HO_215004 BK208 BK214 HI0 HO247 HB HK HO_215006
         have HO_215002 := n0_; have HO_215003 := n1_
         have HO_215004 := n2_; have BK208 := n3_; have BK214 := n4_
         have HI0 := n5_; have HO247 := n6_
         have HB := n7_; have HK := n8_; have HO252 := n9_
         clear n0_ n1_ n2_ n3_ n4_ n5_ n6_ n7_ n8_ n9_ ho hb hg hat
         obtain ⟨Ao65, co65, eo65⟩ := Kd.R_slice HO252.out
         (first | subst eo65 | (injection eo65 with f1_ f2_ f3_; have f4_ := f1_.symm; have f5_ := f3_.symm; clear f1_ f2_ f3_; subst f4_; subst f5_))
         refine hK.out _ _ ⟨bc BK214 0, bc BK214 1, bc BK214 2, bc BK214 3, bc BK214 4, bc BK214 5, bc BK214 6, bc BK214 7, bc BK214 8, bc BK214 9⟩ (fun hHeld => ?_)
         clear hK K
         refine np (h := ?_)
         refine pu 7 74 HT_ (h := ?_)
         refine last_ (i := 8) (N := none) #[true, true, true, true, true, true, true, true, true] rfl rfl (one_of HT_.out (by kernel_rfl)) (by decide) (fun K hK => ?_)
         have hs66 : w64.cell? ⟨gb214, 6, none⟩ = some (u215006) := bc BK214 6
         have hfs66 := blk_frozen BK214.out 6
         have hns66_0 := NB208_214.out
         have hms66_0 := NB214_208.out
         refine skip_ (w1 := ?_) (by rfl) rfl ?_ ?_
         rotate_left
         ·go_simp
          rfl
         refine hK.out _ _ ?_
         clear hK K
         refine done_ (done_of HT_.out (by kernel_rfl)) ?_
         try go_wp2
         go_roundg k2
         case measure => have := HK1.out; have := HK2.out; omega
         case rel => exact ⟨(wrap64 (x5_2 - 1)), (t249), (y245), (y250), (.slice Ao59 y245.length co59), (.slice Ao65 y250.length co65), (by first | rfl | (simp; done) | (simp [*]; done)), H', ⟨by have := HK1.out; have := HK2.out; omega⟩, ⟨by (with_reducible repeat (first | apply Kd.S_alloc | apply Kd.S_drewN | apply Kd.S_drew)); exact Kd.S_mono (Kd.S_far (p := ⟨gb214, 6, none⟩) (Kd.S_types HO_215002.out BK214.out (by decide)) (fun _ hk => hk.2) (.slice Ao65 y250.length co65)) (fun _ hk => trivial)⟩, ⟨frM (Kd.R_types HO_215003.out BK214.out (by decide))⟩, ⟨frM (Kd.R_types HO_215004.out BK214.out (by decide))⟩, ⟨frM (Kd.R_types HO247.out BK214.out (by decide))⟩, ⟨frM (Kd.R_types HO252.out BK214.out (by decide))⟩, ⟨kF BK208.out NB208_214.out⟩, ⟨kP BK214.out⟩, ⟨(hI2 HI0.out NB0_208.out NB0_214.out)⟩, ⟨(hK2 HK.out GW208.out GW214.out)⟩, ⟨(hB3 HB.out (IsS86.ge HI0.out) GE208.out GE214.out)⟩⟩
        ·rw [if_neg c54] at H
         exact absurd H (by simp)
       ·rw [if_neg c52] at H
        exact absurd H (by simp)
      ·rw [if_neg c50] at H
       have c50b0 : decide (0 < x5_2) = false := decide_eq_false c50
       clear c50
       replace H := Option.bind_eq_some_iff.mp H
       obtain ⟨⟨t253, t254⟩, A670, H⟩ := H
       replace H : (spec_l15Conf.l2 k2 (wrap64 (1 + t253)) s0_0 t254 5 3 x215002_1 x215003_1 x215004_1 x215005_2 x215006_2 ([] : List Int) t212) = some (r1, r2, r3, r4, r5, r6, r7, r8, r9, r10, r11) := H
       have A67 := Aside0.mk A670
       clear A670
       have H' := Aside0.mk H
       clear H
       go_wp2_with (first | ((with_reducible refine gate_callee (f := 46) rfl ?_); refine goesL_ (some 76) rfl rfl Tryd.func46 (by kernel_rfl) rfl #[.pointer (some ⟨g, 0, none⟩), .int .i64 4] rfl gl_ ?_; (with_reducible refine (spec_l1Rd_pick.calls k2 g s0_0 x1001_2 4 t253 t254 w0 _ ?side1 ?side2 A67.out).mono ?_); (case side1 => exact hI2 HI0.out NB0_208.out NB0_214.out); (case side2 => exact hB3 HB.out (IsS86.ge HI0.out) GE208.out GE214.out); rintro e w68 ⟨rfl, hi, hb, hk⟩; refine ⟨_, rfl, ?_⟩; have n0_ := m_ (Kd.S_mono (Kd.S_keep (IsS86.apartS (show IsS86 w0 _ g s0_0 x1001_2 from (hI2 HI0.out NB0_208.out NB0_214.out)) (by (with_reducible repeat (first | apply Kd.S_alloc | apply Kd.S_drewN | apply Kd.S_drew)); exact HO_215002.out) (by decide)) hk (fun _ h => h.2)) (fun _ h => h.1)); have n1_ := m_ (rK (show IsS86 w0 _ g s0_0 x1001_2 from (hI2 HI0.out NB0_208.out NB0_214.out)) (rN HO_215003.out) hk); have n2_ := m_ (rK (show IsS86 w0 _ g s0_0 x1001_2 from (hI2 HI0.out NB0_208.out NB0_214.out)) (rN HO_215004.out) hk); have n3_ := m_ (rK (show IsS86 w0 _ g s0_0 x1001_2 from (hI2 HI0.out NB0_208.out NB0_214.out)) (rN HO_215005.out) hk); have n4_ := m_ (rK (show IsS86 w0 _ g s0_0 x1001_2 from (hI2 HI0.out NB0_208.out NB0_214.out)) (rN HO_215006.out) hk); have n5_ := m_ (KeepBut.blk hk (g' := gb208) (o := .cells #[.int .i64 0, .int .i64 0, .slice none 0 0, .slice none 0 0, .slice none 0 0, .slice none 0 0, .slice none 0 0, .slice none 0 0, .slice none 0 0, .int .i64 0] 32 (0, 0)) (kN BK208.out) NB208_0.out (by simp)); have n6_ := m_ (KeepBut.blk hk (g' := gb214) (o := .cells #[.int .i64 5, .int .i64 3, u215002, u215003, u215004, u215005, u215006, .slice none 0 0, .slice none 0 0, .int .i64 t212] 32 (0, 0)) (kN BK214.out) NB214_0.out (by simp)); have n7_ := m_ (KeepBut.trans (hK2 HK.out GW208.out GW214.out) hk (.inl rfl)); have n8_ := m_ (hb); have n9_ := m_ (hi); clear HO_215002 HO_215003 HO_215004 HO_215005 HO_215006 BK208 BK214 HK HB HI0; have HO_215002 := n0_; have HO_215003 := n1_; have HO_215004 := n2_; have HO_215005 := n3_; have HO_215006 := n4_; have BK208 := n5_; have BK214 := n6_; have HK := n7_; have HB := n8_; have HI0 := n9_; clear n0_ n1_ n2_ n3_ n4_ n5_ n6_ n7_ n8_ n9_; (try clear hb); (try clear hb2); (try clear hk); (try clear hi)))
       go_loopg [6] k2 (fun kq v6 w' => ∃ (x6_3 : Int) (x1001_3 : Int) (x215007_3 : List Int) (u215007 : Value), v6 = .int .i64 x6_3 ∧ Aside0 (spec_l15Conf.l2 kq x6_3 s0_0 x1001_3 5 3 x215002_1 x215003_1 x215004_1 x215005_2 x215006_2 x215007_3 t212 = some (r1, r2, r3, r4, r5, r6, r7, r8, r9, r10, r11)) ∧ Aside0 (kq ≤ k2) ∧ Aside0 (Kd.S (Kd.slice 107 k107) 75 w' w.heap.size (fun _ => True) u215002 x215002_1) ∧ Aside0 (Kd.R (Kd.int .i64) 3 w' w.heap.size (fun k_ => some k_ ≠ (u215004 : Value).ownBlock ∧ some k_ ≠ (u215005 : Value).ownBlock ∧ some k_ ≠ (u215006 : Value).ownBlock ∧ some k_ ≠ (u215007 : Value).ownBlock) u215003 x215003_1) ∧ Aside0 (Kd.R (Kd.int .i64) 3 w' w.heap.size (fun k_ => some k_ ≠ (u215003 : Value).ownBlock ∧ some k_ ≠ (u215005 : Value).ownBlock ∧ some k_ ≠ (u215006 : Value).ownBlock ∧ some k_ ≠ (u215007 : Value).ownBlock) u215004 x215004_1) ∧ Aside0 (Kd.R (Kd.int .i64) 3 w' w.heap.size (fun k_ => some k_ ≠ (u215003 : Value).ownBlock ∧ some k_ ≠ (u215004 : Value).ownBlock ∧ some k_ ≠ (u215006 : Value).ownBlock ∧ some k_ ≠ (u215007 : Value).ownBlock) u215005 x215005_2) ∧ Aside0 (Kd.R (Kd.int .i64) 3 w' w.heap.size (fun k_ => some k_ ≠ (u215003 : Value).ownBlock ∧ some k_ ≠ (u215004 : Value).ownBlock ∧ some k_ ≠ (u215005 : Value).ownBlock ∧ some k_ ≠ (u215007 : Value).ownBlock) u215006 x215006_2) ∧ Aside0 (Kd.R (Kd.int .i64) 3 w' w.heap.size (fun k_ => some k_ ≠ (u215003 : Value).ownBlock ∧ some k_ ≠ (u215004 : Value).ownBlock ∧ some k_ ≠ (u215005 : Value).ownBlock ∧ some k_ ≠ (u215006 : Value).ownBlock) u215007 x215007_3) ∧ Aside0 (w'.heap[gb208]? = some (.cells #[.int .i64 0, .int .i64 0, (.slice none 0 0), (.slice none 0 0), (.slice none 0 0), (.slice none 0 0), (.slice none 0 0), (.slice none 0 0), (.slice none 0 0), .int .i64 0] 32 (0, 0))) ∧ Aside0 (w'.heap[gb214]? = some (.cells #[.int .i64 5, .int .i64 3, u215002, u215003, u215004, u215005, u215006, u215007, (.slice none 0 0), .int .i64 t212] 32 (0, 0))) ∧ Aside0 (IsS86 w0 w' g s0_0 x1001_3) ∧ Aside0 (KeepBut w w' g none) ∧ Aside0 (Below w0.heap.size w0 w'))
       case atStart => exact ⟨(wrap64 (1 + t253)), (t254), (([] : List Int)), (.slice none 0 0), (by first | rfl | (simp; done) | (simp [*]; done)), H', ⟨Nat.le_refl _⟩, ⟨by (with_reducible repeat (first | apply Kd.S_alloc | apply Kd.S_drewN | apply Kd.S_drew)); exact HO_215002.out⟩, ⟨by (with_reducible repeat (first | apply Kd.R_alloc | apply Kd.R_drewN | apply Kd.R_drew)); exact Kd.R_mono HO_215003.out (fun _ hk => ⟨hk.1, ⟨hk.2.1, ⟨hk.2.2, (by simp [Value.ownBlock])⟩⟩⟩)⟩, ⟨by (with_reducible repeat (first | apply Kd.R_alloc | apply Kd.R_drewN | apply Kd.R_drew)); exact Kd.R_mono HO_215004.out (fun _ hk => ⟨hk.1, ⟨hk.2.1, ⟨hk.2.2, (by simp [Value.ownBlock])⟩⟩⟩)⟩, ⟨by (with_reducible repeat (first | apply Kd.R_alloc | apply Kd.R_drewN | apply Kd.R_drew)); exact Kd.R_mono HO_215005.out (fun _ hk => ⟨hk.1, ⟨hk.2.1, ⟨hk.2.2, (by simp [Value.ownBlock])⟩⟩⟩)⟩, ⟨by (with_reducible repeat (first | apply Kd.R_alloc | apply Kd.R_drewN | apply Kd.R_drew)); exact Kd.R_mono HO_215006.out (fun _ hk => ⟨hk.1, ⟨hk.2.1, ⟨hk.2.2, (by simp [Value.ownBlock])⟩⟩⟩)⟩, ⟨by first | exact Kd.R_nil _ _ _ _ _ | exact Kd.N_nil _ _ _ _ _ | exact Kd.V_nil _ _ _ _ _ | exact Kd.Q_nil _ _ _ _ _ | exact Kd.S_nil _ _ _ _ _⟩, ⟨kN BK208.out⟩, ⟨kN BK214.out⟩, ⟨(hI2 HI0.out NB0_208.out NB0_214.out)⟩, ⟨(hK2 HK.out GW208.out GW214.out)⟩, ⟨(hB3 HB.out (IsS86.ge HI0.out) GE208.out GE214.out)⟩⟩
       case round =>
        clear H'
        try clear c1
        try clear c2
        try clear p2
        try clear q2
        try clear hx2
        try clear c4
        try clear c5
        try clear p6
        try clear c14
        try clear c14b0
        try clear c16
        try clear c17
        try clear c18
        try clear c19
        try clear c22
        try clear p22
        try clear q22
        try clear hx22
        try clear c43
        try clear c46
        try clear c50
        try clear c50b0
        try clear c52
        try clear c54
        try clear p64
        try clear hx227_0
        try clear p2
        try clear p22
        try clear p227
        try clear p6
        try clear q2
        try clear q22
        try clear q227
        obtain ⟨x6_3, x1001_3, x215007_3, u215007, rfl, HA, HK3, HO_215002, HO_215003, HO_215004, HO_215005, HO_215006, HO_215007, BK208, BK214, HI0, HK, HB⟩ := hrel
        cases gk with
        | zero => exact absurd HA.out (by simp [spec_l15Conf.l2])
        | succ k3 =>
         have H := HA.out
         clear HA
         simp only [spec_l15Conf.l2] at H
         by_cases c69 : x6_3 > 0
         ·rw [if_pos c69] at H
          have c69b0 : decide (0 < x6_3) = true := decide_eq_true c69
          clear c69
          replace H := Option.bind_eq_some_iff.mp H
          obtain ⟨⟨t255, t256⟩, A700, H⟩ := H
          replace H : (if x215007_3.length < 17592186044416 then (spec_l15Conf.l2 k3 (wrap64 (x6_3 - 1)) s0_0 t256 5 3 x215002_1 x215003_1 x215004_1 x215005_2 x215006_2 (x215007_3 ++ [t255]) t212) else (none)) = some (r1, r2, r3, r4, r5, r6, r7, r8, r9, r10, r11) := H
          have A70 := Aside0.mk A700
          clear A700
          by_cases c71 : x215007_3.length < 17592186044416
          ·rw [if_pos c71] at H
           have LMc71 := Aside0.mk c71
           clear c71
           obtain ⟨y257, hy257⟩ : ∃ y_ : List Int, y_ = (x215007_3 ++ [t255]) := ⟨_, rfl⟩
           replace H : (spec_l15Conf.l2 k3 (wrap64 (x6_3 - 1)) s0_0 t256 5 3 x215002_1 x215003_1 x215004_1 x215005_2 x215006_2 y257 t212) = some (r1, r2, r3, r4, r5, r6, r7, r8, r9, r10, r11) := by first | (rw [hy257]; with_reducible exact H) | (have H2_ := (Option.bind_some _ _).symm.trans H; rw [hy257]; with_reducible exact H2_) | (have H2_ := (Option.bind_some _ _).symm.trans H; with_reducible exact H2_) | with_reducible exact H | (rw [hy257]; exact H) | exact H
           have Ny257 := Aside0.mk hy257
           clear hy257
           have H' := Aside0.mk H
           clear H
           try go_wp2
           have n0_ := m_ (Kd.S_drew HO_215002.out)
           have n1_ := m_ (Kd.R_drew HO_215003.out)
           have n2_ := m_ (Kd.R_drew HO_215004.out)
           have n3_ := m_ (Kd.R_drew HO_215005.out)
           have n4_ := m_ (Kd.R_drew HO_215006.out)
           have n5_ := m_ (Kd.R_drew HO_215007.out)
           have n6_ := m_ (blk_drew BK208.out)
           have n7_ := m_ (blk_drew BK214.out)
           have n8_ := m_ (IsS86.drew HI0.out)
           have n9_ := m_ (keep_drew HK.out)
           have n10_ := m_ (below_drew1 HB.out)
           clear HO_215002 HO_215003 HO_215004 HO_215005 HO_215006 HO_215007 BK208 BK214 HI0 HK HB
           have HO_215002 := n0_; have HO_215003 := n1_
           have HO_215004 := n2_; have HO_215005 := n3_
           have HO_215006 := n4_; have HO_215007 := n5_; have BK208 := n6_; have BK214 := n7_
           have HI0 := n8_; have HK := n9_; have HB := n10_
           clear n0_ n1_ n2_ n3_ n4_ n5_ n6_ n7_ n8_ n9_ n10_
           obtain ⟨Ao73, co73, eo73⟩ := Kd.S_slice HO_215002.out
           (first | subst eo73 | (injection eo73 with f1_ f2_ f3_; have f4_ := f1_.symm; have f5_ := f3_.symm; clear f1_ f2_ f3_; subst f4_; subst f5_))
           refine start_ (n := 12) (S := fun w' => w'.cell? ⟨gb214, 0, none⟩ = some (.int .i64 5) ∧ w'.cell? ⟨gb214, 1, none⟩ = some (.int .i64 3) ∧ w'.cell? ⟨gb214, 2, none⟩ = some (.slice Ao73 x215002_1.length co73) ∧ w'.cell? ⟨gb214, 3, none⟩ = some (u215003) ∧ w'.cell? ⟨gb214, 4, none⟩ = some (u215004) ∧ w'.cell? ⟨gb214, 5, none⟩ = some (u215005) ∧ w'.cell? ⟨gb214, 6, none⟩ = some (u215006) ∧ w'.cell? ⟨gb214, 7, none⟩ = some (u215007) ∧ w'.cell? ⟨gb214, 8, none⟩ = some (.slice none 0 0) ∧ w'.cell? ⟨gb214, 9, none⟩ = some (.int .i64 t212)) (ds := [11]) #[false, false, false, false, false, false, false, false, false, false, false, false] (by kernel_rfl) rfl rfl ⟨bc BK214 0, bc BK214 1, bc BK214 2, bc BK214 3, bc BK214 4, bc BK214 5, bc BK214 6, bc BK214 7, bc BK214 8, bc BK214 9⟩ (fun hHeld => ?_); refine with_tabW spec_l15Conf.tab16 spec_l15Conf.bits16 (fun HT_ HW_ => ?_)
           generalize wr.drew = w72 at HO_215002 HO_215003 HO_215004 HO_215005 HO_215006 HO_215007 BK208 BK214 HI0 HK HB hHeld ⊢
           refine pu 0 82 HT_ (h := ?_)
           refine pu 2 84 HT_ (h := ?_)
           refine pu 3 85 HT_ (h := ?_)
           refine take_ (i := 1) (N := some 83) (v := ?_) (a' := ?_) #[true, true, true, true, false, false, false, false, false, false, false, false] rfl rfl (take_ofW HT_.out HW_.out (by kernel_rfl)) (fun _ _ _ h => h) (Or.inl ⟨by rfl, ?_⟩) hHeld ?_ ?_
           rotate_left
           ·rintro w' ⟨s0, s1, s2, s3, s4, s5, s6, s7, s8, s9⟩
            go_simp
            with_reducible rfl
           rotate_left
           ·simp only [Act.put, List.setIfInBounds_toArray, List.set_cons_zero, List.set_cons_succ, i64_w, i32_w]
            rfl
           refine take_ (i := 4) (N := some 86) (v := ?_) (a' := ?_) #[true, true, true, true, true, false, false, false, false, false, false, false] rfl rfl (take_ofW HT_.out HW_.out (by kernel_rfl)) (fun _ _ _ h => h) (Or.inl ⟨by rfl, ?_⟩) hHeld ?_ ?_
           rotate_left
           ·rintro w' ⟨s0, s1, s2, s3, s4, s5, s6, s7, s8, s9⟩
            go_simp
            with_reducible rfl
           rotate_left
           ·simp only [Act.put, List.setIfInBounds_toArray, List.set_cons_zero, List.set_cons_succ, i64_w, i32_w]
            rfl
           refine pu 5 87 HT_ (h := ?_)
           refine pu 6 88 HT_ (h := ?_)
           refine one_ (i := 7) (N := some 89) #[true, true, true, true, true, true, true, true, false, false, false, false] rfl rfl (one_of HT_.out (by kernel_rfl)) (by decide) (fun K hK => ?_)
           refine goes_ Tryd.func46 (by kernel_rfl) rfl #[.pointer (some ⟨g, 0, none⟩), .int .i64 (wrap64 ((x215002_1.length : Int) + 1))] (by rfl) rfl rfl gl_ ?_
           with_reducible refine (spec_l1Rd_pick.calls k3 g s0_0 x1001_3 (wrap64 ((x215002_1.length : Int) + 1)) t255 t256 w0 _ ?side1 ?side2 A70.out).mono ?_
           (case side1 => exact hI2 HI0.out NB0_208.out NB0_214.out)
           (case side2 => exact hB3 HB.out (IsS86.ge HI0.out) GE208.out GE214.out)
           rintro e w74 ⟨rfl, hi, hb, hk⟩
           refine ⟨_, rfl, ?_⟩
           have n0_ := m_ (Kd.S_mono (Kd.S_keep (IsS86.apartS (show IsS86 w0 _ g s0_0 x1001_3 from (hI2 HI0.out NB0_208.out NB0_214.out)) (by (with_reducible repeat (first | apply Kd.S_alloc | apply Kd.S_drewN | apply Kd.S_drew)); exact HO_215002.out) (by decide)) hk (fun _ h => h.2)) (fun _ h => h.1))
           have n1_ := m_ (rK (show IsS86 w0 _ g s0_0 x1001_3 from (hI2 HI0.out NB0_208.out NB0_214.out)) (rN HO_215003.out) hk)
           have n2_ := m_ (rK (show IsS86 w0 _ g s0_0 x1001_3 from (hI2 HI0.out NB0_208.out NB0_214.out)) (rN HO_215004.out) hk)
           have n3_ := m_ (rK (show IsS86 w0 _ g s0_0 x1001_3 from (hI2 HI0.out NB0_208.out NB0_214.out)) (rN HO_215005.out) hk)
           have n4_ := m_ (rK (show IsS86 w0 _ g s0_0 x1001_3 from (hI2 HI0.out NB0_208.out NB0_214.out)) (rN HO_215006.out) hk)
           have n5_ := m_ (rK (show IsS86 w0 _ g s0_0 x1001_3 from (hI2 HI0.out NB0_208.out NB0_214.out)) (rN HO_215007.out) hk)
           have n6_ := m_ (KeepBut.blk hk (g' := gb208) (o := .cells #[.int .i64 0, .int .i64 0, .slice none 0 0, .slice none 0 0, .slice none 0 0, .slice none 0 0, .slice none 0 0, .slice none 0 0, .slice none 0 0, .int .i64 0] 32 (0, 0)) (kN BK208.out) NB208_0.out (by simp))
           have n7_ := m_ (KeepBut.blk hk (g' := gb214) (o := .cells #[.int .i64 5, .int .i64 3, .slice Ao73 x215002_1.length co73, u215003, u215004, u215005, u215006, u215007, .slice none 0 0, .int .i64 t212] 32 (0, 0)) (kN BK214.out) NB214_0.out (by simp))
           have n8_ := m_ (KeepBut.trans (hK2 HK.out GW208.out GW214.out) hk (.inl rfl))
           have n9_ := m_ (hb)
           have n10_ := m_ (hi)
           clear HO_215002 HO_215003 HO_215004 HO_215005 HO_215006 HO_215007 BK208 BK214 HK HB HI0
           have HO_215002 := n0_; have HO_215003 := n1_
           have HO_215004 := n2_; have HO_215005 := n3_
           have HO_215006 := n4_; have HO_215007 := n5_; have BK208 := n6_; have BK214 := n7_
           have HK := n8_; have HB := n9_; have HI0 := n10_
           clear n0_ n1_ n2_ n3_ n4_ n5_ n6_ n7_ n8_ n9_ n10_
           (try clear hb)
           (try clear hb2)
           (try clear hk)
           (try clear hi)
           refine hK.out _ _ ⟨bc BK214 0, bc BK214 1, bc BK214 2, bc BK214 3, bc BK214 4, bc BK214 5, bc BK214 6, bc BK214 7, bc BK214 8, bc BK214 9⟩ (fun hHeld => ?_)
           clear hK K
           refine np (h := ?_)
           refine one_ (i := 8) (N := some 90) #[true, true, true, true, true, true, true, true, true, false, false, false] rfl rfl (one_of HT_.out (by kernel_rfl)) (by decide) (fun K hK => ?_)
           refine value_ (w1 := ?_) (v := ?_) (by rfl) rfl ?_ ?_
           rotate_left 2
           ·go_simp
            constructor
            ·rfl
            ·rfl
           refine hK.out _ _ ⟨(blk_cell (blk_alloc BK214.out _) 0).trans rfl, (blk_cell (blk_alloc BK214.out _) 1).trans rfl, (blk_cell (blk_alloc BK214.out _) 2).trans rfl, (blk_cell (blk_alloc BK214.out _) 3).trans rfl, (blk_cell (blk_alloc BK214.out _) 4).trans rfl, (blk_cell (blk_alloc BK214.out _) 5).trans rfl, (blk_cell (blk_alloc BK214.out _) 6).trans rfl, (blk_cell (blk_alloc BK214.out _) 7).trans rfl, (blk_cell (blk_alloc BK214.out _) 8).trans rfl, (blk_cell (blk_alloc BK214.out _) 9).trans rfl⟩ (fun hHeld => ?_)
           clear hK K
           refine np (h := ?_)
           refine one_ (i := 9) (N := some 91) #[true, true, true, true, true, true, true, true, true, true, false, false] rfl rfl (one_of HT_.out (by kernel_rfl)) (by decide) (fun K hK => ?_)
           refine Kd.R_append_step (Kd.int .i64) w.heap.size (by rfl) (.tmp 83) (.tmp 90) 23 3 (.int .i64 0) 8 rfl Tryd.underlying23 info3 rfl (by decide) (by omega) u215007 x215007_3 t255 [.int .i64 t255] (fun k_ => some k_ ≠ (u215003 : Value).ownBlock ∧ some k_ ≠ (u215004 : Value).ownBlock ∧ some k_ ≠ (u215005 : Value).ownBlock ∧ some k_ ≠ (u215006 : Value).ownBlock) (fun _ => False) rfl rfl ?aP (fun _ hk => hk.elim) ?aF ?aO (Below.refl _ _) ?aS ?aL ?_
           (case aP => exact rfl)
           (case aF => exact (fun k_ hk => ⟨Kd.fresh' (Kd.R_lt (rN HO_215003.out)) k_ hk, Kd.fresh' (Kd.R_lt (rN HO_215004.out)) k_ hk, Kd.fresh' (Kd.R_lt (rN HO_215005.out)) k_ hk, Kd.fresh' (Kd.R_lt (rN HO_215006.out)) k_ hk⟩))
           (case aO => exact (rN HO_215007.out))
           (case aS => exact (keep_size (w := w) (g := g) (row := none) (hK2 HK.out GW208.out GW214.out)))
           (case aL => have := LMc71.out; omega)
           intro v258 w75 ho hb hg hat
           rw [← Ny257.out] at ho
           have n0_ := m_ (Kd.S_over' (by (with_reducible repeat (first | apply Kd.S_alloc | apply Kd.S_drewN | apply Kd.S_drew)); exact HO_215002.out) (Kd.R_typed (rN HO_215007.out)) (by decide) hg)
           have n1_ := m_ (Kd.R_after (ok := (fun k_ => some k_ ≠ (u215004 : Value).ownBlock ∧ some k_ ≠ (u215005 : Value).ownBlock ∧ some k_ ≠ (u215006 : Value).ownBlock)) (by (with_reducible repeat (first | apply Kd.R_alloc | apply Kd.R_drewN | apply Kd.R_drew)); exact Kd.R_mono HO_215003.out (fun _ hk => ⟨⟨hk.1, ⟨hk.2.1, hk.2.2.1⟩⟩, hk.2.2.2⟩)) hg hat)
           have n2_ := m_ (Kd.R_after (ok := (fun k_ => some k_ ≠ (u215003 : Value).ownBlock ∧ some k_ ≠ (u215005 : Value).ownBlock ∧ some k_ ≠ (u215006 : Value).ownBlock)) (by (with_reducible repeat (first | apply Kd.R_alloc | apply Kd.R_drewN | apply Kd.R_drew)); exact Kd.R_mono HO_215004.out (fun _ hk => ⟨⟨hk.1, ⟨hk.2.1, hk.2.2.1⟩⟩, hk.2.2.2⟩)) hg hat)
           have n3_ := m_ (Kd.R_after (ok := (fun k_ => some k_ ≠ (u215003 : Value).ownBlock ∧ some k_ ≠ (u215004 : Value).ownBlock ∧ some k_ ≠ (u215006 : Value).ownBlock)) (by (with_reducible repeat (first | apply Kd.R_alloc | apply Kd.R_drewN | apply Kd.R_drew)); exact Kd.R_mono HO_215005.out (fun _ hk => ⟨⟨hk.1, ⟨hk.2.1, hk.2.2.1⟩⟩, hk.2.2.2⟩)) hg hat)
           have n4_ := m_ (Kd.R_after (ok := (fun k_ => some k_ ≠ (u215003 : Value).ownBlock ∧ some k_ ≠ (u215004 : Value).ownBlock ∧ some k_ ≠ (u215005 : Value).ownBlock)) (by (with_reducible repeat (first | apply Kd.R_alloc | apply Kd.R_drewN | apply Kd.R_drew)); exact Kd.R_mono HO_215006.out (fun _ hk => ⟨⟨hk.1, ⟨hk.2.1, hk.2.2.1⟩⟩, hk.2.2.2⟩)) hg hat)
           have n5_ := m_ (blk_grown (g := gb208) (o := .cells #[.int .i64 0, .int .i64 0, .slice none 0 0, .slice none 0 0, .slice none 0 0, .slice none 0 0, .slice none 0 0, .slice none 0 0, .slice none 0 0, .int .i64 0] 32 (0, 0)) (kN BK208.out) hg (Kd.R_ne HO_215007.out BK208.out (by decide)))
           have n6_ := m_ (blk_grown (g := gb214) (o := .cells #[.int .i64 5, .int .i64 3, .slice Ao73 x215002_1.length co73, u215003, u215004, u215005, u215006, u215007, .slice none 0 0, .int .i64 t212] 32 (0, 0)) (kN BK214.out) hg (Kd.R_ne HO_215007.out BK214.out (by decide)))
           have n7_ := m_ (IsS86.grown ((hI2 HI0.out NB0_208.out NB0_214.out)) hg (IsS86.own_ne HI0.out HO_215007.out (by decide)))
           have n8_ := m_ (below_weaken ((hB3 HB.out (IsS86.ge HI0.out) GE208.out GE214.out)) HL.out hb)
           have n9_ := m_ (KeepBut.trans (hK2 HK.out GW208.out GW214.out) (KeepBut.of_grown hg g) (Kd.R_base2 HO_215007.out))
           have n10_ := m_ (ho)
           clear HO_215002 HO_215003 HO_215004 HO_215005 HO_215006 BK208 BK214 HI0 HB HK HO_215007
           have HO_215002 := n0_; have HO_215003 := n1_
           have HO_215004 := n2_; have HO_215005 := n3_
           have HO_215006 := n4_; have BK208 := n5_; have BK214 := n6_
           have HI0 := n7_; have HB := n8_
           have HK := n9_; have HO259 := n10_
           clear n0_ n1_ n2_ n3_ n4_ n5_ n6_ n7_ n8_ n9_ n10_ ho hb hg hat
           obtain ⟨Ao76, co76, eo76⟩ := Kd.R_slice HO259.out
           (first | subst eo76 | (injection eo76 with f1_ f2_ f3_; have f4_ := f1_.symm; have f5_ := f3_.symm; clear f1_ f2_ f3_; subst f4_; subst f5_))
           refine hK.out _ _ ⟨bc BK214 0, bc BK214 1, bc BK214 2, bc BK214 3, bc BK214 4, bc BK214 5, bc BK214 6, bc BK214 7, bc BK214 8, bc BK214 9⟩ (fun hHeld => ?_)
           clear hK K
           refine np (h := ?_)
           refine pu 10 92 HT_ (h := ?_)
           refine last_ (i := 11) (N := none) #[true, true, true, true, true, true, true, true, true, true, true, true] rfl rfl (one_of HT_.out (by kernel_rfl)) (by decide) (fun K hK => ?_)
           have hs77 : w75.cell? ⟨gb214, 7, none⟩ = some (u215007) := bc BK214 7
           have hfs77 := blk_frozen BK214.out 7
           have hns77_0 := NB208_214.out
           have hms77_0 := NB214_208.out
           refine skip_ (w1 := ?_) (by rfl) rfl ?_ ?_
           rotate_left
           ·go_simp
            rfl
           refine hK.out _ _ ?_
           clear hK K
           refine done_ (done_of HT_.out (by kernel_rfl)) ?_
           try go_wp2
           go_roundg k3
           case measure => have := HK1.out; have := HK2.out; have := HK3.out; omega
           case rel => exact ⟨(wrap64 (x6_3 - 1)), (t256), (y257), (.slice Ao76 y257.length co76), (by first | rfl | (simp; done) | (simp [*]; done)), H', ⟨by have := HK1.out; have := HK2.out; have := HK3.out; omega⟩, ⟨by (with_reducible repeat (first | apply Kd.S_alloc | apply Kd.S_drewN | apply Kd.S_drew)); exact Kd.S_mono (Kd.S_far (p := ⟨gb214, 7, none⟩) (Kd.S_types HO_215002.out BK214.out (by decide)) (fun _ hk => hk.2) (.slice Ao76 y257.length co76)) (fun _ hk => trivial)⟩, ⟨frM (Kd.R_types HO_215003.out BK214.out (by decide))⟩, ⟨frM (Kd.R_types HO_215004.out BK214.out (by decide))⟩, ⟨frM (Kd.R_types HO_215005.out BK214.out (by decide))⟩, ⟨frM (Kd.R_types HO_215006.out BK214.out (by decide))⟩, ⟨frM (Kd.R_types HO259.out BK214.out (by decide))⟩, ⟨kF BK208.out NB208_214.out⟩, ⟨kP BK214.out⟩, ⟨(hI2 HI0.out NB0_208.out NB0_214.out)⟩, ⟨(hK2 HK.out GW208.out GW214.out)⟩, ⟨(hB3 HB.out (IsS86.ge HI0.out) GE208.out GE214.out)⟩⟩
          ·rw [if_neg c71] at H
           exact absurd H (by simp)
         ·rw [if_neg c69] at H
          have c69b0 : decide (0 < x6_3) = false := decide_eq_false c69
          clear c69
          replace H := Option.bind_eq_some_iff.mp H
          obtain ⟨⟨t260, t261⟩, A780, H⟩ := H
          replace H : ((spec_l1Rd_pick.f k3 s0_0 t261 4).bind fun bt265 => (spec_l15Conf.l3 k3 bt265.1 s0_0 bt265.2 5 3 x215002_1 x215003_1 x215004_1 x215005_2 x215006_2 x215007_3 (([(⟨1, 0, 8, 1, true, true⟩ : S78), (⟨1, 0, 8, 2, false, true⟩ : S78), (⟨1, 0, 11, 4, true, (t260 == 0)⟩ : S78), (⟨1, 1, 8, 1, true, false⟩ : S78), (⟨2, 7, 8, 1, true, true⟩ : S78), (⟨1, 0, 17, 1, true, true⟩ : S78)] : List (S78))) t212)) = some (r1, r2, r3, r4, r5, r6, r7, r8, r9, r10, r11) := H
          have A78 := Aside0.mk A780
          clear A780
          obtain ⟨y262, hy262⟩ : ∃ y_ : List (S78), y_ = (([(⟨1, 0, 8, 1, true, true⟩ : S78), (⟨1, 0, 8, 2, false, true⟩ : S78), (⟨1, 0, 11, 4, true, (t260 == 0)⟩ : S78), (⟨1, 1, 8, 1, true, false⟩ : S78), (⟨2, 7, 8, 1, true, true⟩ : S78), (⟨1, 0, 17, 1, true, true⟩ : S78)] : List (S78))) := ⟨_, rfl⟩
          replace H : ((spec_l1Rd_pick.f k3 s0_0 t261 4).bind fun bt265 => (spec_l15Conf.l3 k3 bt265.1 s0_0 bt265.2 5 3 x215002_1 x215003_1 x215004_1 x215005_2 x215006_2 x215007_3 y262 t212)) = some (r1, r2, r3, r4, r5, r6, r7, r8, r9, r10, r11) := by first | (rw [hy262]; with_reducible exact H) | (have H2_ := (Option.bind_some _ _).symm.trans H; rw [hy262]; with_reducible exact H2_) | (have H2_ := (Option.bind_some _ _).symm.trans H; with_reducible exact H2_) | with_reducible exact H | (rw [hy262]; exact H) | exact H
          have Ny262 := Aside0.mk hy262
          clear hy262
          replace H := Option.bind_eq_some_iff.mp H
          obtain ⟨⟨t265, t266⟩, A790, H⟩ := H
          replace H : (spec_l15Conf.l3 k3 t265 s0_0 t266 5 3 x215002_1 x215003_1 x215004_1 x215005_2 x215006_2 x215007_3 y262 t212) = some (r1, r2, r3, r4, r5, r6, r7, r8, r9, r10, r11) := H
          have A79 := Aside0.mk A790
          clear A790
          have H' := Aside0.mk H
          clear H
          go_wp2_with (first | ((with_reducible refine gate_callee (f := 46) rfl ?_); refine goesL_ (some 96) rfl rfl Tryd.func46 (by kernel_rfl) rfl #[.pointer (some ⟨g, 0, none⟩), .int .i64 2] rfl gl_ ?_; (with_reducible refine (spec_l1Rd_pick.calls k3 g s0_0 x1001_3 2 t260 t261 w0 _ ?side1 ?side2 A78.out).mono ?_); (case side1 => exact hI2 HI0.out NB0_208.out NB0_214.out); (case side2 => exact hB3 HB.out (IsS86.ge HI0.out) GE208.out GE214.out); rintro e w80 ⟨rfl, hi, hb, hk⟩; refine ⟨_, rfl, ?_⟩; have n0_ := m_ (Kd.S_mono (Kd.S_keep (IsS86.apartS (show IsS86 w0 _ g s0_0 x1001_3 from (hI2 HI0.out NB0_208.out NB0_214.out)) (by (with_reducible repeat (first | apply Kd.S_alloc | apply Kd.S_drewN | apply Kd.S_drew)); exact HO_215002.out) (by decide)) hk (fun _ h => h.2)) (fun _ h => h.1)); have n1_ := m_ (rK (show IsS86 w0 _ g s0_0 x1001_3 from (hI2 HI0.out NB0_208.out NB0_214.out)) (rN HO_215003.out) hk); have n2_ := m_ (rK (show IsS86 w0 _ g s0_0 x1001_3 from (hI2 HI0.out NB0_208.out NB0_214.out)) (rN HO_215004.out) hk); have n3_ := m_ (rK (show IsS86 w0 _ g s0_0 x1001_3 from (hI2 HI0.out NB0_208.out NB0_214.out)) (rN HO_215005.out) hk); have n4_ := m_ (rK (show IsS86 w0 _ g s0_0 x1001_3 from (hI2 HI0.out NB0_208.out NB0_214.out)) (rN HO_215006.out) hk); have n5_ := m_ (rK (show IsS86 w0 _ g s0_0 x1001_3 from (hI2 HI0.out NB0_208.out NB0_214.out)) (rN HO_215007.out) hk); have n6_ := m_ (KeepBut.blk hk (g' := gb208) (o := .cells #[.int .i64 0, .int .i64 0, .slice none 0 0, .slice none 0 0, .slice none 0 0, .slice none 0 0, .slice none 0 0, .slice none 0 0, .slice none 0 0, .int .i64 0] 32 (0, 0)) (kN BK208.out) NB208_0.out (by simp)); have n7_ := m_ (KeepBut.blk hk (g' := gb214) (o := .cells #[.int .i64 5, .int .i64 3, u215002, u215003, u215004, u215005, u215006, u215007, .slice none 0 0, .int .i64 t212] 32 (0, 0)) (kN BK214.out) NB214_0.out (by simp)); have n8_ := m_ (KeepBut.trans (hK2 HK.out GW208.out GW214.out) hk (.inl rfl)); have n9_ := m_ (hb); have n10_ := m_ (hi); clear HO_215002 HO_215003 HO_215004 HO_215005 HO_215006 HO_215007 BK208 BK214 HK HB HI0; have HO_215002 := n0_; have HO_215003 := n1_; have HO_215004 := n2_; have HO_215005 := n3_; have HO_215006 := n4_; have HO_215007 := n5_; have BK208 := n6_; have BK214 := n7_; have HK := n8_; have HB := n9_; have HI0 := n10_; clear n0_ n1_ n2_ n3_ n4_ n5_ n6_ n7_ n8_ n9_ n10_; (try clear hb); (try clear hb2); (try clear hk); (try clear hi)) | ((with_reducible refine gate_dst (N := 102) rfl ?_); refine Kd.R_lit k78 _ 78 ?hg (N := 102) ?hd (xs := ([(⟨1, 0, 8, 1, true, true⟩ : S78), (⟨1, 0, 8, 2, false, true⟩ : S78), (⟨1, 0, 11, 4, true, (t260 == 0)⟩ : S78), (⟨1, 1, 8, 1, true, false⟩ : S78), (⟨2, 7, 8, 1, true, true⟩ : S78), (⟨1, 0, 17, 1, true, true⟩ : S78)] : List (S78))) (inner := [.int .i64 1, .int .i64 0, .int .i64 8, .int .i64 1, .bool true, .bool true, .int .i64 1, .int .i64 0, .int .i64 8, .int .i64 2, .bool false, .bool true, .int .i64 1, .int .i64 0, .int .i64 11, .int .i64 4, .bool true, .bool (t260 == 0), .int .i64 1, .int .i64 1, .int .i64 8, .int .i64 1, .bool true, .bool false, .int .i64 2, .int .i64 7, .int .i64 8, .int .i64 1, .bool true, .bool true, .int .i64 1, .int .i64 0, .int .i64 17, .int .i64 1, .bool true, .bool true]) (ok := fun _ => True) (okp := fun _ => True) ?hr ?hp (fun _ hk => hk) trivial (Below.refl _ _) (Nat.le_refl _) (by simp) ?_; (case hd => rfl); (case hg => rfl); (case hr => first | (go_simp; done) | (go_simp; rfl)); (case hp => exact (Reps.c6 (show Kd.M k78 _ _ _ (⟨1, 0, 8, 1, true, true⟩ : S78) [.int .i64 1, .int .i64 0, .int .i64 8, .int .i64 1, .bool true, .bool true] from (k78_mkM _ _ _ (⟨1, 0, 8, 1, true, true⟩ : S78) )) (Reps.c6 (show Kd.M k78 _ _ _ (⟨1, 0, 8, 2, false, true⟩ : S78) [.int .i64 1, .int .i64 0, .int .i64 8, .int .i64 2, .bool false, .bool true] from (k78_mkM _ _ _ (⟨1, 0, 8, 2, false, true⟩ : S78) )) (Reps.c6 (show Kd.M k78 _ _ _ (⟨1, 0, 11, 4, true, (t260 == 0)⟩ : S78) [.int .i64 1, .int .i64 0, .int .i64 11, .int .i64 4, .bool true, .bool (t260 == 0)] from (k78_mkM _ _ _ (⟨1, 0, 11, 4, true, (t260 == 0)⟩ : S78) )) (Reps.c6 (show Kd.M k78 _ _ _ (⟨1, 1, 8, 1, true, false⟩ : S78) [.int .i64 1, .int .i64 1, .int .i64 8, .int .i64 1, .bool true, .bool false] from (k78_mkM _ _ _ (⟨1, 1, 8, 1, true, false⟩ : S78) )) (Reps.c6 (show Kd.M k78 _ _ _ (⟨2, 7, 8, 1, true, true⟩ : S78) [.int .i64 2, .int .i64 7, .int .i64 8, .int .i64 1, .bool true, .bool true] from (k78_mkM _ _ _ (⟨2, 7, 8, 1, true, true⟩ : S78) )) (Reps.c6 (show Kd.M k78 _ _ _ (⟨1, 0, 17, 1, true, true⟩ : S78) [.int .i64 1, .int .i64 0, .int .i64 17, .int .i64 1, .bool true, .bool true] from (k78_mkM _ _ _ (⟨1, 0, 17, 1, true, true⟩ : S78) )) (Reps.none _ _)))))))); intro v263 w81 ho82 hb hg_ hnew_; clear hg_ hnew_; (first | rw [← Ny262.out] at ho82 | (simp only [Int.reduceToNat] at ho82; rw [← Ny262.out] at ho82)); have n0_ := m_ (Kd.S_below (by (with_reducible repeat (first | apply Kd.S_alloc | apply Kd.S_drewN | apply Kd.S_drew)); exact HO_215002.out) hb); have n1_ := m_ (Kd.R_below (rN HO_215003.out) hb); have n2_ := m_ (Kd.R_below (rN HO_215004.out) hb); have n3_ := m_ (Kd.R_below (rN HO_215005.out) hb); have n4_ := m_ (Kd.R_below (rN HO_215006.out) hb); have n5_ := m_ (Kd.R_below (rN HO_215007.out) hb); have n6_ := m_ (Kd.R_lower ho82 (keep_size (w := w) (g := g) (row := none) (hK2 HK.out GW208.out GW214.out))); have n7_ := m_ (blk_below (kN BK208.out) hb); have n8_ := m_ (blk_below (kN BK214.out) hb); have n9_ := m_ (IsS86.below ((hI2 HI0.out NB0_208.out NB0_214.out)) hb); have n10_ := m_ (KeepBut.trans (hK2 HK.out GW208.out GW214.out) (KeepBut.of_below hb g none) (.inl rfl)); have n11_ := m_ (below_step ((hB3 HB.out (IsS86.ge HI0.out) GE208.out GE214.out)) hb); clear HO_215002 HO_215003 HO_215004 HO_215005 HO_215006 HO_215007 BK208 BK214 HI0 HK HB; have HO_215002 := n0_; have HO_215003 := n1_; have HO_215004 := n2_; have HO_215005 := n3_; have HO_215006 := n4_; have HO_215007 := n5_; have HO264 := n6_; have BK208 := n7_; have BK214 := n8_; have HI0 := n9_; have HK := n10_; have HB := n11_; clear n0_ n1_ n2_ n3_ n4_ n5_ n6_ n7_ n8_ n9_ n10_ n11_ hb ho82; obtain ⟨Ao83, co83, eo83⟩ := Kd.R_slice HO264.out; subst eo83; have hnb84 := NB214_208.out; have hnc84 := NB208_214.out; have hnb85 := NB214_0.out; have hnc85 := NB0_214.out; obtain ⟨⟨hcz86_0, hcz86_1, hcz86_2, hcz86_3, hcz86_4, hcz86_5, hcz86_6, hcz86_7, hcz86_8, hcz86_9⟩, hfz86_0, hfz86_1, hfz86_2, hfz86_3, hfz86_4, hfz86_5, hfz86_6, hfz86_7, hfz86_8, hfz86_9⟩ := row10 BK214.out) | ((with_reducible refine gate_callee (f := 46) rfl ?_); refine goesL_ (some 105) rfl rfl Tryd.func46 (by kernel_rfl) rfl #[.pointer (some ⟨g, 0, none⟩), .int .i64 4] rfl gl_ ?_; (with_reducible refine (spec_l1Rd_pick.calls k3 g s0_0 t261 4 t265 t266 w0 _ ?side1 ?side2 A79.out).mono ?_); (case side1 => exact hI2 HI0.out NB0_208.out NB0_214.out); (case side2 => exact hB3 HB.out (IsS86.ge HI0.out) GE208.out GE214.out); rintro e w87 ⟨rfl, hi, hb, hk⟩; refine ⟨_, rfl, ?_⟩; have n0_ := m_ (Kd.S_mono (Kd.S_keep (IsS86.apartS (show IsS86 w0 _ g s0_0 t261 from (hI2 HI0.out NB0_208.out NB0_214.out)) (by (with_reducible repeat (first | apply Kd.S_alloc | apply Kd.S_drewN | apply Kd.S_drew)); exact (Kd.S_mono (Kd.S_far (p := ⟨gb214, 8, none⟩) (Kd.S_types HO_215002.out BK214.out (by decide)) (fun _ hk => hk.2) (.slice Ao83 y262.length co83)) (fun _ h_ => h_.1))) (by decide)) hk (fun _ h => h.2)) (fun _ h => h.1)); have n1_ := m_ (rK (show IsS86 w0 _ g s0_0 t261 from (hI2 HI0.out NB0_208.out NB0_214.out)) (frN (Kd.R_types HO_215003.out BK214.out (by decide))) hk); have n2_ := m_ (rK (show IsS86 w0 _ g s0_0 t261 from (hI2 HI0.out NB0_208.out NB0_214.out)) (frN (Kd.R_types HO_215004.out BK214.out (by decide))) hk); have n3_ := m_ (rK (show IsS86 w0 _ g s0_0 t261 from (hI2 HI0.out NB0_208.out NB0_214.out)) (frN (Kd.R_types HO_215005.out BK214.out (by decide))) hk); have n4_ := m_ (rK (show IsS86 w0 _ g s0_0 t261 from (hI2 HI0.out NB0_208.out NB0_214.out)) (frN (Kd.R_types HO_215006.out BK214.out (by decide))) hk); have n5_ := m_ (rK (show IsS86 w0 _ g s0_0 t261 from (hI2 HI0.out NB0_208.out NB0_214.out)) (frN (Kd.R_types HO_215007.out BK214.out (by decide))) hk); have n6_ := m_ (KeepBut.blk hk (g' := gb208) (o := .cells #[.int .i64 0, .int .i64 0, .slice none 0 0, .slice none 0 0, .slice none 0 0, .slice none 0 0, .slice none 0 0, .slice none 0 0, .slice none 0 0, .int .i64 0] 32 (0, 0)) (kF BK208.out NB208_214.out) NB208_0.out (by simp)); have n7_ := m_ (KeepBut.blk hk (g' := gb214) (o := .cells #[.int .i64 5, .int .i64 3, u215002, u215003, u215004, u215005, u215006, u215007, .slice Ao83 y262.length co83, .int .i64 t212] 32 (0, 0)) (kP BK214.out) NB214_0.out (by simp)); have n8_ := m_ (rK (show IsS86 w0 _ g s0_0 t261 from (hI2 HI0.out NB0_208.out NB0_214.out)) (frN (Kd.R_types HO264.out BK214.out (by decide))) hk); have n9_ := m_ (KeepBut.trans (hK2 HK.out GW208.out GW214.out) hk (.inl rfl)); have n10_ := m_ (hb); have n11_ := m_ (hi); clear HO_215002 HO_215003 HO_215004 HO_215005 HO_215006 HO_215007 BK208 BK214 HO264 HK HB HI0; have HO_215002 := n0_; have HO_215003 := n1_; have HO_215004 := n2_; have HO_215005 := n3_; have HO_215006 := n4_; have HO_215007 := n5_; have BK208 := n6_; have BK214 := n7_; have HO264 := n8_; have HK := n9_; have HB := n10_; have HI0 := n11_; clear n0_ n1_ n2_ n3_ n4_ n5_ n6_ n7_ n8_ n9_ n10_ n11_; (try clear hb); (try clear hb2); (try clear hk); (try clear hi)))
          go_loopg [7] k3 (fun kq v7 w' => ∃ (x7_4 : Int) (x1001_4 : Int) (x215008_4 : List (S78)) (u215008 : Value), v7 = .int .i64 x7_4 ∧ Aside0 (spec_l15Conf.l3 kq x7_4 s0_0 x1001_4 5 3 x215002_1 x215003_1 x215004_1 x215005_2 x215006_2 x215007_3 x215008_4 t212 = some (r1, r2, r3, r4, r5, r6, r7, r8, r9, r10, r11)) ∧ Aside0 (kq ≤ k3) ∧ Aside0 (Kd.S (Kd.slice 107 k107) 75 w' w.heap.size (fun _ => True) u215002 x215002_1) ∧ Aside0 (Kd.R (Kd.int .i64) 3 w' w.heap.size (fun k_ => some k_ ≠ (u215004 : Value).ownBlock ∧ some k_ ≠ (u215005 : Value).ownBlock ∧ some k_ ≠ (u215006 : Value).ownBlock ∧ some k_ ≠ (u215007 : Value).ownBlock) u215003 x215003_1) ∧ Aside0 (Kd.R (Kd.int .i64) 3 w' w.heap.size (fun k_ => some k_ ≠ (u215003 : Value).ownBlock ∧ some k_ ≠ (u215005 : Value).ownBlock ∧ some k_ ≠ (u215006 : Value).ownBlock ∧ some k_ ≠ (u215007 : Value).ownBlock) u215004 x215004_1) ∧ Aside0 (Kd.R (Kd.int .i64) 3 w' w.heap.size (fun k_ => some k_ ≠ (u215003 : Value).ownBlock ∧ some k_ ≠ (u215004 : Value).ownBlock ∧ some k_ ≠ (u215006 : Value).ownBlock ∧ some k_ ≠ (u215007 : Value).ownBlock) u215005 x215005_2) ∧ Aside0 (Kd.R (Kd.int .i64) 3 w' w.heap.size (fun k_ => some k_ ≠ (u215003 : Value).ownBlock ∧ some k_ ≠ (u215004 : Value).ownBlock ∧ some k_ ≠ (u215005 : Value).ownBlock ∧ some k_ ≠ (u215007 : Value).ownBlock) u215006 x215006_2) ∧ Aside0 (Kd.R (Kd.int .i64) 3 w' w.heap.size (fun k_ => some k_ ≠ (u215003 : Value).ownBlock ∧ some k_ ≠ (u215004 : Value).ownBlock ∧ some k_ ≠ (u215005 : Value).ownBlock ∧ some k_ ≠ (u215006 : Value).ownBlock) u215007 x215007_3) ∧ Aside0 (Kd.R k78 78 w' w.heap.size (fun _ => True) u215008 x215008_4) ∧ Aside0 (w'.heap[gb208]? = some (.cells #[.int .i64 0, .int .i64 0, (.slice none 0 0), (.slice none 0 0), (.slice none 0 0), (.slice none 0 0), (.slice none 0 0), (.slice none 0 0), (.slice none 0 0), .int .i64 0] 32 (0, 0))) ∧ Aside0 (w'.heap[gb214]? = some (.cells #[.int .i64 5, .int .i64 3, u215002, u215003, u215004, u215005, u215006, u215007, u215008, .int .i64 t212] 32 (0, 0))) ∧ Aside0 (IsS86 w0 w' g s0_0 x1001_4) ∧ Aside0 (KeepBut w w' g none) ∧ Aside0 (Below w0.heap.size w0 w'))
          case atStart => exact ⟨(t265), (t266), (y262), (.slice Ao83 y262.length co83), (by first | rfl | (simp; done) | (simp [*]; done)), H', ⟨Nat.le_refl _⟩, ⟨by (with_reducible repeat (first | apply Kd.S_alloc | apply Kd.S_drewN | apply Kd.S_drew)); exact HO_215002.out⟩, ⟨rN HO_215003.out⟩, ⟨rN HO_215004.out⟩, ⟨rN HO_215005.out⟩, ⟨rN HO_215006.out⟩, ⟨rN HO_215007.out⟩, ⟨rN HO264.out⟩, ⟨kN BK208.out⟩, ⟨kN BK214.out⟩, ⟨(hI2 HI0.out NB0_208.out NB0_214.out)⟩, ⟨(hK2 HK.out GW208.out GW214.out)⟩, ⟨(hB3 HB.out (IsS86.ge HI0.out) GE208.out GE214.out)⟩⟩
          case round =>
           clear H'
           try clear c1
           try clear c2
           try clear p2
           try clear q2
           try clear hx2
           try clear c4
           try clear c5
           try clear c6
           try clear p6
           try clear c7
           try clear c8
           try clear c14
           try clear c14b0
           try clear c16
           try clear c17
           try clear c18
           try clear c19
           try clear c22
           try clear p22
           try clear q22
           try clear hx22
           try clear c43
           try clear c46
           try clear c50
           try clear c50b0
           try clear c52
           try clear c54
           try clear p64
           try clear c69
           try clear c69b0
           try clear c71
           try clear c84
           try clear c85
           try clear hx227_0
           try clear p2
           try clear p22
           try clear p227
           try clear p6
           try clear p64
           try clear q2
           try clear q22
           try clear q227
           obtain ⟨x7_4, x1001_4, x215008_4, u215008, rfl, HA, HK4, HO_215002, HO_215003, HO_215004, HO_215005, HO_215006, HO_215007, HO_215008, BK208, BK214, HI0, HK, HB⟩ := hrel
           cases gk with
           | zero => exact absurd HA.out (by simp [spec_l15Conf.l3])
           | succ k4 =>
            have H := HA.out
            clear HA
            simp only [spec_l15Conf.l3] at H
            by_cases c88 : x7_4 > 0
            ·rw [if_pos c88] at H
             have c88b0 : decide (0 < x7_4) = true := decide_eq_true c88
             clear c88
             replace H := Option.bind_eq_some_iff.mp H
             obtain ⟨⟨t267, t268, t269, t270, t271, t272, t273⟩, A890, H⟩ := H
             replace H : (if x215008_4.length < 3518437208883 then (spec_l15Conf.l3 k4 (wrap64 (x7_4 - 1)) s0_0 t273 5 3 x215002_1 x215003_1 x215004_1 x215005_2 x215006_2 x215007_3 (x215008_4 ++ [(⟨t267, t268, t269, t270, t271, t272⟩ : S78)]) t212) else (none)) = some (r1, r2, r3, r4, r5, r6, r7, r8, r9, r10, r11) := H
             have A89 := Aside0.mk A890
             clear A890
             by_cases c90 : x215008_4.length < 3518437208883
             ·rw [if_pos c90] at H
              have LMc90 := Aside0.mk c90
              clear c90
              obtain ⟨y274, hy274⟩ : ∃ y_ : List (S78), y_ = (x215008_4 ++ [(⟨t267, t268, t269, t270, t271, t272⟩ : S78)]) := ⟨_, rfl⟩
              replace H : (spec_l15Conf.l3 k4 (wrap64 (x7_4 - 1)) s0_0 t273 5 3 x215002_1 x215003_1 x215004_1 x215005_2 x215006_2 x215007_3 y274 t212) = some (r1, r2, r3, r4, r5, r6, r7, r8, r9, r10, r11) := by first | (rw [hy274]; with_reducible exact H) | (have H2_ := (Option.bind_some _ _).symm.trans H; rw [hy274]; with_reducible exact H2_) | (have H2_ := (Option.bind_some _ _).symm.trans H; with_reducible exact H2_) | with_reducible exact H | (rw [hy274]; exact H) | exact H
              have Ny274 := Aside0.mk hy274
              clear hy274
              have H' := Aside0.mk H
              clear H
              try go_wp2
              have n0_ := m_ (Kd.S_drew HO_215002.out)
              have n1_ := m_ (Kd.R_drew HO_215003.out)
              have n2_ := m_ (Kd.R_drew HO_215004.out)
              have n3_ := m_ (Kd.R_drew HO_215005.out)
              have n4_ := m_ (Kd.R_drew HO_215006.out)
              have n5_ := m_ (Kd.R_drew HO_215007.out)
              have n6_ := m_ (Kd.R_drew HO_215008.out)
              have n7_ := m_ (blk_drew BK208.out)
              have n8_ := m_ (blk_drew BK214.out)
              have n9_ := m_ (IsS86.drew HI0.out)
              have n10_ := m_ (keep_drew HK.out)
              have n11_ := m_ (below_drew1 HB.out)
              clear HO_215002 HO_215003 HO_215004 HO_215005 HO_215006 HO_215007 HO_215008 BK208 BK214 HI0 HK HB
              have HO_215002 := n0_; have HO_215003 := n1_
              have HO_215004 := n2_; have HO_215005 := n3_
              have HO_215006 := n4_; have HO_215007 := n5_
              have HO_215008 := n6_; have BK208 := n7_; have BK214 := n8_
              have HI0 := n9_; have HK := n10_; have HB := n11_
              clear n0_ n1_ n2_ n3_ n4_ n5_ n6_ n7_ n8_ n9_ n10_ n11_
              refine start_ (n := 8) (S := fun w' => w'.cell? ⟨gb214, 0, none⟩ = some (.int .i64 5) ∧ w'.cell? ⟨gb214, 1, none⟩ = some (.int .i64 3) ∧ w'.cell? ⟨gb214, 2, none⟩ = some (u215002) ∧ w'.cell? ⟨gb214, 3, none⟩ = some (u215003) ∧ w'.cell? ⟨gb214, 4, none⟩ = some (u215004) ∧ w'.cell? ⟨gb214, 5, none⟩ = some (u215005) ∧ w'.cell? ⟨gb214, 6, none⟩ = some (u215006) ∧ w'.cell? ⟨gb214, 7, none⟩ = some (u215007) ∧ w'.cell? ⟨gb214, 8, none⟩ = some (u215008) ∧ w'.cell? ⟨gb214, 9, none⟩ = some (.int .i64 t212)) (ds := [7]) #[false, false, false, false, false, false, false, false] (by kernel_rfl) rfl rfl ⟨bc BK214 0, bc BK214 1, bc BK214 2, bc BK214 3, bc BK214 4, bc BK214 5, bc BK214 6, bc BK214 7, bc BK214 8, bc BK214 9⟩ (fun hHeld => ?_); refine with_tabW spec_l15Conf.tab21 spec_l15Conf.bits21 (fun HT_ HW_ => ?_)
              generalize wr.drew = w91 at HO_215002 HO_215003 HO_215004 HO_215005 HO_215006 HO_215007 HO_215008 BK208 BK214 HI0 HK HB hHeld ⊢
              refine pu 0 110 HT_ (h := ?_)
              refine pu 2 112 HT_ (h := ?_)
              refine take_ (i := 1) (N := some 111) (v := ?_) (a' := ?_) #[true, true, true, false, false, false, false, false] rfl rfl (take_ofW HT_.out HW_.out (by kernel_rfl)) (fun _ _ _ h => h) (Or.inl ⟨by rfl, ?_⟩) hHeld ?_ ?_
              rotate_left
              ·rintro w' ⟨s0, s1, s2, s3, s4, s5, s6, s7, s8, s9⟩
               go_simp
               with_reducible rfl
              rotate_left
              ·simp only [Act.put, List.setIfInBounds_toArray, List.set_cons_zero, List.set_cons_succ, i64_w, i32_w]
               rfl
              refine one_ (i := 3) (N := some 113) #[true, true, true, true, false, false, false, false] rfl rfl (one_of HT_.out (by kernel_rfl)) (by decide) (fun K hK => ?_)
              refine goes_ Tryd.func68 (by kernel_rfl) rfl #[.pointer (some ⟨g, 0, none⟩)] (by rfl) rfl rfl gl_ ?_
              with_reducible refine (spec_l15Rule.calls k4 g s0_0 x1001_4 t267 t268 t269 t270 t271 t272 t273 w0 _ ?side1 ?side2 A89.out).mono ?_
              (case side1 => exact hI2 HI0.out NB0_208.out NB0_214.out)
              (case side2 => exact hB3 HB.out (IsS86.ge HI0.out) GE208.out GE214.out)
              rintro e w92 ⟨rfl, hi, hb, hk⟩
              refine ⟨_, rfl, ?_⟩
              have n0_ := m_ (Kd.S_mono (Kd.S_keep (IsS86.apartS (show IsS86 w0 _ g s0_0 x1001_4 from (hI2 HI0.out NB0_208.out NB0_214.out)) (by (with_reducible repeat (first | apply Kd.S_alloc | apply Kd.S_drewN | apply Kd.S_drew)); exact HO_215002.out) (by decide)) hk (fun _ h => h.2)) (fun _ h => h.1))
              have n1_ := m_ (rK (show IsS86 w0 _ g s0_0 x1001_4 from (hI2 HI0.out NB0_208.out NB0_214.out)) (rN HO_215003.out) hk)
              have n2_ := m_ (rK (show IsS86 w0 _ g s0_0 x1001_4 from (hI2 HI0.out NB0_208.out NB0_214.out)) (rN HO_215004.out) hk)
              have n3_ := m_ (rK (show IsS86 w0 _ g s0_0 x1001_4 from (hI2 HI0.out NB0_208.out NB0_214.out)) (rN HO_215005.out) hk)
              have n4_ := m_ (rK (show IsS86 w0 _ g s0_0 x1001_4 from (hI2 HI0.out NB0_208.out NB0_214.out)) (rN HO_215006.out) hk)
              have n5_ := m_ (rK (show IsS86 w0 _ g s0_0 x1001_4 from (hI2 HI0.out NB0_208.out NB0_214.out)) (rN HO_215007.out) hk)
              have n6_ := m_ (rK (show IsS86 w0 _ g s0_0 x1001_4 from (hI2 HI0.out NB0_208.out NB0_214.out)) (rN HO_215008.out) hk)
              have n7_ := m_ (KeepBut.blk hk (g' := gb208) (o := .cells #[.int .i64 0, .int .i64 0, .slice none 0 0, .slice none 0 0, .slice none 0 0, .slice none 0 0, .slice none 0 0, .slice none 0 0, .slice none 0 0, .int .i64 0] 32 (0, 0)) (kN BK208.out) NB208_0.out (by simp))
              have n8_ := m_ (KeepBut.blk hk (g' := gb214) (o := .cells #[.int .i64 5, .int .i64 3, u215002, u215003, u215004, u215005, u215006, u215007, u215008, .int .i64 t212] 32 (0, 0)) (kN BK214.out) NB214_0.out (by simp))
              have n9_ := m_ (KeepBut.trans (hK2 HK.out GW208.out GW214.out) hk (.inl rfl))
              have n10_ := m_ (hb)
              have n11_ := m_ (hi)
              clear HO_215002 HO_215003 HO_215004 HO_215005 HO_215006 HO_215007 HO_215008 BK208 BK214 HK HB HI0
              have HO_215002 := n0_; have HO_215003 := n1_
              have HO_215004 := n2_; have HO_215005 := n3_
              have HO_215006 := n4_; have HO_215007 := n5_
              have HO_215008 := n6_; have BK208 := n7_; have BK214 := n8_
              have HK := n9_; have HB := n10_; have HI0 := n11_
              clear n0_ n1_ n2_ n3_ n4_ n5_ n6_ n7_ n8_ n9_ n10_ n11_
              (try clear hb)
              (try clear hb2)
              (try clear hk)
              (try clear hi)
              refine hK.out _ _ ⟨bc BK214 0, bc BK214 1, bc BK214 2, bc BK214 3, bc BK214 4, bc BK214 5, bc BK214 6, bc BK214 7, bc BK214 8, bc BK214 9⟩ (fun hHeld => ?_)
              clear hK K
              refine np (h := ?_)
              refine one_ (i := 4) (N := some 114) #[true, true, true, true, true, false, false, false] rfl rfl (one_of HT_.out (by kernel_rfl)) (by decide) (fun K hK => ?_)
              refine value_ (w1 := ?_) (v := ?_) (by rfl) rfl ?_ ?_
              rotate_left 2
              ·go_simp
               constructor
               ·rfl
               ·rfl
              refine hK.out _ _ ⟨(blk_cell (blk_alloc BK214.out _) 0).trans rfl, (blk_cell (blk_alloc BK214.out _) 1).trans rfl, (blk_cell (blk_alloc BK214.out _) 2).trans rfl, (blk_cell (blk_alloc BK214.out _) 3).trans rfl, (blk_cell (blk_alloc BK214.out _) 4).trans rfl, (blk_cell (blk_alloc BK214.out _) 5).trans rfl, (blk_cell (blk_alloc BK214.out _) 6).trans rfl, (blk_cell (blk_alloc BK214.out _) 7).trans rfl, (blk_cell (blk_alloc BK214.out _) 8).trans rfl, (blk_cell (blk_alloc BK214.out _) 9).trans rfl⟩ (fun hHeld => ?_)
              clear hK K
              refine np (h := ?_)
              refine one_ (i := 5) (N := some 115) #[true, true, true, true, true, true, false, false] rfl rfl (one_of HT_.out (by kernel_rfl)) (by decide) (fun K hK => ?_)
              refine Kd.R_append_step k78 w.heap.size (by rfl) (.tmp 111) (.tmp 114) 30 78 (.agg #[(.int .i64 0), (.int .i64 0), (.int .i64 0), (.int .i64 0), (.bool false), (.bool false)]) 40 rfl Tryd.underlying30 info78 rfl (by decide) (by omega) u215008 x215008_4 (⟨t267, t268, t269, t270, t271, t272⟩ : S78) [.int .i64 t267, .int .i64 t268, .int .i64 t269, .int .i64 t270, .bool t271, .bool t272] (fun _ => True) (fun _ => False) rfl rfl ?aP (fun _ hk => hk.elim) ?aF ?aO (Below.refl _ _) ?aS ?aL ?_
              (case aP => exact k78_mkM _ _ _ (⟨t267, t268, t269, t270, t271, t272⟩ : S78))
              (case aF => exact (fun _ _ => trivial))
              (case aO => exact (rN HO_215008.out))
              (case aS => exact (keep_size (w := w) (g := g) (row := none) (hK2 HK.out GW208.out GW214.out)))
              (case aL => have := LMc90.out; omega)
              intro v275 w93 ho hb hg hat
              rw [← Ny274.out] at ho
              have n0_ := m_ (Kd.S_over' (by (with_reducible repeat (first | apply Kd.S_alloc | apply Kd.S_drewN | apply Kd.S_drew)); exact HO_215002.out) (Kd.R_typed (rN HO_215008.out)) (by decide) hg)
              have n1_ := m_ (Kd.R_over' (rN HO_215003.out) (Kd.R_typed (rN HO_215008.out)) (by decide) hg)
              have n2_ := m_ (Kd.R_over' (rN HO_215004.out) (Kd.R_typed (rN HO_215008.out)) (by decide) hg)
              have n3_ := m_ (Kd.R_over' (rN HO_215005.out) (Kd.R_typed (rN HO_215008.out)) (by decide) hg)
              have n4_ := m_ (Kd.R_over' (rN HO_215006.out) (Kd.R_typed (rN HO_215008.out)) (by decide) hg)
              have n5_ := m_ (Kd.R_over' (rN HO_215007.out) (Kd.R_typed (rN HO_215008.out)) (by decide) hg)
              have n6_ := m_ (blk_grown (g := gb208) (o := .cells #[.int .i64 0, .int .i64 0, .slice none 0 0, .slice none 0 0, .slice none 0 0, .slice none 0 0, .slice none 0 0, .slice none 0 0, .slice none 0 0, .int .i64 0] 32 (0, 0)) (kN BK208.out) hg (Kd.R_ne HO_215008.out BK208.out (by decide)))
              have n7_ := m_ (blk_grown (g := gb214) (o := .cells #[.int .i64 5, .int .i64 3, u215002, u215003, u215004, u215005, u215006, u215007, u215008, .int .i64 t212] 32 (0, 0)) (kN BK214.out) hg (Kd.R_ne HO_215008.out BK214.out (by decide)))
              have n8_ := m_ (IsS86.grown ((hI2 HI0.out NB0_208.out NB0_214.out)) hg (IsS86.own_ne HI0.out HO_215008.out (by decide)))
              have n9_ := m_ (below_weaken ((hB3 HB.out (IsS86.ge HI0.out) GE208.out GE214.out)) HL.out hb)
              have n10_ := m_ (KeepBut.trans (hK2 HK.out GW208.out GW214.out) (KeepBut.of_grown hg g) (Kd.R_base2 HO_215008.out))
              have n11_ := m_ (ho)
              clear HO_215002 HO_215003 HO_215004 HO_215005 HO_215006 HO_215007 BK208 BK214 HI0 HB HK HO_215008
              have HO_215002 := n0_; have HO_215003 := n1_
              have HO_215004 := n2_; have HO_215005 := n3_
              have HO_215006 := n4_; have HO_215007 := n5_; have BK208 := n6_; have BK214 := n7_
              have HI0 := n8_; have HB := n9_
              have HK := n10_; have HO276 := n11_
              clear n0_ n1_ n2_ n3_ n4_ n5_ n6_ n7_ n8_ n9_ n10_ n11_ ho hb hg hat
              obtain ⟨Ao94, co94, eo94⟩ := Kd.R_slice HO276.out
              (first | subst eo94 | (injection eo94 with f1_ f2_ f3_; have f4_ := f1_.symm; have f5_ := f3_.symm; clear f1_ f2_ f3_; subst f4_; subst f5_))
              refine hK.out _ _ ⟨bc BK214 0, bc BK214 1, bc BK214 2, bc BK214 3, bc BK214 4, bc BK214 5, bc BK214 6, bc BK214 7, bc BK214 8, bc BK214 9⟩ (fun hHeld => ?_)
              clear hK K
              refine np (h := ?_)
              refine pu 6 116 HT_ (h := ?_)
              refine last_ (i := 7) (N := none) #[true, true, true, true, true, true, true, true] rfl rfl (one_of HT_.out (by kernel_rfl)) (by decide) (fun K hK => ?_)
              have hs95 : w93.cell? ⟨gb214, 8, none⟩ = some (u215008) := bc BK214 8
              have hfs95 := blk_frozen BK214.out 8
              have hns95_0 := NB208_214.out
              have hms95_0 := NB214_208.out
              refine skip_ (w1 := ?_) (by rfl) rfl ?_ ?_
              rotate_left
              ·go_simp
               rfl
              refine hK.out _ _ ?_
              clear hK K
              refine done_ (done_of HT_.out (by kernel_rfl)) ?_
              try go_wp2
              go_roundg k4
              case measure => have := HK1.out; have := HK2.out; have := HK3.out; have := HK4.out; omega
              case rel => exact ⟨(wrap64 (x7_4 - 1)), (t273), (y274), (.slice Ao94 y274.length co94), (by first | rfl | (simp; done) | (simp [*]; done)), H', ⟨by have := HK1.out; have := HK2.out; have := HK3.out; have := HK4.out; omega⟩, ⟨by (with_reducible repeat (first | apply Kd.S_alloc | apply Kd.S_drewN | apply Kd.S_drew)); exact Kd.S_mono (Kd.S_far (p := ⟨gb214, 8, none⟩) (Kd.S_types HO_215002.out BK214.out (by decide)) (fun _ hk => hk.2) (.slice Ao94 y274.length co94)) (fun _ hk => trivial)⟩, ⟨frM (Kd.R_types HO_215003.out BK214.out (by decide))⟩, ⟨frM (Kd.R_types HO_215004.out BK214.out (by decide))⟩, ⟨frM (Kd.R_types HO_215005.out BK214.out (by decide))⟩, ⟨frM (Kd.R_types HO_215006.out BK214.out (by decide))⟩, ⟨frM (Kd.R_types HO_215007.out BK214.out (by decide))⟩, ⟨frM (Kd.R_types HO276.out BK214.out (by decide))⟩, ⟨kF BK208.out NB208_214.out⟩, ⟨kP BK214.out⟩, ⟨(hI2 HI0.out NB0_208.out NB0_214.out)⟩, ⟨(hK2 HK.out GW208.out GW214.out)⟩, ⟨(hB3 HB.out (IsS86.ge HI0.out) GE208.out GE214.out)⟩⟩
             ·rw [if_neg c90] at H
              exact absurd H (by simp)
            ·rw [if_neg c88] at H
             have c88b0 : decide (0 < x7_4) = false := decide_eq_false c88
             clear c88
             simp only [Option.some.injEq, Prod.mk.injEq] at H
             obtain ⟨rfl, rfl, rfl, rfl, rfl, rfl, rfl, rfl, rfl, rfl, rfl⟩ := H
             have hnb96 := NB214_208.out
             have hnc96 := NB208_214.out
             have hnb97 := NB214_0.out
             have hnc97 := NB0_214.out
             obtain ⟨⟨hcz98_0, hcz98_1, hcz98_2, hcz98_3, hcz98_4, hcz98_5, hcz98_6, hcz98_7, hcz98_8, hcz98_9⟩, hfz98_0, hfz98_1, hfz98_2, hfz98_3, hfz98_4, hfz98_5, hfz98_6, hfz98_7, hfz98_8, hfz98_9⟩ := row10 BK214.out
             have hnb99 := NB208_0.out
             have hnc99 := NB0_208.out
             obtain ⟨⟨hcz100_0, hcz100_1, hcz100_2, hcz100_3, hcz100_4, hcz100_5, hcz100_6, hcz100_7, hcz100_8, hcz100_9⟩, hfz100_0, hfz100_1, hfz100_2, hfz100_3, hfz100_4, hfz100_5, hfz100_6, hfz100_7, hfz100_8, hfz100_9⟩ := row10 BK208.out
             obtain ⟨Ao101, co101, eo101⟩ := Kd.S_slice HO_215002.out
             subst eo101
             obtain ⟨Ao102, co102, eo102⟩ := Kd.R_slice HO_215003.out
             subst eo102
             obtain ⟨Ao103, co103, eo103⟩ := Kd.R_slice HO_215004.out
             subst eo103
             obtain ⟨Ao104, co104, eo104⟩ := Kd.R_slice HO_215005.out
             subst eo104
             obtain ⟨Ao105, co105, eo105⟩ := Kd.R_slice HO_215006.out
             subst eo105
             obtain ⟨Ao106, co106, eo106⟩ := Kd.R_slice HO_215007.out
             subst eo106
             obtain ⟨Ao107, co107, eo107⟩ := Kd.R_slice HO_215008.out
             subst eo107
             go_wp2
             refine bodyPost_ret (results_cell_row rfl _ _ gb208 32 #[.int .i64 5, .int .i64 3, .slice Ao101 x215002_1.length co101, .slice Ao102 x215003_1.length co102, .slice Ao103 x215004_1.length co103, .slice Ao104 x215005_2.length co104, .slice Ao105 x215006_2.length co105, .slice Ao106 x215007_3.length co106, .slice Ao107 x215008_4.length co107, .int .i64 t212] (0, 0) _ rfl (by (with_reducible repeat (first | refine blk_drewN ?_ _ | refine blk_drew ?_ | refine blk_alloc ?_ _)); apply put10; (with_reducible repeat (first | refine blk_drewN ?_ _ | refine blk_drew ?_ | refine blk_alloc ?_ _)); exact BK208.out) Tryd.underlying32 rfl (by kernel_rfl)) rfl ?_
             exact ⟨_, _, _, _, _, _, _, rf_, by (with_reducible repeat (first | apply Kd.S_alloc | apply Kd.S_drewN | apply Kd.S_drew)); exact Kd.S_mono (Kd.S_far (p := ⟨gb208, 9, none⟩) (Kd.S_far (p := ⟨gb208, 8, none⟩) (Kd.S_far (p := ⟨gb208, 7, none⟩) (Kd.S_far (p := ⟨gb208, 6, none⟩) (Kd.S_far (p := ⟨gb208, 5, none⟩) (Kd.S_far (p := ⟨gb208, 4, none⟩) (Kd.S_far (p := ⟨gb208, 3, none⟩) (Kd.S_far (p := ⟨gb208, 2, none⟩) (Kd.S_far (p := ⟨gb208, 1, none⟩) (Kd.S_far (p := ⟨gb208, 0, none⟩) (Kd.S_types HO_215002.out BK208.out (by decide)) (fun _ hk => hk.2) (.int .i64 5)) (fun _ hk => hk.2) (.int .i64 3)) (fun _ hk => hk.2) (.slice Ao101 x215002_1.length co101)) (fun _ hk => hk.2) (.slice Ao102 x215003_1.length co102)) (fun _ hk => hk.2) (.slice Ao103 x215004_1.length co103)) (fun _ hk => hk.2) (.slice Ao104 x215005_2.length co104)) (fun _ hk => hk.2) (.slice Ao105 x215006_2.length co105)) (fun _ hk => hk.2) (.slice Ao106 x215007_3.length co106)) (fun _ hk => hk.2) (.slice Ao107 x215008_4.length co107)) (fun _ hk => hk.2) (.int .i64 t212)) (fun _ hk => trivial), frM (Kd.R_types HO_215003.out BK208.out (by decide)), frM (Kd.R_types HO_215004.out BK208.out (by decide)), frM (Kd.R_types HO_215005.out BK208.out (by decide)), frM (Kd.R_types HO_215006.out BK208.out (by decide)), frM (Kd.R_types HO_215007.out BK208.out (by decide)), frM (Kd.R_types HO_215008.out BK208.out (by decide)), (hI2 HI0.out NB0_208.out NB0_214.out), (hB3 HB.out (IsS86.ge HI0.out) GE208.out GE214.out), (hK2 HK.out GW208.out GW214.out)⟩

end Go.Proofs.YtcenmlpfbpogoaaDoor.P
