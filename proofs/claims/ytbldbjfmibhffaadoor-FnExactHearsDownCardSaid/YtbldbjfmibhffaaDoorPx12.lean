/- The machine side of these statements, function by function: what each Go function answers (as a Lean function), and that it does. Written by a program (mp.py) for this claim. -/
import Derived.Test.YtbldbjfmibhffaaDoorPx0
import Derived.Test.YtbldbjfmibhffaaDoorPx2
import Derived.Test.YtbldbjfmibhffaaDoorPx5
import Derived.Test.YtbldbjfmibhffaaDoorPx10
import Derived.Test.YtbldbjfmibhffaaDoorPx11
namespace Go.Proofs.YtbldbjfmibhffaaDoor.P
open Go.RowKit Go.Proofs.YtbldbjfmibhffaaDoorW.PrintWords Go.Proofs.YtbldbjfmibhffaaDoorW.PrintLast Go.Proofs.YtbldbjfmibhffaaDoorW.PrintMore
attribute [local go_sem] max2_int min2_int max_two min_two max_three min_three max_four min_four   -- for this text's walks alone
set_option linter.unusedVariables false
set_option linter.unusedSimpArgs false

/-! ### laws_FnExactHearsDown: function 3 -/
mutual
def laws_FnExactHearsDown.j0 : Nat → List ByteArray → List ByteArray → Bool → Int → Bool → ByteArray → Int → Int → Int → Int → Int → ByteArray → ByteArray → Int → Bool → ByteArray → Option (Bool)
 | 0, _, _, _, _, _, _, _, _, _, _, _, _, _, _, _, _ => none
 | k + 1, x7, x9, x49, x317000, x317001, x317002, x318000, x318001, x318002, x318003, x318004, x318005, x318006, x337000, x337001, x337002 => if x49 = true then (some false) else ((laws_markStringS.f k x9 1).bind fun bt356 => ((laws_heldStringS.f k bt356.2 1).bind fun t358 => (if t358 < 0 then (some false) else (if t358 = bt356.1 then ((laws_toHears.f x317000 x317001 x317002).bind fun bt359 => ((laws_toDown.f x318000 x318001 x318002 x318003 x318004 x318005 x318006).bind fun bt362 => ((impl_HearsDown.f k bt359.1 bt359.2.1 bt359.2.2 bt362.1 bt362.2.1 bt362.2.2.1 bt362.2.2.2.1 bt362.2.2.2.2.1 bt362.2.2.2.2.2.1 bt362.2.2.2.2.2.2).bind fun bt369 => ((laws_eqHears.f bt369.1 bt369.2.1 bt369.2.2.1 x337000 x337001 x337002).bind fun t376 => (if t376 = true then ((laws_eqStringS.f k bt369.2.2.2 x7).bind fun t377 => (laws_FnExactHearsDown.j1 k bt356.2 bt356.1 (!t377))) else (laws_FnExactHearsDown.j1 k bt356.2 bt356.1 true)))))) else (some false)))))
def laws_FnExactHearsDown.j1 : Nat → List ByteArray → Int → Bool → Option (Bool)
 | 0, _, _, _ => none
 | k + 1, x9, x10, x78 => if x78 = true then (some false) else ((laws_heldStringS.f k x9 1).bind fun t378 => (if t378 < 0 then (some false) else (if t378 = x10 then (some true) else (some false))))
end
def laws_FnExactHearsDown.f (k : Nat) (a0_0 : Int) (a0_1 : Bool) (a0_2 : ByteArray) (a1_0 : Int) (a1_1 : Int) (a1_2 : Int) (a1_3 : Int) (a1_4 : Int) (a1_5 : ByteArray) (a1_6 : ByteArray) : Option (Bool) := (laws_szHears.f a0_0 a0_1 a0_2 1048576).bind fun t318 => (if t318 < 0 then (some true) else ((laws_szDown.f a1_0 a1_1 a1_2 a1_3 a1_4 a1_5 a1_6 t318).bind fun t319 => (if t319 < 0 then (some true) else ((laws_toHears.f a0_0 a0_1 a0_2).bind fun bt320 => ((laws_toDown.f a1_0 a1_1 a1_2 a1_3 a1_4 a1_5 a1_6).bind fun bt323 => ((spec_HearsDown.f k bt320.1 bt320.2.1 bt320.2.2 bt323.1 bt323.2.1 bt323.2.2.1 bt323.2.2.2.1 bt323.2.2.2.2.1 bt323.2.2.2.2.2.1 bt323.2.2.2.2.2.2).bind fun bt330 => ((laws_toHears.f a0_0 a0_1 a0_2).bind fun bt337 => ((laws_toDown.f a1_0 a1_1 a1_2 a1_3 a1_4 a1_5 a1_6).bind fun bt340 => ((impl_HearsDown.f k bt337.1 bt337.2.1 bt337.2.2 bt340.1 bt340.2.1 bt340.2.2.1 bt340.2.2.2.1 bt340.2.2.2.2.1 bt340.2.2.2.2.2.1 bt340.2.2.2.2.2.2).bind fun bt347 => ((laws_eqHears.f bt347.1 bt347.2.1 bt347.2.2.1 bt330.1 bt330.2.1 bt330.2.2.1).bind fun t354 => (if t354 = true then ((laws_eqStringS.f k bt347.2.2.2 bt330.2.2.2).bind fun t355 => (laws_FnExactHearsDown.j0 k bt330.2.2.2 bt347.2.2.2 (!t355) a0_0 a0_1 a0_2 a1_0 a1_1 a1_2 a1_3 a1_4 a1_5 a1_6 bt330.1 bt330.2.1 bt330.2.2.1)) else (laws_FnExactHearsDown.j0 k bt330.2.2.2 bt347.2.2.2 true a0_0 a0_1 a0_2 a1_0 a1_1 a1_2 a1_3 a1_4 a1_5 a1_6 bt330.1 bt330.2.1 bt330.2.2.1))))))))))))
theorem laws_FnExactHearsDown.mono_l : ∀ k, (∀ y0 y1 y2 y3 y4 y5 y6 y7 y8 y9 y10 y11 y12 y13 y14 y15, LeO (laws_FnExactHearsDown.j0 k y0 y1 y2 y3 y4 y5 y6 y7 y8 y9 y10 y11 y12 y13 y14 y15) (laws_FnExactHearsDown.j0 (k + 1) y0 y1 y2 y3 y4 y5 y6 y7 y8 y9 y10 y11 y12 y13 y14 y15)) ∧ (∀ y0 y1 y2, LeO (laws_FnExactHearsDown.j1 k y0 y1 y2) (laws_FnExactHearsDown.j1 (k + 1) y0 y1 y2))
 | 0 => ⟨fun _ _ _ _ _ _ _ _ _ _ _ _ _ _ _ _ r h => by simp [laws_FnExactHearsDown.j0] at h, fun _ _ _ r h => by simp [laws_FnExactHearsDown.j1] at h⟩
 | k + 1 => by
  obtain ⟨ih0, ih1⟩ := laws_FnExactHearsDown.mono_l k
  refine ⟨?_, ?_⟩
  ·intro y0 y1 y2 y3 y4 y5 y6 y7 y8 y9 y10 y11 y12 y13 y14 y15
   unfold laws_FnExactHearsDown.j0
   repeat' first
   | (with_reducible exact ih0 _ _ _ _ _ _ _ _ _ _ _ _ _ _ _ _)
   | (with_reducible exact ih1 _ _ _)
   | (with_reducible exact impl_HearsDown.mono _ _ _ _ _ _ _ _ _ _ _)
   | (with_reducible exact laws_eqStringS.mono _ _ _)
   | (with_reducible exact laws_heldStringS.mono _ _ _)
   | (with_reducible exact laws_markStringS.mono _ _ _)
   | (with_reducible exact spec_HearsDown.mono _ _ _ _ _ _ _ _ _ _ _)
   | (with_reducible exact LeO.refl _)
   | (with_reducible exact LeO.none _)
   | (with_reducible refine LeO.ite ?_ ?_)
   | (with_reducible refine LeO.bind ?_ (fun _ => ?_))
   | exact ih0 _ _ _ _ _ _ _ _ _ _ _ _ _ _ _ _
   | exact ih1 _ _ _
   | exact impl_HearsDown.mono _ _ _ _ _ _ _ _ _ _ _
   | exact laws_eqStringS.mono _ _ _
   | exact laws_heldStringS.mono _ _ _
   | exact laws_markStringS.mono _ _ _
   | exact spec_HearsDown.mono _ _ _ _ _ _ _ _ _ _ _
   | exact LeO.none _
   | refine LeO.ite ?_ ?_
   | refine LeO.bind ?_ (fun _ => ?_)
  ·intro y0 y1 y2
   unfold laws_FnExactHearsDown.j1
   repeat' first
   | (with_reducible exact ih0 _ _ _ _ _ _ _ _ _ _ _ _ _ _ _ _)
   | (with_reducible exact ih1 _ _ _)
   | (with_reducible exact impl_HearsDown.mono _ _ _ _ _ _ _ _ _ _ _)
   | (with_reducible exact laws_eqStringS.mono _ _ _)
   | (with_reducible exact laws_heldStringS.mono _ _ _)
   | (with_reducible exact laws_markStringS.mono _ _ _)
   | (with_reducible exact spec_HearsDown.mono _ _ _ _ _ _ _ _ _ _ _)
   | (with_reducible exact LeO.refl _)
   | (with_reducible exact LeO.none _)
   | (with_reducible refine LeO.ite ?_ ?_)
   | (with_reducible refine LeO.bind ?_ (fun _ => ?_))
   | exact ih0 _ _ _ _ _ _ _ _ _ _ _ _ _ _ _ _
   | exact ih1 _ _ _
   | exact impl_HearsDown.mono _ _ _ _ _ _ _ _ _ _ _
   | exact laws_eqStringS.mono _ _ _
   | exact laws_heldStringS.mono _ _ _
   | exact laws_markStringS.mono _ _ _
   | exact spec_HearsDown.mono _ _ _ _ _ _ _ _ _ _ _
   | exact LeO.none _
   | refine LeO.ite ?_ ?_
   | refine LeO.bind ?_ (fun _ => ?_)
theorem laws_FnExactHearsDown.mono : ∀ a0 a1 a2 a3 a4 a5 a6 a7 a8 a9 k, LeO (laws_FnExactHearsDown.f k a0 a1 a2 a3 a4 a5 a6 a7 a8 a9) (laws_FnExactHearsDown.f (k + 1) a0 a1 a2 a3 a4 a5 a6 a7 a8 a9) := by
 intro a0 a1 a2 a3 a4 a5 a6 a7 a8 a9 k
 obtain ⟨ih0, ih1⟩ := laws_FnExactHearsDown.mono_l k
 unfold laws_FnExactHearsDown.f
 repeat' first
   | (with_reducible exact ih0 _ _ _ _ _ _ _ _ _ _ _ _ _ _ _ _)
   | (with_reducible exact ih1 _ _ _)
   | (with_reducible exact impl_HearsDown.mono _ _ _ _ _ _ _ _ _ _ _)
   | (with_reducible exact laws_eqStringS.mono _ _ _)
   | (with_reducible exact laws_heldStringS.mono _ _ _)
   | (with_reducible exact laws_markStringS.mono _ _ _)
   | (with_reducible exact spec_HearsDown.mono _ _ _ _ _ _ _ _ _ _ _)
   | (with_reducible exact LeO.refl _)
   | (with_reducible exact LeO.none _)
   | (with_reducible refine LeO.ite ?_ ?_)
   | (with_reducible refine LeO.bind ?_ (fun _ => ?_))
   | exact ih0 _ _ _ _ _ _ _ _ _ _ _ _ _ _ _ _
   | exact ih1 _ _ _
   | exact impl_HearsDown.mono _ _ _ _ _ _ _ _ _ _ _
   | exact laws_eqStringS.mono _ _ _
   | exact laws_heldStringS.mono _ _ _
   | exact laws_markStringS.mono _ _ _
   | exact spec_HearsDown.mono _ _ _ _ _ _ _ _ _ _ _
   | exact LeO.none _
   | refine LeO.ite ?_ ?_
   | refine LeO.bind ?_ (fun _ => ?_)
def laws_FnExactHearsDown.T8 : Bool × List (List Nat × List Nat) := (true, [([], []), ([0], [0]), ([], []), ([2, 1], [2]), ([1, 3, 3], [1, 3]), ([4], [4]), ([5], [5]), ([5], [5]), ([], []), ([8, 6, 4, 0, 1, 2, 3, 4, 5, 6, 8], [6, 8]), ([7, 9, 0, 1, 2, 3, 4, 5, 6, 7, 8, 9], [7])])
def laws_FnExactHearsDown.B8 : List Nat := [0, 1, 0, 7, 15, 31, 63, 63, 0, 383, 1023]
theorem laws_FnExactHearsDown.tab8 : rtab .any (opsOf Tryd.f3 8) = laws_FnExactHearsDown.T8 := by kernel_rfl
theorem laws_FnExactHearsDown.bits8 : waitsOk laws_FnExactHearsDown.T8.2 laws_FnExactHearsDown.B8 = true := by kernel_rfl
def laws_FnExactHearsDown.T9 : Bool × List (List Nat × List Nat) := (true, [([], []), ([0], [0]), ([], []), ([2, 1], [2]), ([1, 3, 3], [1, 3]), ([4], [4]), ([5], [5]), ([5], [5]), ([], []), ([8, 6, 4, 0, 1, 2, 3, 4, 5, 6, 8], [6, 8]), ([7, 9, 0, 1, 2, 3, 4, 5, 6, 7, 8, 9], [7])])
def laws_FnExactHearsDown.B9 : List Nat := [0, 1, 0, 7, 15, 31, 63, 63, 0, 383, 1023]
theorem laws_FnExactHearsDown.tab9 : rtab .any (opsOf Tryd.f3 9) = laws_FnExactHearsDown.T9 := by kernel_rfl
theorem laws_FnExactHearsDown.bits9 : waitsOk laws_FnExactHearsDown.T9.2 laws_FnExactHearsDown.B9 = true := by kernel_rfl
def laws_FnExactHearsDown.T20 : Bool × List (List Nat × List Nat) := (true, [([], []), ([0], [0]), ([], []), ([2, 1], [2]), ([1, 3, 3], [1, 3]), ([4], [4]), ([5], [5]), ([5], [5]), ([], []), ([8, 6, 4, 0, 1, 2, 3, 4, 5, 6, 8], [6, 8]), ([7, 9, 0, 1, 2, 3, 4, 5, 6, 7, 8, 9], [7])])
def laws_FnExactHearsDown.B20 : List Nat := [0, 1, 0, 7, 15, 31, 63, 63, 0, 383, 1023]
theorem laws_FnExactHearsDown.tab20 : rtab .any (opsOf Tryd.f3 20) = laws_FnExactHearsDown.T20 := by kernel_rfl
theorem laws_FnExactHearsDown.bits20 : waitsOk laws_FnExactHearsDown.T20.2 laws_FnExactHearsDown.B20 = true := by kernel_rfl
set_option maxHeartbeats 8000000 in
set_option maxRecDepth 100000 in
theorem laws_FnExactHearsDown.calls (k : Nat) (a0_0 : Int) (a0_1 : Bool) (a0_2 : ByteArray) (a1_0 : Int) (a1_1 : Int) (a1_2 : Int) (a1_3 : Int) (a1_4 : Int) (a1_5 : ByteArray) (a1_6 : ByteArray) (r : Bool) (w : World) (h : laws_FnExactHearsDown.f k a0_0 a0_1 a0_2 a1_0 a1_1 a1_2 a1_3 a1_4 a1_5 a1_6 = some r) :
  Calls Tryd.prog 3 #[.agg #[.int .i64 a0_0, .bool a0_1, .string a0_2], .agg #[.int .i64 a1_0, .int .i64 a1_1, .int .i64 a1_2, .int .i64 a1_3, .int .i64 a1_4, .string a1_5, .string a1_6]] w fun e w' => e = .returned (.bool r) ∧ Below w.heap.size w w' := by
 have hu23 := Tryd.underlying23
 have hu25 := Tryd.underlying25
 have hu28 := Tryd.underlying28
 have HB := m_ (Below.refl w.heap.size w)
 have H : ((laws_szHears.f a0_0 a0_1 a0_2 1048576).bind fun t318 => (if t318 < 0 then (some true) else ((laws_szDown.f a1_0 a1_1 a1_2 a1_3 a1_4 a1_5 a1_6 t318).bind fun t319 => (if t319 < 0 then (some true) else ((laws_toHears.f a0_0 a0_1 a0_2).bind fun bt320 => ((laws_toDown.f a1_0 a1_1 a1_2 a1_3 a1_4 a1_5 a1_6).bind fun bt323 => ((spec_HearsDown.f k bt320.1 bt320.2.1 bt320.2.2 bt323.1 bt323.2.1 bt323.2.2.1 bt323.2.2.2.1 bt323.2.2.2.2.1 bt323.2.2.2.2.2.1 bt323.2.2.2.2.2.2).bind fun bt330 => ((laws_toHears.f a0_0 a0_1 a0_2).bind fun bt337 => ((laws_toDown.f a1_0 a1_1 a1_2 a1_3 a1_4 a1_5 a1_6).bind fun bt340 => ((impl_HearsDown.f k bt337.1 bt337.2.1 bt337.2.2 bt340.1 bt340.2.1 bt340.2.2.1 bt340.2.2.2.1 bt340.2.2.2.2.1 bt340.2.2.2.2.2.1 bt340.2.2.2.2.2.2).bind fun bt347 => ((laws_eqHears.f bt347.1 bt347.2.1 bt347.2.2.1 bt330.1 bt330.2.1 bt330.2.2.1).bind fun t354 => (if t354 = true then ((laws_eqStringS.f k bt347.2.2.2 bt330.2.2.2).bind fun t355 => (laws_FnExactHearsDown.j0 k bt330.2.2.2 bt347.2.2.2 (!t355) a0_0 a0_1 a0_2 a1_0 a1_1 a1_2 a1_3 a1_4 a1_5 a1_6 bt330.1 bt330.2.1 bt330.2.2.1)) else (laws_FnExactHearsDown.j0 k bt330.2.2.2 bt347.2.2.2 true a0_0 a0_1 a0_2 a1_0 a1_1 a1_2 a1_3 a1_4 a1_5 a1_6 bt330.1 bt330.2.1 bt330.2.2.1))))))))))))) = some r := h
 clear h
 replace H := Option.bind_eq_some_iff.mp H
 obtain ⟨t318, A30, H⟩ := H
 replace H : (if t318 < 0 then (some true) else ((laws_szDown.f a1_0 a1_1 a1_2 a1_3 a1_4 a1_5 a1_6 t318).bind fun t319 => (if t319 < 0 then (some true) else ((laws_toHears.f a0_0 a0_1 a0_2).bind fun bt320 => ((laws_toDown.f a1_0 a1_1 a1_2 a1_3 a1_4 a1_5 a1_6).bind fun bt323 => ((spec_HearsDown.f k bt320.1 bt320.2.1 bt320.2.2 bt323.1 bt323.2.1 bt323.2.2.1 bt323.2.2.2.1 bt323.2.2.2.2.1 bt323.2.2.2.2.2.1 bt323.2.2.2.2.2.2).bind fun bt330 => ((laws_toHears.f a0_0 a0_1 a0_2).bind fun bt337 => ((laws_toDown.f a1_0 a1_1 a1_2 a1_3 a1_4 a1_5 a1_6).bind fun bt340 => ((impl_HearsDown.f k bt337.1 bt337.2.1 bt337.2.2 bt340.1 bt340.2.1 bt340.2.2.1 bt340.2.2.2.1 bt340.2.2.2.2.1 bt340.2.2.2.2.2.1 bt340.2.2.2.2.2.2).bind fun bt347 => ((laws_eqHears.f bt347.1 bt347.2.1 bt347.2.2.1 bt330.1 bt330.2.1 bt330.2.2.1).bind fun t354 => (if t354 = true then ((laws_eqStringS.f k bt347.2.2.2 bt330.2.2.2).bind fun t355 => (laws_FnExactHearsDown.j0 k bt330.2.2.2 bt347.2.2.2 (!t355) a0_0 a0_1 a0_2 a1_0 a1_1 a1_2 a1_3 a1_4 a1_5 a1_6 bt330.1 bt330.2.1 bt330.2.2.1)) else (laws_FnExactHearsDown.j0 k bt330.2.2.2 bt347.2.2.2 true a0_0 a0_1 a0_2 a1_0 a1_1 a1_2 a1_3 a1_4 a1_5 a1_6 bt330.1 bt330.2.1 bt330.2.2.1)))))))))))) = some r := H
 have A3 := Aside0.mk A30
 clear A30
 by_cases c4 : t318 < 0
 ·rw [if_pos c4] at H
  have c4b0 : decide (t318 < 0) = true := decide_eq_true c4
  clear c4
  obtain rfl := Option.some.inj H
  go_enter Tryd.func3, Tryd.ntmps3
  go_wp2_with (first | ((with_reducible refine gate_dst (N := 2) rfl ?_); refine box_event ?hg (N := 2) ?hd (cs := #[.int .i64 a0_0, .bool a0_1, .string a0_2]) (t := 23) ?hr ?_; (case hd => rfl); (case hg => rfl); (case hr => first | (go_simp; done) | (go_simp; rfl)); intro gb316 hg w5 hbox hb; have n0_ := m_ (below_step (bN HB.out) hb); have n1_ := m_ (hbox); have n2_ := m_ ((by rw [hg]; exact (below_size (bN HB.out)) : w.heap.size ≤ gb316)); have n3_ := m_ ((by rw [hg]; exact (below_size (bN HB.out)) : w.heap.size ≤ gb316)); clear HB; have HB := n0_; have BK316 := n1_; have GW316 := n2_; have GE316 := n3_; clear n0_ n1_ n2_ n3_; clear hb hbox hg) | ((with_reducible refine gate_dst (N := 3) rfl ?_); refine box_event ?hg (N := 3) ?hd (cs := #[.int .i64 a1_0, .int .i64 a1_1, .int .i64 a1_2, .int .i64 a1_3, .int .i64 a1_4, .string a1_5, .string a1_6]) (t := 25) ?hr ?_; (case hd => rfl); (case hg => rfl); (case hr => first | (go_simp; done) | (go_simp; rfl)); intro gb317 hg w6 hbox hb; have n0_ := m_ (blk_below (kN BK316.out) hb); have n1_ := m_ (below_step (bN HB.out) hb); have n2_ := m_ (hbox); have n3_ := m_ ((by rw [hg]; exact (below_size (bN HB.out)) : w.heap.size ≤ gb317)); have n4_ := m_ ((by rw [hg]; exact (below_size (bN HB.out)) : w.heap.size ≤ gb317)); have n5_ := m_ (nL hg BK316.out); have n6_ := m_ (nG hg BK316.out); clear BK316; clear HB; have BK316 := n0_; have HB := n1_; have BK317 := n2_; have GW317 := n3_; have GE317 := n4_; have NB316_317 := n5_; have NB317_316 := n6_; clear n0_ n1_ n2_ n3_ n4_ n5_ n6_; clear hb hbox hg; have hnb7 := NB316_317.out; have hnc7 := NB317_316.out; have hcz8_0 : w6.cell? ⟨gb316, 0, none⟩ = some (.int .i64 a0_0) := bc BK316 0; have hcz8_1 : w6.cell? ⟨gb316, 1, none⟩ = some (.bool a0_1) := bc BK316 1; have hcz8_2 : w6.cell? ⟨gb316, 2, none⟩ = some (.string a0_2) := bc BK316 2; have hfz8_0 := blk_frozen BK316.out 0; have hfz8_1 := blk_frozen BK316.out 1; have hfz8_2 := blk_frozen BK316.out 2) | ((with_reducible refine gate_callee (f := 4) rfl ?_); refine goesL_ (some 16) rfl rfl Tryd.func4 (by kernel_rfl) rfl #[.agg #[.int .i64 a0_0, .bool a0_1, .string a0_2], .int .i64 1048576] rfl gl_ ?_; (with_reducible refine (laws_szHears.calls a0_0 a0_1 a0_2 1048576 t318 _ A3.out).mono ?_); rintro e w9 ⟨rfl, hb⟩; refine ⟨_, rfl, ?_⟩; have n0_ := m_ (blk_below (kN BK316.out) hb); have n1_ := m_ (blk_below (kN BK317.out) hb); have n2_ := m_ (below_step (bN HB.out) hb); clear BK316; clear BK317; clear HB; have BK316 := n0_; have BK317 := n1_; have HB := n2_; clear n0_ n1_ n2_; (try clear hb); (try clear hb2); (try clear hk); (try clear hi)))
  go_ret
  exact ⟨by first | rfl | (simp [errW_none, errW_some] <;> rfl) | (simp [*, errW_none, errW_some] <;> rfl), by repeat (first | (with_reducible first | exact HB.out | apply below_alloc | apply pw_below_drewN | apply below_drew1 | refine below_set ?_ GE316.out | refine below_set ?_ GE317.out) | exact HB.out)⟩
 ·rw [if_neg c4] at H
  have c4b0 : decide (t318 < 0) = false := decide_eq_false c4
  clear c4
  replace H := Option.bind_eq_some_iff.mp H
  obtain ⟨t319, A100, H⟩ := H
  replace H : (if t319 < 0 then (some true) else ((laws_toHears.f a0_0 a0_1 a0_2).bind fun bt320 => ((laws_toDown.f a1_0 a1_1 a1_2 a1_3 a1_4 a1_5 a1_6).bind fun bt323 => ((spec_HearsDown.f k bt320.1 bt320.2.1 bt320.2.2 bt323.1 bt323.2.1 bt323.2.2.1 bt323.2.2.2.1 bt323.2.2.2.2.1 bt323.2.2.2.2.2.1 bt323.2.2.2.2.2.2).bind fun bt330 => ((laws_toHears.f a0_0 a0_1 a0_2).bind fun bt337 => ((laws_toDown.f a1_0 a1_1 a1_2 a1_3 a1_4 a1_5 a1_6).bind fun bt340 => ((impl_HearsDown.f k bt337.1 bt337.2.1 bt337.2.2 bt340.1 bt340.2.1 bt340.2.2.1 bt340.2.2.2.1 bt340.2.2.2.2.1 bt340.2.2.2.2.2.1 bt340.2.2.2.2.2.2).bind fun bt347 => ((laws_eqHears.f bt347.1 bt347.2.1 bt347.2.2.1 bt330.1 bt330.2.1 bt330.2.2.1).bind fun t354 => (if t354 = true then ((laws_eqStringS.f k bt347.2.2.2 bt330.2.2.2).bind fun t355 => (laws_FnExactHearsDown.j0 k bt330.2.2.2 bt347.2.2.2 (!t355) a0_0 a0_1 a0_2 a1_0 a1_1 a1_2 a1_3 a1_4 a1_5 a1_6 bt330.1 bt330.2.1 bt330.2.2.1)) else (laws_FnExactHearsDown.j0 k bt330.2.2.2 bt347.2.2.2 true a0_0 a0_1 a0_2 a1_0 a1_1 a1_2 a1_3 a1_4 a1_5 a1_6 bt330.1 bt330.2.1 bt330.2.2.1)))))))))) = some r := H
  have A10 := Aside0.mk A100
  clear A100
  by_cases c11 : t319 < 0
  ·rw [if_pos c11] at H
   have c11b0 : decide (t319 < 0) = true := decide_eq_true c11
   clear c11
   obtain rfl := Option.some.inj H
   go_enter Tryd.func3, Tryd.ntmps3
   go_wp2_with (first | ((with_reducible refine gate_dst (N := 2) rfl ?_); refine box_event ?hg (N := 2) ?hd (cs := #[.int .i64 a0_0, .bool a0_1, .string a0_2]) (t := 23) ?hr ?_; (case hd => rfl); (case hg => rfl); (case hr => first | (go_simp; done) | (go_simp; rfl)); intro gb316 hg w12 hbox hb; have n0_ := m_ (below_step (bN HB.out) hb); have n1_ := m_ (hbox); have n2_ := m_ ((by rw [hg]; exact (below_size (bN HB.out)) : w.heap.size ≤ gb316)); have n3_ := m_ ((by rw [hg]; exact (below_size (bN HB.out)) : w.heap.size ≤ gb316)); clear HB; have HB := n0_; have BK316 := n1_; have GW316 := n2_; have GE316 := n3_; clear n0_ n1_ n2_ n3_; clear hb hbox hg) | ((with_reducible refine gate_dst (N := 3) rfl ?_); refine box_event ?hg (N := 3) ?hd (cs := #[.int .i64 a1_0, .int .i64 a1_1, .int .i64 a1_2, .int .i64 a1_3, .int .i64 a1_4, .string a1_5, .string a1_6]) (t := 25) ?hr ?_; (case hd => rfl); (case hg => rfl); (case hr => first | (go_simp; done) | (go_simp; rfl)); intro gb317 hg w13 hbox hb; have n0_ := m_ (blk_below (kN BK316.out) hb); have n1_ := m_ (below_step (bN HB.out) hb); have n2_ := m_ (hbox); have n3_ := m_ ((by rw [hg]; exact (below_size (bN HB.out)) : w.heap.size ≤ gb317)); have n4_ := m_ ((by rw [hg]; exact (below_size (bN HB.out)) : w.heap.size ≤ gb317)); have n5_ := m_ (nL hg BK316.out); have n6_ := m_ (nG hg BK316.out); clear BK316; clear HB; have BK316 := n0_; have HB := n1_; have BK317 := n2_; have GW317 := n3_; have GE317 := n4_; have NB316_317 := n5_; have NB317_316 := n6_; clear n0_ n1_ n2_ n3_ n4_ n5_ n6_; clear hb hbox hg; have hnb14 := NB316_317.out; have hnc14 := NB317_316.out; have hcz15_0 : w13.cell? ⟨gb316, 0, none⟩ = some (.int .i64 a0_0) := bc BK316 0; have hcz15_1 : w13.cell? ⟨gb316, 1, none⟩ = some (.bool a0_1) := bc BK316 1; have hcz15_2 : w13.cell? ⟨gb316, 2, none⟩ = some (.string a0_2) := bc BK316 2; have hfz15_0 := blk_frozen BK316.out 0; have hfz15_1 := blk_frozen BK316.out 1; have hfz15_2 := blk_frozen BK316.out 2) | ((with_reducible refine gate_callee (f := 4) rfl ?_); refine goesL_ (some 16) rfl rfl Tryd.func4 (by kernel_rfl) rfl #[.agg #[.int .i64 a0_0, .bool a0_1, .string a0_2], .int .i64 1048576] rfl gl_ ?_; (with_reducible refine (laws_szHears.calls a0_0 a0_1 a0_2 1048576 t318 _ A3.out).mono ?_); rintro e w16 ⟨rfl, hb⟩; refine ⟨_, rfl, ?_⟩; have n0_ := m_ (blk_below (kN BK316.out) hb); have n1_ := m_ (blk_below (kN BK317.out) hb); have n2_ := m_ (below_step (bN HB.out) hb); clear BK316; clear BK317; clear HB; have BK316 := n0_; have BK317 := n1_; have HB := n2_; clear n0_ n1_ n2_; (try clear hb); (try clear hb2); (try clear hk); (try clear hi); have hcz17_0 : w16.cell? ⟨gb317, 0, none⟩ = some (.int .i64 a1_0) := bc BK317 0; have hcz17_1 : w16.cell? ⟨gb317, 1, none⟩ = some (.int .i64 a1_1) := bc BK317 1; have hcz17_2 : w16.cell? ⟨gb317, 2, none⟩ = some (.int .i64 a1_2) := bc BK317 2; have hcz17_3 : w16.cell? ⟨gb317, 3, none⟩ = some (.int .i64 a1_3) := bc BK317 3; have hcz17_4 : w16.cell? ⟨gb317, 4, none⟩ = some (.int .i64 a1_4) := bc BK317 4; have hcz17_5 : w16.cell? ⟨gb317, 5, none⟩ = some (.string a1_5) := bc BK317 5; have hcz17_6 : w16.cell? ⟨gb317, 6, none⟩ = some (.string a1_6) := bc BK317 6; have hfz17_0 := blk_frozen BK317.out 0; have hfz17_1 := blk_frozen BK317.out 1; have hfz17_2 := blk_frozen BK317.out 2; have hfz17_3 := blk_frozen BK317.out 3; have hfz17_4 := blk_frozen BK317.out 4; have hfz17_5 := blk_frozen BK317.out 5; have hfz17_6 := blk_frozen BK317.out 6) | ((with_reducible refine gate_callee (f := 5) rfl ?_); refine goesL_ (some 21) rfl rfl Tryd.func5 (by kernel_rfl) rfl #[.agg #[.int .i64 a1_0, .int .i64 a1_1, .int .i64 a1_2, .int .i64 a1_3, .int .i64 a1_4, .string a1_5, .string a1_6], .int .i64 t318] rfl gl_ ?_; (with_reducible refine (laws_szDown.calls a1_0 a1_1 a1_2 a1_3 a1_4 a1_5 a1_6 t318 t319 _ A10.out).mono ?_); rintro e w18 ⟨rfl, hb⟩; refine ⟨_, rfl, ?_⟩; have n0_ := m_ (blk_below (kN BK316.out) hb); have n1_ := m_ (blk_below (kN BK317.out) hb); have n2_ := m_ (below_step (bN HB.out) hb); clear BK316; clear BK317; clear HB; have BK316 := n0_; have BK317 := n1_; have HB := n2_; clear n0_ n1_ n2_; (try clear hb); (try clear hb2); (try clear hk); (try clear hi)))
   go_ret
   exact ⟨by first | rfl | (simp [errW_none, errW_some] <;> rfl) | (simp [*, errW_none, errW_some] <;> rfl), by repeat (first | (with_reducible first | exact HB.out | apply below_alloc | apply pw_below_drewN | apply below_drew1 | refine below_set ?_ GE316.out | refine below_set ?_ GE317.out) | exact HB.out)⟩
  ·rw [if_neg c11] at H
   have c11b0 : decide (t319 < 0) = false := decide_eq_false c11
   clear c11
   replace H := Option.bind_eq_some_iff.mp H
   obtain ⟨⟨t320, t321, t322⟩, A190, H⟩ := H
   replace H : ((laws_toDown.f a1_0 a1_1 a1_2 a1_3 a1_4 a1_5 a1_6).bind fun bt323 => ((spec_HearsDown.f k t320 t321 t322 bt323.1 bt323.2.1 bt323.2.2.1 bt323.2.2.2.1 bt323.2.2.2.2.1 bt323.2.2.2.2.2.1 bt323.2.2.2.2.2.2).bind fun bt330 => ((laws_toHears.f a0_0 a0_1 a0_2).bind fun bt337 => ((laws_toDown.f a1_0 a1_1 a1_2 a1_3 a1_4 a1_5 a1_6).bind fun bt340 => ((impl_HearsDown.f k bt337.1 bt337.2.1 bt337.2.2 bt340.1 bt340.2.1 bt340.2.2.1 bt340.2.2.2.1 bt340.2.2.2.2.1 bt340.2.2.2.2.2.1 bt340.2.2.2.2.2.2).bind fun bt347 => ((laws_eqHears.f bt347.1 bt347.2.1 bt347.2.2.1 bt330.1 bt330.2.1 bt330.2.2.1).bind fun t354 => (if t354 = true then ((laws_eqStringS.f k bt347.2.2.2 bt330.2.2.2).bind fun t355 => (laws_FnExactHearsDown.j0 k bt330.2.2.2 bt347.2.2.2 (!t355) a0_0 a0_1 a0_2 a1_0 a1_1 a1_2 a1_3 a1_4 a1_5 a1_6 bt330.1 bt330.2.1 bt330.2.2.1)) else (laws_FnExactHearsDown.j0 k bt330.2.2.2 bt347.2.2.2 true a0_0 a0_1 a0_2 a1_0 a1_1 a1_2 a1_3 a1_4 a1_5 a1_6 bt330.1 bt330.2.1 bt330.2.2.1)))))))) = some r := H
   have A19 := Aside0.mk A190
   clear A190
   replace H := Option.bind_eq_some_iff.mp H
   obtain ⟨⟨t323, t324, t325, t326, t327, t328, t329⟩, A200, H⟩ := H
   replace H : ((spec_HearsDown.f k t320 t321 t322 t323 t324 t325 t326 t327 t328 t329).bind fun bt330 => ((laws_toHears.f a0_0 a0_1 a0_2).bind fun bt337 => ((laws_toDown.f a1_0 a1_1 a1_2 a1_3 a1_4 a1_5 a1_6).bind fun bt340 => ((impl_HearsDown.f k bt337.1 bt337.2.1 bt337.2.2 bt340.1 bt340.2.1 bt340.2.2.1 bt340.2.2.2.1 bt340.2.2.2.2.1 bt340.2.2.2.2.2.1 bt340.2.2.2.2.2.2).bind fun bt347 => ((laws_eqHears.f bt347.1 bt347.2.1 bt347.2.2.1 bt330.1 bt330.2.1 bt330.2.2.1).bind fun t354 => (if t354 = true then ((laws_eqStringS.f k bt347.2.2.2 bt330.2.2.2).bind fun t355 => (laws_FnExactHearsDown.j0 k bt330.2.2.2 bt347.2.2.2 (!t355) a0_0 a0_1 a0_2 a1_0 a1_1 a1_2 a1_3 a1_4 a1_5 a1_6 bt330.1 bt330.2.1 bt330.2.2.1)) else (laws_FnExactHearsDown.j0 k bt330.2.2.2 bt347.2.2.2 true a0_0 a0_1 a0_2 a1_0 a1_1 a1_2 a1_3 a1_4 a1_5 a1_6 bt330.1 bt330.2.1 bt330.2.2.1))))))) = some r := H
   have A20 := Aside0.mk A200
   clear A200
   replace H := Option.bind_eq_some_iff.mp H
   obtain ⟨⟨t330, t331, t332, t333⟩, A210, H⟩ := H
   replace H : ((laws_toHears.f a0_0 a0_1 a0_2).bind fun bt337 => ((laws_toDown.f a1_0 a1_1 a1_2 a1_3 a1_4 a1_5 a1_6).bind fun bt340 => ((impl_HearsDown.f k bt337.1 bt337.2.1 bt337.2.2 bt340.1 bt340.2.1 bt340.2.2.1 bt340.2.2.2.1 bt340.2.2.2.2.1 bt340.2.2.2.2.2.1 bt340.2.2.2.2.2.2).bind fun bt347 => ((laws_eqHears.f bt347.1 bt347.2.1 bt347.2.2.1 t330 t331 t332).bind fun t354 => (if t354 = true then ((laws_eqStringS.f k bt347.2.2.2 t333).bind fun t355 => (laws_FnExactHearsDown.j0 k t333 bt347.2.2.2 (!t355) a0_0 a0_1 a0_2 a1_0 a1_1 a1_2 a1_3 a1_4 a1_5 a1_6 t330 t331 t332)) else (laws_FnExactHearsDown.j0 k t333 bt347.2.2.2 true a0_0 a0_1 a0_2 a1_0 a1_1 a1_2 a1_3 a1_4 a1_5 a1_6 t330 t331 t332)))))) = some r := H
   have A21 := Aside0.mk A210
   clear A210
   replace H := Option.bind_eq_some_iff.mp H
   obtain ⟨⟨t337, t338, t339⟩, A220, H⟩ := H
   replace H : ((laws_toDown.f a1_0 a1_1 a1_2 a1_3 a1_4 a1_5 a1_6).bind fun bt340 => ((impl_HearsDown.f k t337 t338 t339 bt340.1 bt340.2.1 bt340.2.2.1 bt340.2.2.2.1 bt340.2.2.2.2.1 bt340.2.2.2.2.2.1 bt340.2.2.2.2.2.2).bind fun bt347 => ((laws_eqHears.f bt347.1 bt347.2.1 bt347.2.2.1 t330 t331 t332).bind fun t354 => (if t354 = true then ((laws_eqStringS.f k bt347.2.2.2 t333).bind fun t355 => (laws_FnExactHearsDown.j0 k t333 bt347.2.2.2 (!t355) a0_0 a0_1 a0_2 a1_0 a1_1 a1_2 a1_3 a1_4 a1_5 a1_6 t330 t331 t332)) else (laws_FnExactHearsDown.j0 k t333 bt347.2.2.2 true a0_0 a0_1 a0_2 a1_0 a1_1 a1_2 a1_3 a1_4 a1_5 a1_6 t330 t331 t332))))) = some r := H
   have A22 := Aside0.mk A220
   clear A220
   replace H := Option.bind_eq_some_iff.mp H
   obtain ⟨⟨t340, t341, t342, t343, t344, t345, t346⟩, A230, H⟩ := H
   replace H : ((impl_HearsDown.f k t337 t338 t339 t340 t341 t342 t343 t344 t345 t346).bind fun bt347 => ((laws_eqHears.f bt347.1 bt347.2.1 bt347.2.2.1 t330 t331 t332).bind fun t354 => (if t354 = true then ((laws_eqStringS.f k bt347.2.2.2 t333).bind fun t355 => (laws_FnExactHearsDown.j0 k t333 bt347.2.2.2 (!t355) a0_0 a0_1 a0_2 a1_0 a1_1 a1_2 a1_3 a1_4 a1_5 a1_6 t330 t331 t332)) else (laws_FnExactHearsDown.j0 k t333 bt347.2.2.2 true a0_0 a0_1 a0_2 a1_0 a1_1 a1_2 a1_3 a1_4 a1_5 a1_6 t330 t331 t332)))) = some r := H
   have A23 := Aside0.mk A230
   clear A230
   replace H := Option.bind_eq_some_iff.mp H
   obtain ⟨⟨t347, t348, t349, t350⟩, A240, H⟩ := H
   replace H : ((laws_eqHears.f t347 t348 t349 t330 t331 t332).bind fun t354 => (if t354 = true then ((laws_eqStringS.f k t350 t333).bind fun t355 => (laws_FnExactHearsDown.j0 k t333 t350 (!t355) a0_0 a0_1 a0_2 a1_0 a1_1 a1_2 a1_3 a1_4 a1_5 a1_6 t330 t331 t332)) else (laws_FnExactHearsDown.j0 k t333 t350 true a0_0 a0_1 a0_2 a1_0 a1_1 a1_2 a1_3 a1_4 a1_5 a1_6 t330 t331 t332))) = some r := H
   have A24 := Aside0.mk A240
   clear A240
   have HC25 := Aside0.mk H
   clear H
   go_enter Tryd.func3, Tryd.ntmps3
   try go_wp2_with (first | ((with_reducible refine gate_dst (N := 2) rfl ?_); refine box_event ?hg (N := 2) ?hd (cs := #[.int .i64 a0_0, .bool a0_1, .string a0_2]) (t := 23) ?hr ?_; (case hd => rfl); (case hg => rfl); (case hr => first | (go_simp; done) | (go_simp; rfl)); intro gb316 hg w26 hbox hb; have n0_ := m_ (below_step (bN HB.out) hb); have n1_ := m_ (hbox); have n2_ := m_ ((by rw [hg]; exact (below_size (bN HB.out)) : w.heap.size ≤ gb316)); have n3_ := m_ ((by rw [hg]; exact (below_size (bN HB.out)) : w.heap.size ≤ gb316)); clear HB; have HB := n0_; have BK316 := n1_; have GW316 := n2_; have GE316 := n3_; clear n0_ n1_ n2_ n3_; clear hb hbox hg) | ((with_reducible refine gate_dst (N := 3) rfl ?_); refine box_event ?hg (N := 3) ?hd (cs := #[.int .i64 a1_0, .int .i64 a1_1, .int .i64 a1_2, .int .i64 a1_3, .int .i64 a1_4, .string a1_5, .string a1_6]) (t := 25) ?hr ?_; (case hd => rfl); (case hg => rfl); (case hr => first | (go_simp; done) | (go_simp; rfl)); intro gb317 hg w27 hbox hb; have n0_ := m_ (blk_below (kN BK316.out) hb); have n1_ := m_ (below_step (bN HB.out) hb); have n2_ := m_ (hbox); have n3_ := m_ ((by rw [hg]; exact (below_size (bN HB.out)) : w.heap.size ≤ gb317)); have n4_ := m_ ((by rw [hg]; exact (below_size (bN HB.out)) : w.heap.size ≤ gb317)); have n5_ := m_ (nL hg BK316.out); have n6_ := m_ (nG hg BK316.out); clear BK316; clear HB; have BK316 := n0_; have HB := n1_; have BK317 := n2_; have GW317 := n3_; have GE317 := n4_; have NB316_317 := n5_; have NB317_316 := n6_; clear n0_ n1_ n2_ n3_ n4_ n5_ n6_; clear hb hbox hg; have hnb28 := NB316_317.out; have hnc28 := NB317_316.out; have hcz29_0 : w27.cell? ⟨gb316, 0, none⟩ = some (.int .i64 a0_0) := bc BK316 0; have hcz29_1 : w27.cell? ⟨gb316, 1, none⟩ = some (.bool a0_1) := bc BK316 1; have hcz29_2 : w27.cell? ⟨gb316, 2, none⟩ = some (.string a0_2) := bc BK316 2; have hfz29_0 := blk_frozen BK316.out 0; have hfz29_1 := blk_frozen BK316.out 1; have hfz29_2 := blk_frozen BK316.out 2) | ((with_reducible refine gate_callee (f := 4) rfl ?_); refine goesL_ (some 16) rfl rfl Tryd.func4 (by kernel_rfl) rfl #[.agg #[.int .i64 a0_0, .bool a0_1, .string a0_2], .int .i64 1048576] rfl gl_ ?_; (with_reducible refine (laws_szHears.calls a0_0 a0_1 a0_2 1048576 t318 _ A3.out).mono ?_); rintro e w30 ⟨rfl, hb⟩; refine ⟨_, rfl, ?_⟩; have n0_ := m_ (blk_below (kN BK316.out) hb); have n1_ := m_ (blk_below (kN BK317.out) hb); have n2_ := m_ (below_step (bN HB.out) hb); clear BK316; clear BK317; clear HB; have BK316 := n0_; have BK317 := n1_; have HB := n2_; clear n0_ n1_ n2_; (try clear hb); (try clear hb2); (try clear hk); (try clear hi); have hcz31_0 : w30.cell? ⟨gb317, 0, none⟩ = some (.int .i64 a1_0) := bc BK317 0; have hcz31_1 : w30.cell? ⟨gb317, 1, none⟩ = some (.int .i64 a1_1) := bc BK317 1; have hcz31_2 : w30.cell? ⟨gb317, 2, none⟩ = some (.int .i64 a1_2) := bc BK317 2; have hcz31_3 : w30.cell? ⟨gb317, 3, none⟩ = some (.int .i64 a1_3) := bc BK317 3; have hcz31_4 : w30.cell? ⟨gb317, 4, none⟩ = some (.int .i64 a1_4) := bc BK317 4; have hcz31_5 : w30.cell? ⟨gb317, 5, none⟩ = some (.string a1_5) := bc BK317 5; have hcz31_6 : w30.cell? ⟨gb317, 6, none⟩ = some (.string a1_6) := bc BK317 6; have hfz31_0 := blk_frozen BK317.out 0; have hfz31_1 := blk_frozen BK317.out 1; have hfz31_2 := blk_frozen BK317.out 2; have hfz31_3 := blk_frozen BK317.out 3; have hfz31_4 := blk_frozen BK317.out 4; have hfz31_5 := blk_frozen BK317.out 5; have hfz31_6 := blk_frozen BK317.out 6) | ((with_reducible refine gate_callee (f := 5) rfl ?_); refine goesL_ (some 21) rfl rfl Tryd.func5 (by kernel_rfl) rfl #[.agg #[.int .i64 a1_0, .int .i64 a1_1, .int .i64 a1_2, .int .i64 a1_3, .int .i64 a1_4, .string a1_5, .string a1_6], .int .i64 t318] rfl gl_ ?_; (with_reducible refine (laws_szDown.calls a1_0 a1_1 a1_2 a1_3 a1_4 a1_5 a1_6 t318 t319 _ A10.out).mono ?_); rintro e w32 ⟨rfl, hb⟩; refine ⟨_, rfl, ?_⟩; have n0_ := m_ (blk_below (kN BK316.out) hb); have n1_ := m_ (blk_below (kN BK317.out) hb); have n2_ := m_ (below_step (bN HB.out) hb); clear BK316; clear BK317; clear HB; have BK316 := n0_; have BK317 := n1_; have HB := n2_; clear n0_ n1_ n2_; (try clear hb); (try clear hb2); (try clear hk); (try clear hi)))
   have n0_ := m_ (blk_drew BK316.out)
   have n1_ := m_ (blk_drew BK317.out)
   have n2_ := m_ (below_drew1 HB.out)
   clear BK316
   clear BK317
   clear HB
   have BK316 := n0_
   have BK317 := n1_
   have HB := n2_
   clear n0_ n1_ n2_
   refine start_ (n := 11) (S := fun w' => w'.cell? ⟨gb316, 0, none⟩ = some (.int .i64 a0_0) ∧ w'.cell? ⟨gb316, 1, none⟩ = some (.bool a0_1) ∧ w'.cell? ⟨gb316, 2, none⟩ = some (.string a0_2) ∧ w'.cell? ⟨gb317, 0, none⟩ = some (.int .i64 a1_0) ∧ w'.cell? ⟨gb317, 1, none⟩ = some (.int .i64 a1_1) ∧ w'.cell? ⟨gb317, 2, none⟩ = some (.int .i64 a1_2) ∧ w'.cell? ⟨gb317, 3, none⟩ = some (.int .i64 a1_3) ∧ w'.cell? ⟨gb317, 4, none⟩ = some (.int .i64 a1_4) ∧ w'.cell? ⟨gb317, 5, none⟩ = some (.string a1_5) ∧ w'.cell? ⟨gb317, 6, none⟩ = some (.string a1_6)) (ds := []) #[false, false, false, false, false, false, false, false, false, false, false] (by kernel_rfl) rfl rfl ⟨bc BK316 0, bc BK316 1, bc BK316 2, bc BK317 0, bc BK317 1, bc BK317 2, bc BK317 3, bc BK317 4, bc BK317 5, bc BK317 6⟩ (fun hHeld => ?_); refine with_tabW laws_FnExactHearsDown.tab8 laws_FnExactHearsDown.bits8 (fun HT_ HW_ => ?_)
   generalize w32.drew = w33 at BK316 BK317 HB hHeld ⊢
   refine take_ (i := 0) (N := some 25) (v := ?_) (a' := ?_) #[true, false, false, false, false, false, false, false, false, false, false] rfl rfl (take_ofW HT_.out HW_.out (by kernel_rfl)) (fun _ _ _ h => h) (Or.inl ⟨by rfl, ?_⟩) hHeld ?_ ?_
   rotate_left
   ·rintro w' ⟨s0, s1, s2, s3, s4, s5, s6, s7, s8, s9⟩
    go_simp
    with_reducible rfl
   rotate_left
   ·simp only [Act.put, List.setIfInBounds_toArray, List.set_cons_zero, List.set_cons_succ, i64_w, i32_w]
    rfl
   refine take_ (i := 2) (N := some 27) (v := ?_) (a' := ?_) #[true, false, true, false, false, false, false, false, false, false, false] rfl rfl (take_ofW HT_.out HW_.out (by kernel_rfl)) (fun _ _ _ h => h) (Or.inl ⟨by rfl, ?_⟩) hHeld ?_ ?_
   rotate_left
   ·rintro w' ⟨s0, s1, s2, s3, s4, s5, s6, s7, s8, s9⟩
    go_simp
    with_reducible rfl
   rotate_left
   ·simp only [Act.put, List.setIfInBounds_toArray, List.set_cons_zero, List.set_cons_succ, i64_w, i32_w]
    rfl
   refine join_ (σ := Value × Nat) 2 #[true, true, true, true, true, true, true, true, true, false, false] (fun s_ => [(26, .agg #[.int .i64 t320, .bool t321, .string t322]), (28, .agg #[.int .i64 t323, .int .i64 t324, .int .i64 t325, .int .i64 t326, .int .i64 t327, .string t328, .string t329]), (29, .tuple #[.agg #[.int .i64 t330, .bool t331, .string t332], s_.1]), (6, .pointer (some ⟨s_.2, 0, none⟩)), (24, .tuple #[.agg #[.int .i64 t330, .bool t331, .string t332], s_.1]), (30, .agg #[.int .i64 t330, .bool t331, .string t332]), (31, s_.1)]) (fun s_ w' => (w'.cell? ⟨gb316, 0, none⟩ = some (.int .i64 a0_0) ∧ w'.cell? ⟨gb316, 1, none⟩ = some (.bool a0_1) ∧ w'.cell? ⟨gb316, 2, none⟩ = some (.string a0_2) ∧ w'.cell? ⟨gb317, 0, none⟩ = some (.int .i64 a1_0) ∧ w'.cell? ⟨gb317, 1, none⟩ = some (.int .i64 a1_1) ∧ w'.cell? ⟨gb317, 2, none⟩ = some (.int .i64 a1_2) ∧ w'.cell? ⟨gb317, 3, none⟩ = some (.int .i64 a1_3) ∧ w'.cell? ⟨gb317, 4, none⟩ = some (.int .i64 a1_4) ∧ w'.cell? ⟨gb317, 5, none⟩ = some (.string a1_5) ∧ w'.cell? ⟨gb317, 6, none⟩ = some (.string a1_6)) ∧ (Kd.R Kd.string 9 w' w.heap.size (fun _ => True) s_.1 t333) ∧ (w'.heap[gb316]? = some (.cells #[.int .i64 a0_0, .bool a0_1, .string a0_2] 23 (0, 0))) ∧ (w'.heap[gb317]? = some (.cells #[.int .i64 a1_0, .int .i64 a1_1, .int .i64 a1_2, .int .i64 a1_3, .int .i64 a1_4, .string a1_5, .string a1_6] 25 (0, 0))) ∧ (w'.heap[s_.2]? = some (.cells #[.int .i64 0, .bool false, .string (⟨#[]⟩ : ByteArray)] 28 (0, 0))) ∧ (w.heap.size ≤ s_.2) ∧ (w.heap.size ≤ s_.2) ∧ (gb316 ≠ s_.2) ∧ (s_.2 ≠ gb316) ∧ (gb317 ≠ s_.2) ∧ (s_.2 ≠ gb317) ∧ (Below w.heap.size w w')) ?_ ?_
   rotate_left
   ·intro hCont
    refine two_ (i := 1) (j := 8) (Ni := some 26) (Nj := some 6) #[true, true, true, false, false, false, false, false, false, false, false] #[true, false, true, false, false, false, false, false, true, false, false] rfl rfl rfl rfl (two_of HT_.out (by kernel_rfl)) (by decide) (by decide) (fun K hK => ?_) (fun K hK => ?_)
    ·skip
     refine goes_ Tryd.func7 (by kernel_rfl) rfl #[.agg #[.int .i64 a0_0, .bool a0_1, .string a0_2]] (by rfl) rfl rfl gl_ ?_
     with_reducible refine (laws_toHears.calls a0_0 a0_1 a0_2 t320 t321 t322 _ A19.out).mono ?_
     rintro e w34 ⟨rfl, hb⟩
     refine ⟨_, rfl, ?_⟩
     have n0_ := m_ (blk_below (kN BK316.out) hb)
     have n1_ := m_ (blk_below (kN BK317.out) hb)
     have n2_ := m_ (below_step (bN HB.out) hb)
     clear BK316
     clear BK317
     clear HB
     have BK316 := n0_
     have BK317 := n1_
     have HB := n2_
     clear n0_ n1_ n2_
     (try clear hb)
     (try clear hb2)
     (try clear hk)
     (try clear hi)
     refine hK.out _ _ ⟨bc BK316 0, bc BK316 1, bc BK316 2, bc BK317 0, bc BK317 1, bc BK317 2, bc BK317 3, bc BK317 4, bc BK317 5, bc BK317 6⟩ (fun hHeld => ?_)
     clear hK K
     refine np (h := ?_)
     refine two_ (i := 3) (j := 8) (Ni := some 28) (Nj := some 6) #[true, true, true, true, false, false, false, false, false, false, false] #[true, true, true, false, false, false, false, false, true, false, false] rfl rfl rfl rfl (two_of HT_.out (by kernel_rfl)) (by decide) (by decide) (fun K hK => ?_) (fun K hK => ?_)
     ·skip
      refine goes_ Tryd.func8 (by kernel_rfl) rfl #[.agg #[.int .i64 a1_0, .int .i64 a1_1, .int .i64 a1_2, .int .i64 a1_3, .int .i64 a1_4, .string a1_5, .string a1_6]] (by rfl) rfl rfl gl_ ?_
      with_reducible refine (laws_toDown.calls a1_0 a1_1 a1_2 a1_3 a1_4 a1_5 a1_6 t323 t324 t325 t326 t327 t328 t329 _ A20.out).mono ?_
      rintro e w35 ⟨rfl, hb⟩
      refine ⟨_, rfl, ?_⟩
      have n0_ := m_ (blk_below (kN BK316.out) hb)
      have n1_ := m_ (blk_below (kN BK317.out) hb)
      have n2_ := m_ (below_step (bN HB.out) hb)
      clear BK316
      clear BK317
      clear HB
      have BK316 := n0_
      have BK317 := n1_
      have HB := n2_
      clear n0_ n1_ n2_
      (try clear hb)
      (try clear hb2)
      (try clear hk)
      (try clear hi)
      refine hK.out _ _ ⟨bc BK316 0, bc BK316 1, bc BK316 2, bc BK317 0, bc BK317 1, bc BK317 2, bc BK317 3, bc BK317 4, bc BK317 5, bc BK317 6⟩ (fun hHeld => ?_)
      clear hK K
      refine np (h := ?_)
      refine two_ (i := 4) (j := 8) (Ni := some 29) (Nj := some 6) #[true, true, true, true, true, false, false, false, false, false, false] #[true, true, true, true, false, false, false, false, true, false, false] rfl rfl rfl rfl (two_of HT_.out (by kernel_rfl)) (by decide) (by decide) (fun K hK => ?_) (fun K hK => ?_)
      ·skip
       refine goes_ Tryd.func6 (by kernel_rfl) rfl #[.agg #[.int .i64 t320, .bool t321, .string t322], .agg #[.int .i64 t323, .int .i64 t324, .int .i64 t325, .int .i64 t326, .int .i64 t327, .string t328, .string t329]] (by rfl) rfl rfl gl_ ?_
       with_reducible refine (spec_HearsDown.calls k t320 t321 t322 t323 t324 t325 t326 t327 t328 t329 t330 t331 t332 t333 _ A21.out).mono ?_
       rintro e w36 ⟨v334, rfl, ho0, hb⟩
       refine ⟨_, rfl, ?_⟩
       have n0_ := m_ (Kd.R_lower ho0 (below_size (bN HB.out)))
       have n1_ := m_ (blk_below (kN BK316.out) hb)
       have n2_ := m_ (blk_below (kN BK317.out) hb)
       have n3_ := m_ (below_step (bN HB.out) hb)
       clear BK316
       clear BK317
       clear HB
       have HO335 := n0_
       have BK316 := n1_
       have BK317 := n2_
       have HB := n3_
       clear n0_ n1_ n2_ n3_
       (try clear hb)
       (try clear hb2)
       (try clear hk)
       (try clear hi)
       (try clear ho0)
       refine hK.out _ _ ⟨bc BK316 0, bc BK316 1, bc BK316 2, bc BK317 0, bc BK317 1, bc BK317 2, bc BK317 3, bc BK317 4, bc BK317 5, bc BK317 6⟩ (fun hHeld => ?_)
       clear hK K
       refine np (h := ?_)
       refine pu 5 24 HT_ (h := ?_)
       refine pu 6 30 HT_ (h := ?_)
       refine pu 7 31 HT_ (h := ?_)
       refine one_ (i := 8) (N := some 6) #[true, true, true, true, true, true, true, true, true, false, false] rfl rfl (one_of HT_.out (by kernel_rfl)) (by decide) (fun K hK => ?_)
       refine box_step ?hg (N := 6) ?hd (cs := #[.int .i64 0, .bool false, .string (⟨#[]⟩ : ByteArray)]) (t := 28) ?hr ?_; (case hd => rfl); (case hg => rfl); (case hr => first | (go_simp; done) | (go_simp; rfl))
       intro gb336 hg w37 hbox hb
       have n0_ := m_ (Kd.R_below (rN HO335.out) hb)
       have n1_ := m_ (blk_below (kN BK316.out) hb)
       have n2_ := m_ (blk_below (kN BK317.out) hb)
       have n3_ := m_ (below_step (bN HB.out) hb)
       have n4_ := m_ (hbox)
       have n5_ := m_ ((by rw [hg]; exact (below_size (bN HB.out)) : w.heap.size ≤ gb336))
       have n6_ := m_ ((by rw [hg]; exact (below_size (bN HB.out)) : w.heap.size ≤ gb336))
       have n7_ := m_ (nL hg BK316.out)
       have n8_ := m_ (nG hg BK316.out)
       have n9_ := m_ (nL hg BK317.out)
       have n10_ := m_ (nG hg BK317.out)
       clear HO335
       clear BK316
       clear BK317
       clear HB
       have HO335 := n0_
       have BK316 := n1_
       have BK317 := n2_
       have HB := n3_
       have BK336 := n4_
       have GW336 := n5_
       have GE336 := n6_
       have NB316_336 := n7_
       have NB336_316 := n8_
       have NB317_336 := n9_
       have NB336_317 := n10_
       clear n0_ n1_ n2_ n3_ n4_ n5_ n6_ n7_ n8_ n9_ n10_
       clear hb hbox hg
       refine hK.out _ _ ⟨bc BK316 0, bc BK316 1, bc BK316 2, bc BK317 0, bc BK317 1, bc BK317 2, bc BK317 3, bc BK317 4, bc BK317 5, bc BK317 6⟩ (fun hHeld => ?_)
       clear hK K
       refine np (h := ?_)
       exact nq (hCont (v334, gb336) _ ⟨hHeld, (rN HO335.out), (kN BK316.out), (kN BK317.out), (kN BK336.out), GW336.out, GE336.out, NB316_336.out, NB336_316.out, NB317_336.out, NB336_317.out, (bN HB.out)⟩)
      ·skip
       refine box_step ?hg (N := 6) ?hd (cs := #[.int .i64 0, .bool false, .string (⟨#[]⟩ : ByteArray)]) (t := 28) ?hr ?_; (case hd => rfl); (case hg => rfl); (case hr => first | (go_simp; done) | (go_simp; rfl))
       intro gb336 hg w36 hbox hb
       have n0_ := m_ (blk_below (kN BK316.out) hb)
       have n1_ := m_ (blk_below (kN BK317.out) hb)
       have n2_ := m_ (below_step (bN HB.out) hb)
       have n3_ := m_ (hbox)
       have n4_ := m_ ((by rw [hg]; exact (below_size (bN HB.out)) : w.heap.size ≤ gb336))
       have n5_ := m_ ((by rw [hg]; exact (below_size (bN HB.out)) : w.heap.size ≤ gb336))
       have n6_ := m_ (nL hg BK316.out)
       have n7_ := m_ (nG hg BK316.out)
       have n8_ := m_ (nL hg BK317.out)
       have n9_ := m_ (nG hg BK317.out)
       clear BK316
       clear BK317
       clear HB
       have BK316 := n0_
       have BK317 := n1_
       have HB := n2_
       have BK336 := n3_
       have GW336 := n4_
       have GE336 := n5_
       have NB316_336 := n6_
       have NB336_316 := n7_
       have NB317_336 := n8_
       have NB336_317 := n9_
       clear n0_ n1_ n2_ n3_ n4_ n5_ n6_ n7_ n8_ n9_
       clear hb hbox hg
       refine hK.out _ _ ⟨bc BK316 0, bc BK316 1, bc BK316 2, bc BK317 0, bc BK317 1, bc BK317 2, bc BK317 3, bc BK317 4, bc BK317 5, bc BK317 6⟩ (fun hHeld => ?_)
       clear hK K
       refine np (h := ?_)
       refine one_ (i := 4) (N := some 29) #[true, true, true, true, true, false, false, false, true, false, false] rfl rfl (one_of HT_.out (by kernel_rfl)) (by decide) (fun K hK => ?_)
       refine goes_ Tryd.func6 (by kernel_rfl) rfl #[.agg #[.int .i64 t320, .bool t321, .string t322], .agg #[.int .i64 t323, .int .i64 t324, .int .i64 t325, .int .i64 t326, .int .i64 t327, .string t328, .string t329]] (by rfl) rfl rfl gl_ ?_
       with_reducible refine (spec_HearsDown.calls k t320 t321 t322 t323 t324 t325 t326 t327 t328 t329 t330 t331 t332 t333 _ A21.out).mono ?_
       rintro e w37 ⟨v334, rfl, ho0, hb⟩
       refine ⟨_, rfl, ?_⟩
       have n0_ := m_ (Kd.R_lower ho0 (below_size (bN HB.out)))
       have n1_ := m_ (blk_below (kN BK316.out) hb)
       have n2_ := m_ (blk_below (kN BK317.out) hb)
       have n3_ := m_ (blk_below (g := gb336) (o := .cells #[.int .i64 0, .bool false, .string (⟨#[]⟩ : ByteArray)] 28 (0, 0)) (kN BK336.out) hb)
       have n4_ := m_ (below_step (bN HB.out) hb)
       clear BK316
       clear BK317
       clear BK336
       clear HB
       have HO335 := n0_
       have BK316 := n1_
       have BK317 := n2_
       have BK336 := n3_
       have HB := n4_
       clear n0_ n1_ n2_ n3_ n4_
       (try clear hb)
       (try clear hb2)
       (try clear hk)
       (try clear hi)
       (try clear ho0)
       refine hK.out _ _ ⟨bc BK316 0, bc BK316 1, bc BK316 2, bc BK317 0, bc BK317 1, bc BK317 2, bc BK317 3, bc BK317 4, bc BK317 5, bc BK317 6⟩ (fun hHeld => ?_)
       clear hK K
       refine np (h := ?_)
       refine pu 5 24 HT_ (h := ?_)
       refine pu 6 30 HT_ (h := ?_)
       refine pu 7 31 HT_ (h := ?_)
       exact nq (hCont (v334, gb336) _ ⟨hHeld, (rN HO335.out), (kN BK316.out), (kN BK317.out), (kN BK336.out), GW336.out, GE336.out, NB316_336.out, NB336_316.out, NB317_336.out, NB336_317.out, (bN HB.out)⟩)
     ·skip
      refine box_step ?hg (N := 6) ?hd (cs := #[.int .i64 0, .bool false, .string (⟨#[]⟩ : ByteArray)]) (t := 28) ?hr ?_; (case hd => rfl); (case hg => rfl); (case hr => first | (go_simp; done) | (go_simp; rfl))
      intro gb336 hg w35 hbox hb
      have n0_ := m_ (blk_below (kN BK316.out) hb)
      have n1_ := m_ (blk_below (kN BK317.out) hb)
      have n2_ := m_ (below_step (bN HB.out) hb)
      have n3_ := m_ (hbox)
      have n4_ := m_ ((by rw [hg]; exact (below_size (bN HB.out)) : w.heap.size ≤ gb336))
      have n5_ := m_ ((by rw [hg]; exact (below_size (bN HB.out)) : w.heap.size ≤ gb336))
      have n6_ := m_ (nL hg BK316.out)
      have n7_ := m_ (nG hg BK316.out)
      have n8_ := m_ (nL hg BK317.out)
      have n9_ := m_ (nG hg BK317.out)
      clear BK316
      clear BK317
      clear HB
      have BK316 := n0_
      have BK317 := n1_
      have HB := n2_
      have BK336 := n3_
      have GW336 := n4_
      have GE336 := n5_
      have NB316_336 := n6_
      have NB336_316 := n7_
      have NB317_336 := n8_
      have NB336_317 := n9_
      clear n0_ n1_ n2_ n3_ n4_ n5_ n6_ n7_ n8_ n9_
      clear hb hbox hg
      refine hK.out _ _ ⟨bc BK316 0, bc BK316 1, bc BK316 2, bc BK317 0, bc BK317 1, bc BK317 2, bc BK317 3, bc BK317 4, bc BK317 5, bc BK317 6⟩ (fun hHeld => ?_)
      clear hK K
      refine np (h := ?_)
      refine one_ (i := 3) (N := some 28) #[true, true, true, true, false, false, false, false, true, false, false] rfl rfl (one_of HT_.out (by kernel_rfl)) (by decide) (fun K hK => ?_)
      refine goes_ Tryd.func8 (by kernel_rfl) rfl #[.agg #[.int .i64 a1_0, .int .i64 a1_1, .int .i64 a1_2, .int .i64 a1_3, .int .i64 a1_4, .string a1_5, .string a1_6]] (by rfl) rfl rfl gl_ ?_
      with_reducible refine (laws_toDown.calls a1_0 a1_1 a1_2 a1_3 a1_4 a1_5 a1_6 t323 t324 t325 t326 t327 t328 t329 _ A20.out).mono ?_
      rintro e w36 ⟨rfl, hb⟩
      refine ⟨_, rfl, ?_⟩
      have n0_ := m_ (blk_below (kN BK316.out) hb)
      have n1_ := m_ (blk_below (kN BK317.out) hb)
      have n2_ := m_ (blk_below (g := gb336) (o := .cells #[.int .i64 0, .bool false, .string (⟨#[]⟩ : ByteArray)] 28 (0, 0)) (kN BK336.out) hb)
      have n3_ := m_ (below_step (bN HB.out) hb)
      clear BK316
      clear BK317
      clear BK336
      clear HB
      have BK316 := n0_
      have BK317 := n1_
      have BK336 := n2_
      have HB := n3_
      clear n0_ n1_ n2_ n3_
      (try clear hb)
      (try clear hb2)
      (try clear hk)
      (try clear hi)
      refine hK.out _ _ ⟨bc BK316 0, bc BK316 1, bc BK316 2, bc BK317 0, bc BK317 1, bc BK317 2, bc BK317 3, bc BK317 4, bc BK317 5, bc BK317 6⟩ (fun hHeld => ?_)
      clear hK K
      refine np (h := ?_)
      refine one_ (i := 4) (N := some 29) #[true, true, true, true, true, false, false, false, true, false, false] rfl rfl (one_of HT_.out (by kernel_rfl)) (by decide) (fun K hK => ?_)
      refine goes_ Tryd.func6 (by kernel_rfl) rfl #[.agg #[.int .i64 t320, .bool t321, .string t322], .agg #[.int .i64 t323, .int .i64 t324, .int .i64 t325, .int .i64 t326, .int .i64 t327, .string t328, .string t329]] (by rfl) rfl rfl gl_ ?_
      with_reducible refine (spec_HearsDown.calls k t320 t321 t322 t323 t324 t325 t326 t327 t328 t329 t330 t331 t332 t333 _ A21.out).mono ?_
      rintro e w37 ⟨v334, rfl, ho0, hb⟩
      refine ⟨_, rfl, ?_⟩
      have n0_ := m_ (Kd.R_lower ho0 (below_size (bN HB.out)))
      have n1_ := m_ (blk_below (kN BK316.out) hb)
      have n2_ := m_ (blk_below (kN BK317.out) hb)
      have n3_ := m_ (blk_below (g := gb336) (o := .cells #[.int .i64 0, .bool false, .string (⟨#[]⟩ : ByteArray)] 28 (0, 0)) (kN BK336.out) hb)
      have n4_ := m_ (below_step (bN HB.out) hb)
      clear BK316
      clear BK317
      clear BK336
      clear HB
      have HO335 := n0_
      have BK316 := n1_
      have BK317 := n2_
      have BK336 := n3_
      have HB := n4_
      clear n0_ n1_ n2_ n3_ n4_
      (try clear hb)
      (try clear hb2)
      (try clear hk)
      (try clear hi)
      (try clear ho0)
      refine hK.out _ _ ⟨bc BK316 0, bc BK316 1, bc BK316 2, bc BK317 0, bc BK317 1, bc BK317 2, bc BK317 3, bc BK317 4, bc BK317 5, bc BK317 6⟩ (fun hHeld => ?_)
      clear hK K
      refine np (h := ?_)
      refine pu 5 24 HT_ (h := ?_)
      refine pu 6 30 HT_ (h := ?_)
      refine pu 7 31 HT_ (h := ?_)
      exact nq (hCont (v334, gb336) _ ⟨hHeld, (rN HO335.out), (kN BK316.out), (kN BK317.out), (kN BK336.out), GW336.out, GE336.out, NB316_336.out, NB336_316.out, NB317_336.out, NB336_317.out, (bN HB.out)⟩)
    ·skip
     refine box_step ?hg (N := 6) ?hd (cs := #[.int .i64 0, .bool false, .string (⟨#[]⟩ : ByteArray)]) (t := 28) ?hr ?_; (case hd => rfl); (case hg => rfl); (case hr => first | (go_simp; done) | (go_simp; rfl))
     intro gb336 hg w34 hbox hb
     have n0_ := m_ (blk_below (kN BK316.out) hb)
     have n1_ := m_ (blk_below (kN BK317.out) hb)
     have n2_ := m_ (below_step (bN HB.out) hb)
     have n3_ := m_ (hbox)
     have n4_ := m_ ((by rw [hg]; exact (below_size (bN HB.out)) : w.heap.size ≤ gb336))
     have n5_ := m_ ((by rw [hg]; exact (below_size (bN HB.out)) : w.heap.size ≤ gb336))
     have n6_ := m_ (nL hg BK316.out)
     have n7_ := m_ (nG hg BK316.out)
     have n8_ := m_ (nL hg BK317.out)
     have n9_ := m_ (nG hg BK317.out)
     clear BK316
     clear BK317
     clear HB
     have BK316 := n0_
     have BK317 := n1_
     have HB := n2_
     have BK336 := n3_
     have GW336 := n4_
     have GE336 := n5_
     have NB316_336 := n6_
     have NB336_316 := n7_
     have NB317_336 := n8_
     have NB336_317 := n9_
     clear n0_ n1_ n2_ n3_ n4_ n5_ n6_ n7_ n8_ n9_
     clear hb hbox hg
     refine hK.out _ _ ⟨bc BK316 0, bc BK316 1, bc BK316 2, bc BK317 0, bc BK317 1, bc BK317 2, bc BK317 3, bc BK317 4, bc BK317 5, bc BK317 6⟩ (fun hHeld => ?_)
     clear hK K
     refine np (h := ?_)
     refine one_ (i := 1) (N := some 26) #[true, true, true, false, false, false, false, false, true, false, false] rfl rfl (one_of HT_.out (by kernel_rfl)) (by decide) (fun K hK => ?_)
     refine goes_ Tryd.func7 (by kernel_rfl) rfl #[.agg #[.int .i64 a0_0, .bool a0_1, .string a0_2]] (by rfl) rfl rfl gl_ ?_
     with_reducible refine (laws_toHears.calls a0_0 a0_1 a0_2 t320 t321 t322 _ A19.out).mono ?_
     rintro e w35 ⟨rfl, hb⟩
     refine ⟨_, rfl, ?_⟩
     have n0_ := m_ (blk_below (kN BK316.out) hb)
     have n1_ := m_ (blk_below (kN BK317.out) hb)
     have n2_ := m_ (blk_below (g := gb336) (o := .cells #[.int .i64 0, .bool false, .string (⟨#[]⟩ : ByteArray)] 28 (0, 0)) (kN BK336.out) hb)
     have n3_ := m_ (below_step (bN HB.out) hb)
     clear BK316
     clear BK317
     clear BK336
     clear HB
     have BK316 := n0_
     have BK317 := n1_
     have BK336 := n2_
     have HB := n3_
     clear n0_ n1_ n2_ n3_
     (try clear hb)
     (try clear hb2)
     (try clear hk)
     (try clear hi)
     refine hK.out _ _ ⟨bc BK316 0, bc BK316 1, bc BK316 2, bc BK317 0, bc BK317 1, bc BK317 2, bc BK317 3, bc BK317 4, bc BK317 5, bc BK317 6⟩ (fun hHeld => ?_)
     clear hK K
     refine np (h := ?_)
     refine one_ (i := 3) (N := some 28) #[true, true, true, true, false, false, false, false, true, false, false] rfl rfl (one_of HT_.out (by kernel_rfl)) (by decide) (fun K hK => ?_)
     refine goes_ Tryd.func8 (by kernel_rfl) rfl #[.agg #[.int .i64 a1_0, .int .i64 a1_1, .int .i64 a1_2, .int .i64 a1_3, .int .i64 a1_4, .string a1_5, .string a1_6]] (by rfl) rfl rfl gl_ ?_
     with_reducible refine (laws_toDown.calls a1_0 a1_1 a1_2 a1_3 a1_4 a1_5 a1_6 t323 t324 t325 t326 t327 t328 t329 _ A20.out).mono ?_
     rintro e w36 ⟨rfl, hb⟩
     refine ⟨_, rfl, ?_⟩
     have n0_ := m_ (blk_below (kN BK316.out) hb)
     have n1_ := m_ (blk_below (kN BK317.out) hb)
     have n2_ := m_ (blk_below (g := gb336) (o := .cells #[.int .i64 0, .bool false, .string (⟨#[]⟩ : ByteArray)] 28 (0, 0)) (kN BK336.out) hb)
     have n3_ := m_ (below_step (bN HB.out) hb)
     clear BK316
     clear BK317
     clear BK336
     clear HB
     have BK316 := n0_
     have BK317 := n1_
     have BK336 := n2_
     have HB := n3_
     clear n0_ n1_ n2_ n3_
     (try clear hb)
     (try clear hb2)
     (try clear hk)
     (try clear hi)
     refine hK.out _ _ ⟨bc BK316 0, bc BK316 1, bc BK316 2, bc BK317 0, bc BK317 1, bc BK317 2, bc BK317 3, bc BK317 4, bc BK317 5, bc BK317 6⟩ (fun hHeld => ?_)
     clear hK K
     refine np (h := ?_)
     refine one_ (i := 4) (N := some 29) #[true, true, true, true, true, false, false, false, true, false, false] rfl rfl (one_of HT_.out (by kernel_rfl)) (by decide) (fun K hK => ?_)
     refine goes_ Tryd.func6 (by kernel_rfl) rfl #[.agg #[.int .i64 t320, .bool t321, .string t322], .agg #[.int .i64 t323, .int .i64 t324, .int .i64 t325, .int .i64 t326, .int .i64 t327, .string t328, .string t329]] (by rfl) rfl rfl gl_ ?_
     with_reducible refine (spec_HearsDown.calls k t320 t321 t322 t323 t324 t325 t326 t327 t328 t329 t330 t331 t332 t333 _ A21.out).mono ?_
     rintro e w37 ⟨v334, rfl, ho0, hb⟩
     refine ⟨_, rfl, ?_⟩
     have n0_ := m_ (Kd.R_lower ho0 (below_size (bN HB.out)))
     have n1_ := m_ (blk_below (kN BK316.out) hb)
     have n2_ := m_ (blk_below (kN BK317.out) hb)
     have n3_ := m_ (blk_below (g := gb336) (o := .cells #[.int .i64 0, .bool false, .string (⟨#[]⟩ : ByteArray)] 28 (0, 0)) (kN BK336.out) hb)
     have n4_ := m_ (below_step (bN HB.out) hb)
     clear BK316
     clear BK317
     clear BK336
     clear HB
     have HO335 := n0_
     have BK316 := n1_
     have BK317 := n2_
     have BK336 := n3_
     have HB := n4_
     clear n0_ n1_ n2_ n3_ n4_
     (try clear hb)
     (try clear hb2)
     (try clear hk)
     (try clear hi)
     (try clear ho0)
     refine hK.out _ _ ⟨bc BK316 0, bc BK316 1, bc BK316 2, bc BK317 0, bc BK317 1, bc BK317 2, bc BK317 3, bc BK317 4, bc BK317 5, bc BK317 6⟩ (fun hHeld => ?_)
     clear hK K
     refine np (h := ?_)
     refine pu 5 24 HT_ (h := ?_)
     refine pu 6 30 HT_ (h := ?_)
     refine pu 7 31 HT_ (h := ?_)
     exact nq (hCont (v334, gb336) _ ⟨hHeld, (rN HO335.out), (kN BK316.out), (kN BK317.out), (kN BK336.out), GW336.out, GE336.out, NB316_336.out, NB336_316.out, NB317_336.out, NB336_317.out, (bN HB.out)⟩)
   rintro ⟨v334, gb336⟩ w38 ⟨hS_, h0_, h1_, h2_, h3_, h4_, h5_, h6_, h7_, h8_, h9_, h10_⟩
   have n0_ : Aside0 (Kd.R Kd.string 9 w38 w.heap.size (fun _ => True) v334 t333) := ⟨h0_⟩
   have n1_ : Aside0 (w38.heap[gb316]? = some (.cells #[.int .i64 a0_0, .bool a0_1, .string a0_2] 23 (0, 0))) := ⟨h1_⟩
   have n2_ : Aside0 (w38.heap[gb317]? = some (.cells #[.int .i64 a1_0, .int .i64 a1_1, .int .i64 a1_2, .int .i64 a1_3, .int .i64 a1_4, .string a1_5, .string a1_6] 25 (0, 0))) := ⟨h2_⟩
   have n3_ : Aside0 (w38.heap[gb336]? = some (.cells #[.int .i64 0, .bool false, .string (⟨#[]⟩ : ByteArray)] 28 (0, 0))) := ⟨h3_⟩
   have n4_ : Aside0 (w.heap.size ≤ gb336) := ⟨h4_⟩
   have n5_ : Aside0 (w.heap.size ≤ gb336) := ⟨h5_⟩
   have n6_ : Aside0 (gb316 ≠ gb336) := ⟨h6_⟩
   have n7_ : Aside0 (gb336 ≠ gb316) := ⟨h7_⟩
   have n8_ : Aside0 (gb317 ≠ gb336) := ⟨h8_⟩
   have n9_ : Aside0 (gb336 ≠ gb317) := ⟨h9_⟩
   have n10_ : Aside0 (Below w.heap.size w w38) := ⟨h10_⟩
   clear BK316
   clear BK317
   clear HB
   clear h0_ h1_ h2_ h3_ h4_ h5_ h6_ h7_ h8_ h9_ h10_
   have HO335 := n0_
   have BK316 := n1_
   have BK317 := n2_
   have BK336 := n3_
   have GW336 := n4_
   have GE336 := n5_
   have NB316_336 := n6_
   have NB336_316 := n7_
   have NB317_336 := n8_
   have NB336_317 := n9_
   have HB := n10_
   clear n0_ n1_ n2_ n3_ n4_ n5_ n6_ n7_ n8_ n9_ n10_
   have hHeld : w38.cell? ⟨gb316, 0, none⟩ = some (.int .i64 a0_0) ∧ w38.cell? ⟨gb316, 1, none⟩ = some (.bool a0_1) ∧ w38.cell? ⟨gb316, 2, none⟩ = some (.string a0_2) ∧ w38.cell? ⟨gb317, 0, none⟩ = some (.int .i64 a1_0) ∧ w38.cell? ⟨gb317, 1, none⟩ = some (.int .i64 a1_1) ∧ w38.cell? ⟨gb317, 2, none⟩ = some (.int .i64 a1_2) ∧ w38.cell? ⟨gb317, 3, none⟩ = some (.int .i64 a1_3) ∧ w38.cell? ⟨gb317, 4, none⟩ = some (.int .i64 a1_4) ∧ w38.cell? ⟨gb317, 5, none⟩ = some (.string a1_5) ∧ w38.cell? ⟨gb317, 6, none⟩ = some (.string a1_6) := hS_
   refine norm_ (a' := ?_) ?_ ?_
   rotate_left
   ·simp only [putAll, Act.put, List.setIfInBounds_toArray, List.set_cons_zero, List.set_cons_succ]
    rfl
   refine one_ (i := 9) (N := none) #[true, true, true, true, true, true, true, true, true, true, false] rfl rfl (one_of HT_.out (by kernel_rfl)) (by decide) (fun K hK => ?_)
   have hs39 : w38.cell? ⟨gb336, 0, none⟩ = some (.int .i64 0) := bc BK336 0
   have hfs39 := blk_frozen BK336.out 0
   have hns39_0 := NB316_336.out
   have hns39_1 := NB317_336.out
   have hms39_0 := NB336_316.out
   have hms39_1 := NB336_317.out
   have hs40 : w38.cell? ⟨gb336, 1, none⟩ = some (.bool false) := bc BK336 1
   have hfs40 := blk_frozen BK336.out 1
   have hns40_0 := NB316_336.out
   have hns40_1 := NB317_336.out
   have hms40_0 := NB336_316.out
   have hms40_1 := NB336_317.out
   have hs41 : w38.cell? ⟨gb336, 2, none⟩ = some (.string (⟨#[]⟩ : ByteArray)) := bc BK336 2
   have hfs41 := blk_frozen BK336.out 2
   have hns41_0 := NB316_336.out
   have hns41_1 := NB317_336.out
   have hms41_0 := NB336_316.out
   have hms41_1 := NB336_317.out
   refine skip_ (w1 := ?_) (by rfl) rfl ?_ ?_
   rotate_left
   ·go_simp
    rfl
   refine hK.out _ _ ⟨((cell_far (p := ⟨gb336, _, none⟩) NB316_336.out _).trans (((cell_far (p := ⟨gb336, _, none⟩) NB316_336.out _).trans (((cell_far (p := ⟨gb336, _, none⟩) NB316_336.out _).trans (hHeld.1)))))), ((cell_far (p := ⟨gb336, _, none⟩) NB316_336.out _).trans (((cell_far (p := ⟨gb336, _, none⟩) NB316_336.out _).trans (((cell_far (p := ⟨gb336, _, none⟩) NB316_336.out _).trans (hHeld.2.1)))))), ((cell_far (p := ⟨gb336, _, none⟩) NB316_336.out _).trans (((cell_far (p := ⟨gb336, _, none⟩) NB316_336.out _).trans (((cell_far (p := ⟨gb336, _, none⟩) NB316_336.out _).trans (hHeld.2.2.1)))))), ((cell_far (p := ⟨gb336, _, none⟩) NB317_336.out _).trans (((cell_far (p := ⟨gb336, _, none⟩) NB317_336.out _).trans (((cell_far (p := ⟨gb336, _, none⟩) NB317_336.out _).trans (hHeld.2.2.2.1)))))), ((cell_far (p := ⟨gb336, _, none⟩) NB317_336.out _).trans (((cell_far (p := ⟨gb336, _, none⟩) NB317_336.out _).trans (((cell_far (p := ⟨gb336, _, none⟩) NB317_336.out _).trans (hHeld.2.2.2.2.1)))))), ((cell_far (p := ⟨gb336, _, none⟩) NB317_336.out _).trans (((cell_far (p := ⟨gb336, _, none⟩) NB317_336.out _).trans (((cell_far (p := ⟨gb336, _, none⟩) NB317_336.out _).trans (hHeld.2.2.2.2.2.1)))))), ((cell_far (p := ⟨gb336, _, none⟩) NB317_336.out _).trans (((cell_far (p := ⟨gb336, _, none⟩) NB317_336.out _).trans (((cell_far (p := ⟨gb336, _, none⟩) NB317_336.out _).trans (hHeld.2.2.2.2.2.2.1)))))), ((cell_far (p := ⟨gb336, _, none⟩) NB317_336.out _).trans (((cell_far (p := ⟨gb336, _, none⟩) NB317_336.out _).trans (((cell_far (p := ⟨gb336, _, none⟩) NB317_336.out _).trans (hHeld.2.2.2.2.2.2.2.1)))))), ((cell_far (p := ⟨gb336, _, none⟩) NB317_336.out _).trans (((cell_far (p := ⟨gb336, _, none⟩) NB317_336.out _).trans (((cell_far (p := ⟨gb336, _, none⟩) NB317_336.out _).trans (hHeld.2.2.2.2.2.2.2.2.1)))))), ((cell_far (p := ⟨gb336, _, none⟩) NB317_336.out _).trans (((cell_far (p := ⟨gb336, _, none⟩) NB317_336.out _).trans (((cell_far (p := ⟨gb336, _, none⟩) NB317_336.out _).trans (hHeld.2.2.2.2.2.2.2.2.2))))))⟩ (fun hHeld => ?_)
   clear hK K
   refine pu 10 7 HT_ (h := ?_)
   refine done_ (done_of HT_.out (by kernel_rfl)) ?_
   try go_wp2
   have n0_ : Aside0 (Kd.R Kd.string 9 (((w38.setCell ⟨gb336, 0, none⟩ (.int .i64 t330)).setCell ⟨gb336, 1, none⟩ (.bool t331)).setCell ⟨gb336, 2, none⟩ (.string t332)) w.heap.size (fun _ => True) v334 t333) := ⟨by (with_reducible repeat (first | apply Kd.R_alloc | apply Kd.R_drewN | apply Kd.R_drew)); exact frM (Kd.R_types HO335.out BK336.out (by decide))⟩
   have n1_ : Aside0 ((((w38.setCell ⟨gb336, 0, none⟩ (.int .i64 t330)).setCell ⟨gb336, 1, none⟩ (.bool t331)).setCell ⟨gb336, 2, none⟩ (.string t332)).heap[gb316]? = some (.cells #[.int .i64 a0_0, .bool a0_1, .string a0_2] 23 (0, 0))) := ⟨kF BK316.out NB316_336.out⟩
   have n2_ : Aside0 ((((w38.setCell ⟨gb336, 0, none⟩ (.int .i64 t330)).setCell ⟨gb336, 1, none⟩ (.bool t331)).setCell ⟨gb336, 2, none⟩ (.string t332)).heap[gb317]? = some (.cells #[.int .i64 a1_0, .int .i64 a1_1, .int .i64 a1_2, .int .i64 a1_3, .int .i64 a1_4, .string a1_5, .string a1_6] 25 (0, 0))) := ⟨kF BK317.out NB317_336.out⟩
   have n3_ : Aside0 ((((w38.setCell ⟨gb336, 0, none⟩ (.int .i64 t330)).setCell ⟨gb336, 1, none⟩ (.bool t331)).setCell ⟨gb336, 2, none⟩ (.string t332)).heap[gb336]? = some (.cells #[.int .i64 t330, .bool t331, .string t332] 28 (0, 0))) := ⟨kP BK336.out⟩
   have n4_ : Aside0 (Below w.heap.size w (((w38.setCell ⟨gb336, 0, none⟩ (.int .i64 t330)).setCell ⟨gb336, 1, none⟩ (.bool t331)).setCell ⟨gb336, 2, none⟩ (.string t332))) := ⟨by repeat (first | (with_reducible first | exact HB.out | apply below_alloc | apply pw_below_drewN | apply below_drew1 | refine below_set ?_ GE316.out | refine below_set ?_ GE317.out | refine below_set ?_ GE336.out) | exact HB.out)⟩
   (try clear HO335)
   (try clear BK316)
   (try clear BK317)
   (try clear BK336)
   (try clear HB)
   generalize (((w38.setCell ⟨gb336, 0, none⟩ (.int .i64 t330)).setCell ⟨gb336, 1, none⟩ (.bool t331)).setCell ⟨gb336, 2, none⟩ (.string t332)) = w42 at n0_ n1_ n2_ n3_ n4_ ⊢
   have HO335 := n0_
   have BK316 := n1_
   have BK317 := n2_
   have BK336 := n3_
   have HB := n4_
   clear n0_ n1_ n2_ n3_ n4_
   have n0_ := m_ (Kd.R_drew HO335.out)
   have n1_ := m_ (blk_drew BK316.out)
   have n2_ := m_ (blk_drew BK317.out)
   have n3_ := m_ (blk_drew BK336.out)
   have n4_ := m_ (below_drew1 HB.out)
   clear HO335
   clear BK316
   clear BK317
   clear BK336
   clear HB
   have HO335 := n0_
   have BK316 := n1_
   have BK317 := n2_
   have BK336 := n3_
   have HB := n4_
   clear n0_ n1_ n2_ n3_ n4_
   refine start_ (n := 11) (S := fun w' => w'.cell? ⟨gb316, 0, none⟩ = some (.int .i64 a0_0) ∧ w'.cell? ⟨gb316, 1, none⟩ = some (.bool a0_1) ∧ w'.cell? ⟨gb316, 2, none⟩ = some (.string a0_2) ∧ w'.cell? ⟨gb317, 0, none⟩ = some (.int .i64 a1_0) ∧ w'.cell? ⟨gb317, 1, none⟩ = some (.int .i64 a1_1) ∧ w'.cell? ⟨gb317, 2, none⟩ = some (.int .i64 a1_2) ∧ w'.cell? ⟨gb317, 3, none⟩ = some (.int .i64 a1_3) ∧ w'.cell? ⟨gb317, 4, none⟩ = some (.int .i64 a1_4) ∧ w'.cell? ⟨gb317, 5, none⟩ = some (.string a1_5) ∧ w'.cell? ⟨gb317, 6, none⟩ = some (.string a1_6)) (ds := []) #[false, false, false, false, false, false, false, false, false, false, false] (by kernel_rfl) rfl rfl ⟨bc BK316 0, bc BK316 1, bc BK316 2, bc BK317 0, bc BK317 1, bc BK317 2, bc BK317 3, bc BK317 4, bc BK317 5, bc BK317 6⟩ (fun hHeld => ?_); refine with_tabW laws_FnExactHearsDown.tab9 laws_FnExactHearsDown.bits9 (fun HT_ HW_ => ?_)
   generalize w42.drew = w43 at HO335 BK316 BK317 BK336 HB hHeld ⊢
   refine take_ (i := 0) (N := some 33) (v := ?_) (a' := ?_) #[true, false, false, false, false, false, false, false, false, false, false] rfl rfl (take_ofW HT_.out HW_.out (by kernel_rfl)) (fun _ _ _ h => h) (Or.inl ⟨by rfl, ?_⟩) hHeld ?_ ?_
   rotate_left
   ·rintro w' ⟨s0, s1, s2, s3, s4, s5, s6, s7, s8, s9⟩
    go_simp
    with_reducible rfl
   rotate_left
   ·simp only [Act.put, List.setIfInBounds_toArray, List.set_cons_zero, List.set_cons_succ, i64_w, i32_w]
    rfl
   refine take_ (i := 2) (N := some 35) (v := ?_) (a' := ?_) #[true, false, true, false, false, false, false, false, false, false, false] rfl rfl (take_ofW HT_.out HW_.out (by kernel_rfl)) (fun _ _ _ h => h) (Or.inl ⟨by rfl, ?_⟩) hHeld ?_ ?_
   rotate_left
   ·rintro w' ⟨s0, s1, s2, s3, s4, s5, s6, s7, s8, s9⟩
    go_simp
    with_reducible rfl
   rotate_left
   ·simp only [Act.put, List.setIfInBounds_toArray, List.set_cons_zero, List.set_cons_succ, i64_w, i32_w]
    rfl
   refine join_ (σ := Value × Nat) 2 #[true, true, true, true, true, true, true, true, true, false, false] (fun s_ => [(34, .agg #[.int .i64 t337, .bool t338, .string t339]), (36, .agg #[.int .i64 t340, .int .i64 t341, .int .i64 t342, .int .i64 t343, .int .i64 t344, .string t345, .string t346]), (37, .tuple #[.agg #[.int .i64 t347, .bool t348, .string t349], s_.1]), (8, .pointer (some ⟨s_.2, 0, none⟩)), (32, .tuple #[.agg #[.int .i64 t347, .bool t348, .string t349], s_.1]), (38, .agg #[.int .i64 t347, .bool t348, .string t349]), (39, s_.1)]) (fun s_ w' => (w'.cell? ⟨gb316, 0, none⟩ = some (.int .i64 a0_0) ∧ w'.cell? ⟨gb316, 1, none⟩ = some (.bool a0_1) ∧ w'.cell? ⟨gb316, 2, none⟩ = some (.string a0_2) ∧ w'.cell? ⟨gb317, 0, none⟩ = some (.int .i64 a1_0) ∧ w'.cell? ⟨gb317, 1, none⟩ = some (.int .i64 a1_1) ∧ w'.cell? ⟨gb317, 2, none⟩ = some (.int .i64 a1_2) ∧ w'.cell? ⟨gb317, 3, none⟩ = some (.int .i64 a1_3) ∧ w'.cell? ⟨gb317, 4, none⟩ = some (.int .i64 a1_4) ∧ w'.cell? ⟨gb317, 5, none⟩ = some (.string a1_5) ∧ w'.cell? ⟨gb317, 6, none⟩ = some (.string a1_6)) ∧ (Kd.R Kd.string 9 w' w.heap.size (fun k_ => some k_ ≠ (s_.1 : Value).ownBlock) v334 t333) ∧ (Kd.R Kd.string 9 w' w.heap.size (fun k_ => some k_ ≠ (v334 : Value).ownBlock) s_.1 t350) ∧ (w'.heap[gb316]? = some (.cells #[.int .i64 a0_0, .bool a0_1, .string a0_2] 23 (0, 0))) ∧ (w'.heap[gb317]? = some (.cells #[.int .i64 a1_0, .int .i64 a1_1, .int .i64 a1_2, .int .i64 a1_3, .int .i64 a1_4, .string a1_5, .string a1_6] 25 (0, 0))) ∧ (w'.heap[gb336]? = some (.cells #[.int .i64 t330, .bool t331, .string t332] 28 (0, 0))) ∧ (w'.heap[s_.2]? = some (.cells #[.int .i64 0, .bool false, .string (⟨#[]⟩ : ByteArray)] 28 (0, 0))) ∧ (w.heap.size ≤ s_.2) ∧ (w.heap.size ≤ s_.2) ∧ (gb316 ≠ s_.2) ∧ (s_.2 ≠ gb316) ∧ (gb317 ≠ s_.2) ∧ (s_.2 ≠ gb317) ∧ (gb336 ≠ s_.2) ∧ (s_.2 ≠ gb336) ∧ (Below w.heap.size w w')) ?_ ?_
   rotate_left
   ·intro hCont
    refine two_ (i := 1) (j := 8) (Ni := some 34) (Nj := some 8) #[true, true, true, false, false, false, false, false, false, false, false] #[true, false, true, false, false, false, false, false, true, false, false] rfl rfl rfl rfl (two_of HT_.out (by kernel_rfl)) (by decide) (by decide) (fun K hK => ?_) (fun K hK => ?_)
    ·skip
     refine goes_ Tryd.func7 (by kernel_rfl) rfl #[.agg #[.int .i64 a0_0, .bool a0_1, .string a0_2]] (by rfl) rfl rfl gl_ ?_
     with_reducible refine (laws_toHears.calls a0_0 a0_1 a0_2 t337 t338 t339 _ A22.out).mono ?_
     rintro e w44 ⟨rfl, hb⟩
     refine ⟨_, rfl, ?_⟩
     have n0_ := m_ (Kd.R_below (rN HO335.out) hb)
     have n1_ := m_ (blk_below (kN BK316.out) hb)
     have n2_ := m_ (blk_below (kN BK317.out) hb)
     have n3_ := m_ (blk_below (kN BK336.out) hb)
     have n4_ := m_ (below_step (bN HB.out) hb)
     clear HO335
     clear BK316
     clear BK317
     clear BK336
     clear HB
     have HO335 := n0_
     have BK316 := n1_
     have BK317 := n2_
     have BK336 := n3_
     have HB := n4_
     clear n0_ n1_ n2_ n3_ n4_
     (try clear hb)
     (try clear hb2)
     (try clear hk)
     (try clear hi)
     refine hK.out _ _ ⟨bc BK316 0, bc BK316 1, bc BK316 2, bc BK317 0, bc BK317 1, bc BK317 2, bc BK317 3, bc BK317 4, bc BK317 5, bc BK317 6⟩ (fun hHeld => ?_)
     clear hK K
     refine np (h := ?_)
     refine two_ (i := 3) (j := 8) (Ni := some 36) (Nj := some 8) #[true, true, true, true, false, false, false, false, false, false, false] #[true, true, true, false, false, false, false, false, true, false, false] rfl rfl rfl rfl (two_of HT_.out (by kernel_rfl)) (by decide) (by decide) (fun K hK => ?_) (fun K hK => ?_)
     ·skip
      refine goes_ Tryd.func8 (by kernel_rfl) rfl #[.agg #[.int .i64 a1_0, .int .i64 a1_1, .int .i64 a1_2, .int .i64 a1_3, .int .i64 a1_4, .string a1_5, .string a1_6]] (by rfl) rfl rfl gl_ ?_
      with_reducible refine (laws_toDown.calls a1_0 a1_1 a1_2 a1_3 a1_4 a1_5 a1_6 t340 t341 t342 t343 t344 t345 t346 _ A23.out).mono ?_
      rintro e w45 ⟨rfl, hb⟩
      refine ⟨_, rfl, ?_⟩
      have n0_ := m_ (Kd.R_below (rN HO335.out) hb)
      have n1_ := m_ (blk_below (kN BK316.out) hb)
      have n2_ := m_ (blk_below (kN BK317.out) hb)
      have n3_ := m_ (blk_below (kN BK336.out) hb)
      have n4_ := m_ (below_step (bN HB.out) hb)
      clear HO335
      clear BK316
      clear BK317
      clear BK336
      clear HB
      have HO335 := n0_
      have BK316 := n1_
      have BK317 := n2_
      have BK336 := n3_
      have HB := n4_
      clear n0_ n1_ n2_ n3_ n4_
      (try clear hb)
      (try clear hb2)
      (try clear hk)
      (try clear hi)
      refine hK.out _ _ ⟨bc BK316 0, bc BK316 1, bc BK316 2, bc BK317 0, bc BK317 1, bc BK317 2, bc BK317 3, bc BK317 4, bc BK317 5, bc BK317 6⟩ (fun hHeld => ?_)
      clear hK K
      refine np (h := ?_)
      refine two_ (i := 4) (j := 8) (Ni := some 37) (Nj := some 8) #[true, true, true, true, true, false, false, false, false, false, false] #[true, true, true, true, false, false, false, false, true, false, false] rfl rfl rfl rfl (two_of HT_.out (by kernel_rfl)) (by decide) (by decide) (fun K hK => ?_) (fun K hK => ?_)
      ·skip
       refine goes_ Tryd.func9 (by kernel_rfl) rfl #[.agg #[.int .i64 t337, .bool t338, .string t339], .agg #[.int .i64 t340, .int .i64 t341, .int .i64 t342, .int .i64 t343, .int .i64 t344, .string t345, .string t346]] (by rfl) rfl rfl gl_ ?_
       with_reducible refine (impl_HearsDown.calls k t337 t338 t339 t340 t341 t342 t343 t344 t345 t346 t347 t348 t349 t350 _ A24.out).mono ?_
       rintro e w46 ⟨v351, rfl, ho0, hb⟩
       refine ⟨_, rfl, ?_⟩
       have n0_ := m_ (Kd.R_elder' (rN HO335.out) (Kd.R_base ho0) hb)
       have n1_ := m_ (Kd.R_lower (Kd.R_new' ho0 (Kd.R_lt (rN HO335.out))) (below_size (bN HB.out)))
       have n2_ := m_ (blk_below (kN BK316.out) hb)
       have n3_ := m_ (blk_below (kN BK317.out) hb)
       have n4_ := m_ (blk_below (kN BK336.out) hb)
       have n5_ := m_ (below_step (bN HB.out) hb)
       clear HO335
       clear BK316
       clear BK317
       clear BK336
       clear HB
       have HO335 := n0_
       have HO352 := n1_
       have BK316 := n2_
       have BK317 := n3_
       have BK336 := n4_
       have HB := n5_
       clear n0_ n1_ n2_ n3_ n4_ n5_
       (try clear hb)
       (try clear hb2)
       (try clear hk)
       (try clear hi)
       (try clear ho0)
       refine hK.out _ _ ⟨bc BK316 0, bc BK316 1, bc BK316 2, bc BK317 0, bc BK317 1, bc BK317 2, bc BK317 3, bc BK317 4, bc BK317 5, bc BK317 6⟩ (fun hHeld => ?_)
       clear hK K
       refine np (h := ?_)
       refine pu 5 32 HT_ (h := ?_)
       refine pu 6 38 HT_ (h := ?_)
       refine pu 7 39 HT_ (h := ?_)
       refine one_ (i := 8) (N := some 8) #[true, true, true, true, true, true, true, true, true, false, false] rfl rfl (one_of HT_.out (by kernel_rfl)) (by decide) (fun K hK => ?_)
       refine box_step ?hg (N := 8) ?hd (cs := #[.int .i64 0, .bool false, .string (⟨#[]⟩ : ByteArray)]) (t := 28) ?hr ?_; (case hd => rfl); (case hg => rfl); (case hr => first | (go_simp; done) | (go_simp; rfl))
       intro gb353 hg w47 hbox hb
       have n0_ := m_ (Kd.R_below (rN HO335.out) hb)
       have n1_ := m_ (Kd.R_below (rN HO352.out) hb)
       have n2_ := m_ (blk_below (kN BK316.out) hb)
       have n3_ := m_ (blk_below (kN BK317.out) hb)
       have n4_ := m_ (blk_below (kN BK336.out) hb)
       have n5_ := m_ (below_step (bN HB.out) hb)
       have n6_ := m_ (hbox)
       have n7_ := m_ ((by rw [hg]; exact (below_size (bN HB.out)) : w.heap.size ≤ gb353))
       have n8_ := m_ ((by rw [hg]; exact (below_size (bN HB.out)) : w.heap.size ≤ gb353))
       have n9_ := m_ (nL hg BK316.out)
       have n10_ := m_ (nG hg BK316.out)
       have n11_ := m_ (nL hg BK317.out)
       have n12_ := m_ (nG hg BK317.out)
       have n13_ := m_ (nL hg BK336.out)
       have n14_ := m_ (nG hg BK336.out)
       clear HO335
       clear HO352
       clear BK316
       clear BK317
       clear BK336
       clear HB
       have HO335 := n0_
       have HO352 := n1_
       have BK316 := n2_
       have BK317 := n3_
       have BK336 := n4_
       have HB := n5_
       have BK353 := n6_
       have GW353 := n7_
       have GE353 := n8_
       have NB316_353 := n9_
       have NB353_316 := n10_
       have NB317_353 := n11_
       have NB353_317 := n12_
       have NB336_353 := n13_
       have NB353_336 := n14_
       clear n0_ n1_ n2_ n3_ n4_ n5_ n6_ n7_ n8_ n9_ n10_ n11_ n12_ n13_ n14_
       clear hb hbox hg
       refine hK.out _ _ ⟨bc BK316 0, bc BK316 1, bc BK316 2, bc BK317 0, bc BK317 1, bc BK317 2, bc BK317 3, bc BK317 4, bc BK317 5, bc BK317 6⟩ (fun hHeld => ?_)
       clear hK K
       refine np (h := ?_)
       exact nq (hCont (v351, gb353) _ ⟨hHeld, (rN (Kd.R_mono HO335.out (fun _ hk => hk.2))), (rN (Kd.R_mono HO352.out (fun _ hk => hk.2))), (kN BK316.out), (kN BK317.out), (kN BK336.out), (kN BK353.out), GW353.out, GE353.out, NB316_353.out, NB353_316.out, NB317_353.out, NB353_317.out, NB336_353.out, NB353_336.out, (bN HB.out)⟩)
      ·skip
       refine box_step ?hg (N := 8) ?hd (cs := #[.int .i64 0, .bool false, .string (⟨#[]⟩ : ByteArray)]) (t := 28) ?hr ?_; (case hd => rfl); (case hg => rfl); (case hr => first | (go_simp; done) | (go_simp; rfl))
       intro gb353 hg w46 hbox hb
       have n0_ := m_ (Kd.R_below (rN HO335.out) hb)
       have n1_ := m_ (blk_below (kN BK316.out) hb)
       have n2_ := m_ (blk_below (kN BK317.out) hb)
       have n3_ := m_ (blk_below (kN BK336.out) hb)
       have n4_ := m_ (below_step (bN HB.out) hb)
       have n5_ := m_ (hbox)
       have n6_ := m_ ((by rw [hg]; exact (below_size (bN HB.out)) : w.heap.size ≤ gb353))
       have n7_ := m_ ((by rw [hg]; exact (below_size (bN HB.out)) : w.heap.size ≤ gb353))
       have n8_ := m_ (nL hg BK316.out)
       have n9_ := m_ (nG hg BK316.out)
       have n10_ := m_ (nL hg BK317.out)
       have n11_ := m_ (nG hg BK317.out)
       have n12_ := m_ (nL hg BK336.out)
       have n13_ := m_ (nG hg BK336.out)
       clear HO335
       clear BK316
       clear BK317
       clear BK336
       clear HB
       have HO335 := n0_
       have BK316 := n1_
       have BK317 := n2_
       have BK336 := n3_
       have HB := n4_
       have BK353 := n5_
       have GW353 := n6_
       have GE353 := n7_
       have NB316_353 := n8_
       have NB353_316 := n9_
       have NB317_353 := n10_
       have NB353_317 := n11_
       have NB336_353 := n12_
       have NB353_336 := n13_
       clear n0_ n1_ n2_ n3_ n4_ n5_ n6_ n7_ n8_ n9_ n10_ n11_ n12_ n13_
       clear hb hbox hg
       refine hK.out _ _ ⟨bc BK316 0, bc BK316 1, bc BK316 2, bc BK317 0, bc BK317 1, bc BK317 2, bc BK317 3, bc BK317 4, bc BK317 5, bc BK317 6⟩ (fun hHeld => ?_)
       clear hK K
       refine np (h := ?_)
       refine one_ (i := 4) (N := some 37) #[true, true, true, true, true, false, false, false, true, false, false] rfl rfl (one_of HT_.out (by kernel_rfl)) (by decide) (fun K hK => ?_)
       refine goes_ Tryd.func9 (by kernel_rfl) rfl #[.agg #[.int .i64 t337, .bool t338, .string t339], .agg #[.int .i64 t340, .int .i64 t341, .int .i64 t342, .int .i64 t343, .int .i64 t344, .string t345, .string t346]] (by rfl) rfl rfl gl_ ?_
       with_reducible refine (impl_HearsDown.calls k t337 t338 t339 t340 t341 t342 t343 t344 t345 t346 t347 t348 t349 t350 _ A24.out).mono ?_
       rintro e w47 ⟨v351, rfl, ho0, hb⟩
       refine ⟨_, rfl, ?_⟩
       have n0_ := m_ (Kd.R_elder' (rN HO335.out) (Kd.R_base ho0) hb)
       have n1_ := m_ (Kd.R_lower (Kd.R_new' ho0 (Kd.R_lt (rN HO335.out))) (below_size (bN HB.out)))
       have n2_ := m_ (blk_below (kN BK316.out) hb)
       have n3_ := m_ (blk_below (kN BK317.out) hb)
       have n4_ := m_ (blk_below (kN BK336.out) hb)
       have n5_ := m_ (blk_below (g := gb353) (o := .cells #[.int .i64 0, .bool false, .string (⟨#[]⟩ : ByteArray)] 28 (0, 0)) (kN BK353.out) hb)
       have n6_ := m_ (below_step (bN HB.out) hb)
       clear HO335
       clear BK316
       clear BK317
       clear BK336
       clear BK353
       clear HB
       have HO335 := n0_
       have HO352 := n1_
       have BK316 := n2_
       have BK317 := n3_
       have BK336 := n4_
       have BK353 := n5_
       have HB := n6_
       clear n0_ n1_ n2_ n3_ n4_ n5_ n6_
       (try clear hb)
       (try clear hb2)
       (try clear hk)
       (try clear hi)
       (try clear ho0)
       refine hK.out _ _ ⟨bc BK316 0, bc BK316 1, bc BK316 2, bc BK317 0, bc BK317 1, bc BK317 2, bc BK317 3, bc BK317 4, bc BK317 5, bc BK317 6⟩ (fun hHeld => ?_)
       clear hK K
       refine np (h := ?_)
       refine pu 5 32 HT_ (h := ?_)
       refine pu 6 38 HT_ (h := ?_)
       refine pu 7 39 HT_ (h := ?_)
       exact nq (hCont (v351, gb353) _ ⟨hHeld, (rN (Kd.R_mono HO335.out (fun _ hk => hk.2))), (rN (Kd.R_mono HO352.out (fun _ hk => hk.2))), (kN BK316.out), (kN BK317.out), (kN BK336.out), (kN BK353.out), GW353.out, GE353.out, NB316_353.out, NB353_316.out, NB317_353.out, NB353_317.out, NB336_353.out, NB353_336.out, (bN HB.out)⟩)
     ·skip
      refine box_step ?hg (N := 8) ?hd (cs := #[.int .i64 0, .bool false, .string (⟨#[]⟩ : ByteArray)]) (t := 28) ?hr ?_; (case hd => rfl); (case hg => rfl); (case hr => first | (go_simp; done) | (go_simp; rfl))
      intro gb353 hg w45 hbox hb
      have n0_ := m_ (Kd.R_below (rN HO335.out) hb)
      have n1_ := m_ (blk_below (kN BK316.out) hb)
      have n2_ := m_ (blk_below (kN BK317.out) hb)
      have n3_ := m_ (blk_below (kN BK336.out) hb)
      have n4_ := m_ (below_step (bN HB.out) hb)
      have n5_ := m_ (hbox)
      have n6_ := m_ ((by rw [hg]; exact (below_size (bN HB.out)) : w.heap.size ≤ gb353))
      have n7_ := m_ ((by rw [hg]; exact (below_size (bN HB.out)) : w.heap.size ≤ gb353))
      have n8_ := m_ (nL hg BK316.out)
      have n9_ := m_ (nG hg BK316.out)
      have n10_ := m_ (nL hg BK317.out)
      have n11_ := m_ (nG hg BK317.out)
      have n12_ := m_ (nL hg BK336.out)
      have n13_ := m_ (nG hg BK336.out)
      clear HO335
      clear BK316
      clear BK317
      clear BK336
      clear HB
      have HO335 := n0_
      have BK316 := n1_
      have BK317 := n2_
      have BK336 := n3_
      have HB := n4_
      have BK353 := n5_
      have GW353 := n6_
      have GE353 := n7_
      have NB316_353 := n8_
      have NB353_316 := n9_
      have NB317_353 := n10_
      have NB353_317 := n11_
      have NB336_353 := n12_
      have NB353_336 := n13_
      clear n0_ n1_ n2_ n3_ n4_ n5_ n6_ n7_ n8_ n9_ n10_ n11_ n12_ n13_
      clear hb hbox hg
      refine hK.out _ _ ⟨bc BK316 0, bc BK316 1, bc BK316 2, bc BK317 0, bc BK317 1, bc BK317 2, bc BK317 3, bc BK317 4, bc BK317 5, bc BK317 6⟩ (fun hHeld => ?_)
      clear hK K
      refine np (h := ?_)
      refine one_ (i := 3) (N := some 36) #[true, true, true, true, false, false, false, false, true, false, false] rfl rfl (one_of HT_.out (by kernel_rfl)) (by decide) (fun K hK => ?_)
      refine goes_ Tryd.func8 (by kernel_rfl) rfl #[.agg #[.int .i64 a1_0, .int .i64 a1_1, .int .i64 a1_2, .int .i64 a1_3, .int .i64 a1_4, .string a1_5, .string a1_6]] (by rfl) rfl rfl gl_ ?_
      with_reducible refine (laws_toDown.calls a1_0 a1_1 a1_2 a1_3 a1_4 a1_5 a1_6 t340 t341 t342 t343 t344 t345 t346 _ A23.out).mono ?_
      rintro e w46 ⟨rfl, hb⟩
      refine ⟨_, rfl, ?_⟩
      have n0_ := m_ (Kd.R_below (rN HO335.out) hb)
      have n1_ := m_ (blk_below (kN BK316.out) hb)
      have n2_ := m_ (blk_below (kN BK317.out) hb)
      have n3_ := m_ (blk_below (kN BK336.out) hb)
      have n4_ := m_ (blk_below (g := gb353) (o := .cells #[.int .i64 0, .bool false, .string (⟨#[]⟩ : ByteArray)] 28 (0, 0)) (kN BK353.out) hb)
      have n5_ := m_ (below_step (bN HB.out) hb)
      clear HO335
      clear BK316
      clear BK317
      clear BK336
      clear BK353
      clear HB
      have HO335 := n0_
      have BK316 := n1_
      have BK317 := n2_
      have BK336 := n3_
      have BK353 := n4_
      have HB := n5_
      clear n0_ n1_ n2_ n3_ n4_ n5_
      (try clear hb)
      (try clear hb2)
      (try clear hk)
      (try clear hi)
      refine hK.out _ _ ⟨bc BK316 0, bc BK316 1, bc BK316 2, bc BK317 0, bc BK317 1, bc BK317 2, bc BK317 3, bc BK317 4, bc BK317 5, bc BK317 6⟩ (fun hHeld => ?_)
      clear hK K
      refine np (h := ?_)
      refine one_ (i := 4) (N := some 37) #[true, true, true, true, true, false, false, false, true, false, false] rfl rfl (one_of HT_.out (by kernel_rfl)) (by decide) (fun K hK => ?_)
      refine goes_ Tryd.func9 (by kernel_rfl) rfl #[.agg #[.int .i64 t337, .bool t338, .string t339], .agg #[.int .i64 t340, .int .i64 t341, .int .i64 t342, .int .i64 t343, .int .i64 t344, .string t345, .string t346]] (by rfl) rfl rfl gl_ ?_
      with_reducible refine (impl_HearsDown.calls k t337 t338 t339 t340 t341 t342 t343 t344 t345 t346 t347 t348 t349 t350 _ A24.out).mono ?_
      rintro e w47 ⟨v351, rfl, ho0, hb⟩
      refine ⟨_, rfl, ?_⟩
      have n0_ := m_ (Kd.R_elder' (rN HO335.out) (Kd.R_base ho0) hb)
      have n1_ := m_ (Kd.R_lower (Kd.R_new' ho0 (Kd.R_lt (rN HO335.out))) (below_size (bN HB.out)))
      have n2_ := m_ (blk_below (kN BK316.out) hb)
      have n3_ := m_ (blk_below (kN BK317.out) hb)
      have n4_ := m_ (blk_below (kN BK336.out) hb)
      have n5_ := m_ (blk_below (g := gb353) (o := .cells #[.int .i64 0, .bool false, .string (⟨#[]⟩ : ByteArray)] 28 (0, 0)) (kN BK353.out) hb)
      have n6_ := m_ (below_step (bN HB.out) hb)
      clear HO335
      clear BK316
      clear BK317
      clear BK336
      clear BK353
      clear HB
      have HO335 := n0_
      have HO352 := n1_
      have BK316 := n2_
      have BK317 := n3_
      have BK336 := n4_
      have BK353 := n5_
      have HB := n6_
      clear n0_ n1_ n2_ n3_ n4_ n5_ n6_
      (try clear hb)
      (try clear hb2)
      (try clear hk)
      (try clear hi)
      (try clear ho0)
      refine hK.out _ _ ⟨bc BK316 0, bc BK316 1, bc BK316 2, bc BK317 0, bc BK317 1, bc BK317 2, bc BK317 3, bc BK317 4, bc BK317 5, bc BK317 6⟩ (fun hHeld => ?_)
      clear hK K
      refine np (h := ?_)
      refine pu 5 32 HT_ (h := ?_)
      refine pu 6 38 HT_ (h := ?_)
      refine pu 7 39 HT_ (h := ?_)
      exact nq (hCont (v351, gb353) _ ⟨hHeld, (rN (Kd.R_mono HO335.out (fun _ hk => hk.2))), (rN (Kd.R_mono HO352.out (fun _ hk => hk.2))), (kN BK316.out), (kN BK317.out), (kN BK336.out), (kN BK353.out), GW353.out, GE353.out, NB316_353.out, NB353_316.out, NB317_353.out, NB353_317.out, NB336_353.out, NB353_336.out, (bN HB.out)⟩)
    ·skip
     refine box_step ?hg (N := 8) ?hd (cs := #[.int .i64 0, .bool false, .string (⟨#[]⟩ : ByteArray)]) (t := 28) ?hr ?_; (case hd => rfl); (case hg => rfl); (case hr => first | (go_simp; done) | (go_simp; rfl))
     intro gb353 hg w44 hbox hb
     have n0_ := m_ (Kd.R_below (rN HO335.out) hb)
     have n1_ := m_ (blk_below (kN BK316.out) hb)
     have n2_ := m_ (blk_below (kN BK317.out) hb)
     have n3_ := m_ (blk_below (kN BK336.out) hb)
     have n4_ := m_ (below_step (bN HB.out) hb)
     have n5_ := m_ (hbox)
     have n6_ := m_ ((by rw [hg]; exact (below_size (bN HB.out)) : w.heap.size ≤ gb353))
     have n7_ := m_ ((by rw [hg]; exact (below_size (bN HB.out)) : w.heap.size ≤ gb353))
     have n8_ := m_ (nL hg BK316.out)
     have n9_ := m_ (nG hg BK316.out)
     have n10_ := m_ (nL hg BK317.out)
     have n11_ := m_ (nG hg BK317.out)
     have n12_ := m_ (nL hg BK336.out)
     have n13_ := m_ (nG hg BK336.out)
     clear HO335
     clear BK316
     clear BK317
     clear BK336
     clear HB
     have HO335 := n0_
     have BK316 := n1_
     have BK317 := n2_
     have BK336 := n3_
     have HB := n4_
     have BK353 := n5_
     have GW353 := n6_
     have GE353 := n7_
     have NB316_353 := n8_
     have NB353_316 := n9_
     have NB317_353 := n10_
     have NB353_317 := n11_
     have NB336_353 := n12_
     have NB353_336 := n13_
     clear n0_ n1_ n2_ n3_ n4_ n5_ n6_ n7_ n8_ n9_ n10_ n11_ n12_ n13_
     clear hb hbox hg
     refine hK.out _ _ ⟨bc BK316 0, bc BK316 1, bc BK316 2, bc BK317 0, bc BK317 1, bc BK317 2, bc BK317 3, bc BK317 4, bc BK317 5, bc BK317 6⟩ (fun hHeld => ?_)
     clear hK K
     refine np (h := ?_)
     refine one_ (i := 1) (N := some 34) #[true, true, true, false, false, false, false, false, true, false, false] rfl rfl (one_of HT_.out (by kernel_rfl)) (by decide) (fun K hK => ?_)
     refine goes_ Tryd.func7 (by kernel_rfl) rfl #[.agg #[.int .i64 a0_0, .bool a0_1, .string a0_2]] (by rfl) rfl rfl gl_ ?_
     with_reducible refine (laws_toHears.calls a0_0 a0_1 a0_2 t337 t338 t339 _ A22.out).mono ?_
     rintro e w45 ⟨rfl, hb⟩
     refine ⟨_, rfl, ?_⟩
     have n0_ := m_ (Kd.R_below (rN HO335.out) hb)
     have n1_ := m_ (blk_below (kN BK316.out) hb)
     have n2_ := m_ (blk_below (kN BK317.out) hb)
     have n3_ := m_ (blk_below (kN BK336.out) hb)
     have n4_ := m_ (blk_below (g := gb353) (o := .cells #[.int .i64 0, .bool false, .string (⟨#[]⟩ : ByteArray)] 28 (0, 0)) (kN BK353.out) hb)
     have n5_ := m_ (below_step (bN HB.out) hb)
     clear HO335
     clear BK316
     clear BK317
     clear BK336
     clear BK353
     clear HB
     have HO335 := n0_
     have BK316 := n1_
     have BK317 := n2_
     have BK336 := n3_
     have BK353 := n4_
     have HB := n5_
     clear n0_ n1_ n2_ n3_ n4_ n5_
     (try clear hb)
     (try clear hb2)
     (try clear hk)
     (try clear hi)
     refine hK.out _ _ ⟨bc BK316 0, bc BK316 1, bc BK316 2, bc BK317 0, bc BK317 1, bc BK317 2, bc BK317 3, bc BK317 4, bc BK317 5, bc BK317 6⟩ (fun hHeld => ?_)
     clear hK K
     refine np (h := ?_)
     refine one_ (i := 3) (N := some 36) #[true, true, true, true, false, false, false, false, true, false, false] rfl rfl (one_of HT_.out (by kernel_rfl)) (by decide) (fun K hK => ?_)
     refine goes_ Tryd.func8 (by kernel_rfl) rfl #[.agg #[.int .i64 a1_0, .int .i64 a1_1, .int .i64 a1_2, .int .i64 a1_3, .int .i64 a1_4, .string a1_5, .string a1_6]] (by rfl) rfl rfl gl_ ?_
     with_reducible refine (laws_toDown.calls a1_0 a1_1 a1_2 a1_3 a1_4 a1_5 a1_6 t340 t341 t342 t343 t344 t345 t346 _ A23.out).mono ?_
     rintro e w46 ⟨rfl, hb⟩
     refine ⟨_, rfl, ?_⟩
     have n0_ := m_ (Kd.R_below (rN HO335.out) hb)
     have n1_ := m_ (blk_below (kN BK316.out) hb)
     have n2_ := m_ (blk_below (kN BK317.out) hb)
     have n3_ := m_ (blk_below (kN BK336.out) hb)
     have n4_ := m_ (blk_below (g := gb353) (o := .cells #[.int .i64 0, .bool false, .string (⟨#[]⟩ : ByteArray)] 28 (0, 0)) (kN BK353.out) hb)
     have n5_ := m_ (below_step (bN HB.out) hb)
     clear HO335
     clear BK316
     clear BK317
     clear BK336
     clear BK353
     clear HB
     have HO335 := n0_
     have BK316 := n1_
     have BK317 := n2_
     have BK336 := n3_
     have BK353 := n4_
     have HB := n5_
     clear n0_ n1_ n2_ n3_ n4_ n5_
     (try clear hb)
     (try clear hb2)
     (try clear hk)
     (try clear hi)
     refine hK.out _ _ ⟨bc BK316 0, bc BK316 1, bc BK316 2, bc BK317 0, bc BK317 1, bc BK317 2, bc BK317 3, bc BK317 4, bc BK317 5, bc BK317 6⟩ (fun hHeld => ?_)
     clear hK K
     refine np (h := ?_)
     refine one_ (i := 4) (N := some 37) #[true, true, true, true, true, false, false, false, true, false, false] rfl rfl (one_of HT_.out (by kernel_rfl)) (by decide) (fun K hK => ?_)
     refine goes_ Tryd.func9 (by kernel_rfl) rfl #[.agg #[.int .i64 t337, .bool t338, .string t339], .agg #[.int .i64 t340, .int .i64 t341, .int .i64 t342, .int .i64 t343, .int .i64 t344, .string t345, .string t346]] (by rfl) rfl rfl gl_ ?_
     with_reducible refine (impl_HearsDown.calls k t337 t338 t339 t340 t341 t342 t343 t344 t345 t346 t347 t348 t349 t350 _ A24.out).mono ?_
     rintro e w47 ⟨v351, rfl, ho0, hb⟩
     refine ⟨_, rfl, ?_⟩
     have n0_ := m_ (Kd.R_elder' (rN HO335.out) (Kd.R_base ho0) hb)
     have n1_ := m_ (Kd.R_lower (Kd.R_new' ho0 (Kd.R_lt (rN HO335.out))) (below_size (bN HB.out)))
     have n2_ := m_ (blk_below (kN BK316.out) hb)
     have n3_ := m_ (blk_below (kN BK317.out) hb)
     have n4_ := m_ (blk_below (kN BK336.out) hb)
     have n5_ := m_ (blk_below (g := gb353) (o := .cells #[.int .i64 0, .bool false, .string (⟨#[]⟩ : ByteArray)] 28 (0, 0)) (kN BK353.out) hb)
     have n6_ := m_ (below_step (bN HB.out) hb)
     clear HO335
     clear BK316
     clear BK317
     clear BK336
     clear BK353
     clear HB
     have HO335 := n0_
     have HO352 := n1_
     have BK316 := n2_
     have BK317 := n3_
     have BK336 := n4_
     have BK353 := n5_
     have HB := n6_
     clear n0_ n1_ n2_ n3_ n4_ n5_ n6_
     (try clear hb)
     (try clear hb2)
     (try clear hk)
     (try clear hi)
     (try clear ho0)
     refine hK.out _ _ ⟨bc BK316 0, bc BK316 1, bc BK316 2, bc BK317 0, bc BK317 1, bc BK317 2, bc BK317 3, bc BK317 4, bc BK317 5, bc BK317 6⟩ (fun hHeld => ?_)
     clear hK K
     refine np (h := ?_)
     refine pu 5 32 HT_ (h := ?_)
     refine pu 6 38 HT_ (h := ?_)
     refine pu 7 39 HT_ (h := ?_)
     exact nq (hCont (v351, gb353) _ ⟨hHeld, (rN (Kd.R_mono HO335.out (fun _ hk => hk.2))), (rN (Kd.R_mono HO352.out (fun _ hk => hk.2))), (kN BK316.out), (kN BK317.out), (kN BK336.out), (kN BK353.out), GW353.out, GE353.out, NB316_353.out, NB353_316.out, NB317_353.out, NB353_317.out, NB336_353.out, NB353_336.out, (bN HB.out)⟩)
   rintro ⟨v351, gb353⟩ w48 ⟨hS_, h0_, h1_, h2_, h3_, h4_, h5_, h6_, h7_, h8_, h9_, h10_, h11_, h12_, h13_, h14_⟩
   have n0_ : Aside0 (Kd.R Kd.string 9 w48 w.heap.size (fun k_ => some k_ ≠ (v351 : Value).ownBlock) v334 t333) := ⟨h0_⟩
   have n1_ : Aside0 (Kd.R Kd.string 9 w48 w.heap.size (fun k_ => some k_ ≠ (v334 : Value).ownBlock) v351 t350) := ⟨h1_⟩
   have n2_ : Aside0 (w48.heap[gb316]? = some (.cells #[.int .i64 a0_0, .bool a0_1, .string a0_2] 23 (0, 0))) := ⟨h2_⟩
   have n3_ : Aside0 (w48.heap[gb317]? = some (.cells #[.int .i64 a1_0, .int .i64 a1_1, .int .i64 a1_2, .int .i64 a1_3, .int .i64 a1_4, .string a1_5, .string a1_6] 25 (0, 0))) := ⟨h3_⟩
   have n4_ : Aside0 (w48.heap[gb336]? = some (.cells #[.int .i64 t330, .bool t331, .string t332] 28 (0, 0))) := ⟨h4_⟩
   have n5_ : Aside0 (w48.heap[gb353]? = some (.cells #[.int .i64 0, .bool false, .string (⟨#[]⟩ : ByteArray)] 28 (0, 0))) := ⟨h5_⟩
   have n6_ : Aside0 (w.heap.size ≤ gb353) := ⟨h6_⟩
   have n7_ : Aside0 (w.heap.size ≤ gb353) := ⟨h7_⟩
   have n8_ : Aside0 (gb316 ≠ gb353) := ⟨h8_⟩
   have n9_ : Aside0 (gb353 ≠ gb316) := ⟨h9_⟩
   have n10_ : Aside0 (gb317 ≠ gb353) := ⟨h10_⟩
   have n11_ : Aside0 (gb353 ≠ gb317) := ⟨h11_⟩
   have n12_ : Aside0 (gb336 ≠ gb353) := ⟨h12_⟩
   have n13_ : Aside0 (gb353 ≠ gb336) := ⟨h13_⟩
   have n14_ : Aside0 (Below w.heap.size w w48) := ⟨h14_⟩
   clear HO335
   clear BK316
   clear BK317
   clear BK336
   clear HB
   clear h0_ h1_ h2_ h3_ h4_ h5_ h6_ h7_ h8_ h9_ h10_ h11_ h12_ h13_ h14_
   have HO335 := n0_
   have HO352 := n1_
   have BK316 := n2_
   have BK317 := n3_
   have BK336 := n4_
   have BK353 := n5_
   have GW353 := n6_
   have GE353 := n7_
   have NB316_353 := n8_
   have NB353_316 := n9_
   have NB317_353 := n10_
   have NB353_317 := n11_
   have NB336_353 := n12_
   have NB353_336 := n13_
   have HB := n14_
   clear n0_ n1_ n2_ n3_ n4_ n5_ n6_ n7_ n8_ n9_ n10_ n11_ n12_ n13_ n14_
   have hHeld : w48.cell? ⟨gb316, 0, none⟩ = some (.int .i64 a0_0) ∧ w48.cell? ⟨gb316, 1, none⟩ = some (.bool a0_1) ∧ w48.cell? ⟨gb316, 2, none⟩ = some (.string a0_2) ∧ w48.cell? ⟨gb317, 0, none⟩ = some (.int .i64 a1_0) ∧ w48.cell? ⟨gb317, 1, none⟩ = some (.int .i64 a1_1) ∧ w48.cell? ⟨gb317, 2, none⟩ = some (.int .i64 a1_2) ∧ w48.cell? ⟨gb317, 3, none⟩ = some (.int .i64 a1_3) ∧ w48.cell? ⟨gb317, 4, none⟩ = some (.int .i64 a1_4) ∧ w48.cell? ⟨gb317, 5, none⟩ = some (.string a1_5) ∧ w48.cell? ⟨gb317, 6, none⟩ = some (.string a1_6) := hS_
   refine norm_ (a' := ?_) ?_ ?_
   rotate_left
   ·simp only [putAll, Act.put, List.setIfInBounds_toArray, List.set_cons_zero, List.set_cons_succ]
    rfl
   refine one_ (i := 9) (N := none) #[true, true, true, true, true, true, true, true, true, true, false] rfl rfl (one_of HT_.out (by kernel_rfl)) (by decide) (fun K hK => ?_)
   have hs49 : w48.cell? ⟨gb353, 0, none⟩ = some (.int .i64 0) := bc BK353 0
   have hfs49 := blk_frozen BK353.out 0
   have hns49_0 := NB316_353.out
   have hns49_1 := NB317_353.out
   have hns49_2 := NB336_353.out
   have hms49_0 := NB353_316.out
   have hms49_1 := NB353_317.out
   have hms49_2 := NB353_336.out
   have hs50 : w48.cell? ⟨gb353, 1, none⟩ = some (.bool false) := bc BK353 1
   have hfs50 := blk_frozen BK353.out 1
   have hns50_0 := NB316_353.out
   have hns50_1 := NB317_353.out
   have hns50_2 := NB336_353.out
   have hms50_0 := NB353_316.out
   have hms50_1 := NB353_317.out
   have hms50_2 := NB353_336.out
   have hs51 : w48.cell? ⟨gb353, 2, none⟩ = some (.string (⟨#[]⟩ : ByteArray)) := bc BK353 2
   have hfs51 := blk_frozen BK353.out 2
   have hns51_0 := NB316_353.out
   have hns51_1 := NB317_353.out
   have hns51_2 := NB336_353.out
   have hms51_0 := NB353_316.out
   have hms51_1 := NB353_317.out
   have hms51_2 := NB353_336.out
   refine skip_ (w1 := ?_) (by rfl) rfl ?_ ?_
   rotate_left
   ·go_simp
    rfl
   refine hK.out _ _ ⟨((cell_far (p := ⟨gb353, _, none⟩) NB316_353.out _).trans (((cell_far (p := ⟨gb353, _, none⟩) NB316_353.out _).trans (((cell_far (p := ⟨gb353, _, none⟩) NB316_353.out _).trans (hHeld.1)))))), ((cell_far (p := ⟨gb353, _, none⟩) NB316_353.out _).trans (((cell_far (p := ⟨gb353, _, none⟩) NB316_353.out _).trans (((cell_far (p := ⟨gb353, _, none⟩) NB316_353.out _).trans (hHeld.2.1)))))), ((cell_far (p := ⟨gb353, _, none⟩) NB316_353.out _).trans (((cell_far (p := ⟨gb353, _, none⟩) NB316_353.out _).trans (((cell_far (p := ⟨gb353, _, none⟩) NB316_353.out _).trans (hHeld.2.2.1)))))), ((cell_far (p := ⟨gb353, _, none⟩) NB317_353.out _).trans (((cell_far (p := ⟨gb353, _, none⟩) NB317_353.out _).trans (((cell_far (p := ⟨gb353, _, none⟩) NB317_353.out _).trans (hHeld.2.2.2.1)))))), ((cell_far (p := ⟨gb353, _, none⟩) NB317_353.out _).trans (((cell_far (p := ⟨gb353, _, none⟩) NB317_353.out _).trans (((cell_far (p := ⟨gb353, _, none⟩) NB317_353.out _).trans (hHeld.2.2.2.2.1)))))), ((cell_far (p := ⟨gb353, _, none⟩) NB317_353.out _).trans (((cell_far (p := ⟨gb353, _, none⟩) NB317_353.out _).trans (((cell_far (p := ⟨gb353, _, none⟩) NB317_353.out _).trans (hHeld.2.2.2.2.2.1)))))), ((cell_far (p := ⟨gb353, _, none⟩) NB317_353.out _).trans (((cell_far (p := ⟨gb353, _, none⟩) NB317_353.out _).trans (((cell_far (p := ⟨gb353, _, none⟩) NB317_353.out _).trans (hHeld.2.2.2.2.2.2.1)))))), ((cell_far (p := ⟨gb353, _, none⟩) NB317_353.out _).trans (((cell_far (p := ⟨gb353, _, none⟩) NB317_353.out _).trans (((cell_far (p := ⟨gb353, _, none⟩) NB317_353.out _).trans (hHeld.2.2.2.2.2.2.2.1)))))), ((cell_far (p := ⟨gb353, _, none⟩) NB317_353.out _).trans (((cell_far (p := ⟨gb353, _, none⟩) NB317_353.out _).trans (((cell_far (p := ⟨gb353, _, none⟩) NB317_353.out _).trans (hHeld.2.2.2.2.2.2.2.2.1)))))), ((cell_far (p := ⟨gb353, _, none⟩) NB317_353.out _).trans (((cell_far (p := ⟨gb353, _, none⟩) NB317_353.out _).trans (((cell_far (p := ⟨gb353, _, none⟩) NB317_353.out _).trans (hHeld.2.2.2.2.2.2.2.2.2))))))⟩ (fun hHeld => ?_)
   clear hK K
   refine pu 10 9 HT_ (h := ?_)
   refine done_ (done_of HT_.out (by kernel_rfl)) ?_
   go_upto_region 10 with (fail)
   go_cut [49] (fun v49 wc => ∃ (kq : Nat) (x49_24 : Bool), v49 = .bool x49_24 ∧ Aside0 (laws_FnExactHearsDown.j0 kq t333 t350 x49_24 a0_0 a0_1 a0_2 a1_0 a1_1 a1_2 a1_3 a1_4 a1_5 a1_6 t330 t331 t332 = some r) ∧ Aside0 (kq ≤ k) ∧ Aside0 (Kd.R Kd.string 9 wc w.heap.size (fun k_ => some k_ ≠ (v351 : Value).ownBlock) v334 t333) ∧ Aside0 (Kd.R Kd.string 9 wc w.heap.size (fun k_ => some k_ ≠ (v334 : Value).ownBlock) v351 t350) ∧ Aside0 (wc.heap[gb316]? = some (.cells #[.int .i64 a0_0, .bool a0_1, .string a0_2] 23 (0, 0))) ∧ Aside0 (wc.heap[gb317]? = some (.cells #[.int .i64 a1_0, .int .i64 a1_1, .int .i64 a1_2, .int .i64 a1_3, .int .i64 a1_4, .string a1_5, .string a1_6] 25 (0, 0))) ∧ Aside0 (wc.heap[gb336]? = some (.cells #[.int .i64 t330, .bool t331, .string t332] 28 (0, 0))) ∧ Aside0 (wc.heap[gb353]? = some (.cells #[.int .i64 t347, .bool t348, .string t349] 28 (0, 0))) ∧ Aside0 (Below w.heap.size w wc))
   case first =>
    have H := HC25.out
    clear HC25
    replace H := Option.bind_eq_some_iff.mp H
    obtain ⟨t354, A520, H⟩ := H
    replace H : (if t354 = true then ((laws_eqStringS.f k t350 t333).bind fun t355 => (laws_FnExactHearsDown.j0 k t333 t350 (!t355) a0_0 a0_1 a0_2 a1_0 a1_1 a1_2 a1_3 a1_4 a1_5 a1_6 t330 t331 t332)) else (laws_FnExactHearsDown.j0 k t333 t350 true a0_0 a0_1 a0_2 a1_0 a1_1 a1_2 a1_3 a1_4 a1_5 a1_6 t330 t331 t332)) = some r := H
    have A52 := Aside0.mk A520
    clear A520
    by_cases c53 : t354 = true
    ·subst c53
     have H1 : ((laws_eqStringS.f k t350 t333).bind fun t355 => (laws_FnExactHearsDown.j0 k t333 t350 (!t355) a0_0 a0_1 a0_2 a1_0 a1_1 a1_2 a1_3 a1_4 a1_5 a1_6 t330 t331 t332)) = some r := by rw [if_pos rfl] at H; exact H
     clear H
     have H := H1
     clear H1
     replace H := Option.bind_eq_some_iff.mp H
     obtain ⟨t355, A540, H⟩ := H
     replace H : (laws_FnExactHearsDown.j0 k t333 t350 (!t355) a0_0 a0_1 a0_2 a1_0 a1_1 a1_2 a1_3 a1_4 a1_5 a1_6 t330 t331 t332) = some r := H
     have A54 := Aside0.mk A540
     clear A540
     have H' := Aside0.mk H
     clear H
     have hnb55 := NB353_316.out
     have hnc55 := NB316_353.out
     have hnb56 := NB353_317.out
     have hnc56 := NB317_353.out
     have hnb57 := NB353_336.out
     have hnc57 := NB336_353.out
     have hcz58_0 : w48.cell? ⟨gb353, 0, none⟩ = some (.int .i64 0) := bc BK353 0
     have hcz58_1 : w48.cell? ⟨gb353, 1, none⟩ = some (.bool false) := bc BK353 1
     have hcz58_2 : w48.cell? ⟨gb353, 2, none⟩ = some (.string (⟨#[]⟩ : ByteArray)) := bc BK353 2
     have hfz58_0 := blk_frozen BK353.out 0
     have hfz58_1 := blk_frozen BK353.out 1
     have hfz58_2 := blk_frozen BK353.out 2
     have hnb59 := NB336_316.out
     have hnc59 := NB316_336.out
     have hnb60 := NB336_317.out
     have hnc60 := NB317_336.out
     have hcz61_0 : w48.cell? ⟨gb336, 0, none⟩ = some (.int .i64 t330) := bc BK336 0
     have hcz61_1 : w48.cell? ⟨gb336, 1, none⟩ = some (.bool t331) := bc BK336 1
     have hcz61_2 : w48.cell? ⟨gb336, 2, none⟩ = some (.string t332) := bc BK336 2
     have hfz61_0 := blk_frozen BK336.out 0
     have hfz61_1 := blk_frozen BK336.out 1
     have hfz61_2 := blk_frozen BK336.out 2
     go_wp2_with (first | ((with_reducible refine gate_callee (f := 10) rfl ?_); refine goesL_ (some 42) rfl rfl Tryd.func10 (by kernel_rfl) rfl #[.agg #[.int .i64 t347, .bool t348, .string t349], .agg #[.int .i64 t330, .bool t331, .string t332]] rfl gl_ ?_; (with_reducible refine (laws_eqHears.calls t347 t348 t349 t330 t331 t332 true _ A52.out).mono ?_); rintro e w62 ⟨rfl, hb⟩; refine ⟨_, rfl, ?_⟩; have n0_ := m_ (Kd.R_below (frN (Kd.R_types HO335.out BK353.out (by decide))) hb); have n1_ := m_ (Kd.R_below (frN (Kd.R_types HO352.out BK353.out (by decide))) hb); have n2_ := m_ (blk_below (g := gb316) (o := .cells #[.int .i64 a0_0, .bool a0_1, .string a0_2] 23 (0, 0)) (kF BK316.out NB316_353.out) hb); have n3_ := m_ (blk_below (g := gb317) (o := .cells #[.int .i64 a1_0, .int .i64 a1_1, .int .i64 a1_2, .int .i64 a1_3, .int .i64 a1_4, .string a1_5, .string a1_6] 25 (0, 0)) (kF BK317.out NB317_353.out) hb); have n4_ := m_ (blk_below (g := gb336) (o := .cells #[.int .i64 t330, .bool t331, .string t332] 28 (0, 0)) (kF BK336.out NB336_353.out) hb); have n5_ := m_ (blk_below (g := gb353) (o := .cells #[.int .i64 t347, .bool t348, .string t349] 28 (0, 0)) (kP BK353.out) hb); have n6_ := m_ (below_step (bN HB.out) hb); clear HO335; clear HO352; clear BK316; clear BK317; clear BK336; clear BK353; clear HB; have HO335 := n0_; have HO352 := n1_; have BK316 := n2_; have BK317 := n3_; have BK336 := n4_; have BK353 := n5_; have HB := n6_; clear n0_ n1_ n2_ n3_ n4_ n5_ n6_; (try clear hb); (try clear hb2); (try clear hk); (try clear hi); obtain ⟨Ao63, co63, eo63⟩ := Kd.R_slice HO352.out; subst eo63; obtain ⟨Ao64, co64, eo64⟩ := Kd.R_slice HO335.out; subst eo64) | (go_at_call 11; (with_reducible refine (laws_eqStringS.calls k _ _ t350 _ _ t333 t355 _ ?side1 ?side2 ?side3 ?side4 A54.out).mono ?_); (case side1 => exact cN (Kd.R_reads' HO352.out).2.2); (case side2 => exact (Kd.R_reads' HO352.out).2.1); (case side3 => exact cN (Kd.R_reads' HO335.out).2.2); (case side4 => exact (Kd.R_reads' HO335.out).2.1); rintro e w' ⟨rfl, ⟨nd, rfl⟩⟩))
     go_meet
     case rel => exact ⟨_, (!t355), (by first | rfl | (simp; done) | (simp [*]; done)), H', ⟨by first | omega | exact Nat.le_refl _⟩, ⟨by (with_reducible repeat (first | apply Kd.R_alloc | apply Kd.R_drewN | apply Kd.R_drew)); exact HO335.out⟩, ⟨by (with_reducible repeat (first | apply Kd.R_alloc | apply Kd.R_drewN | apply Kd.R_drew)); exact HO352.out⟩, ⟨kN BK316.out⟩, ⟨kN BK317.out⟩, ⟨kN BK336.out⟩, ⟨kN BK353.out⟩, ⟨by repeat (first | (with_reducible first | exact HB.out | apply below_alloc | apply pw_below_drewN | apply below_drew1 | refine below_set ?_ GE316.out | refine below_set ?_ GE317.out | refine below_set ?_ GE336.out | refine below_set ?_ GE353.out) | exact HB.out)⟩⟩
    ·replace c53 := Bool.eq_false_iff.mpr c53
     subst c53
     have H1 : (laws_FnExactHearsDown.j0 k t333 t350 true a0_0 a0_1 a0_2 a1_0 a1_1 a1_2 a1_3 a1_4 a1_5 a1_6 t330 t331 t332) = some r := by rw [if_neg (show ¬ (false = true) by decide)] at H; exact H
     clear H
     have H := H1
     clear H1
     have H' := Aside0.mk H
     clear H
     have hnb65 := NB353_316.out
     have hnc65 := NB316_353.out
     have hnb66 := NB353_317.out
     have hnc66 := NB317_353.out
     have hnb67 := NB353_336.out
     have hnc67 := NB336_353.out
     have hcz68_0 : w48.cell? ⟨gb353, 0, none⟩ = some (.int .i64 0) := bc BK353 0
     have hcz68_1 : w48.cell? ⟨gb353, 1, none⟩ = some (.bool false) := bc BK353 1
     have hcz68_2 : w48.cell? ⟨gb353, 2, none⟩ = some (.string (⟨#[]⟩ : ByteArray)) := bc BK353 2
     have hfz68_0 := blk_frozen BK353.out 0
     have hfz68_1 := blk_frozen BK353.out 1
     have hfz68_2 := blk_frozen BK353.out 2
     have hnb69 := NB336_316.out
     have hnc69 := NB316_336.out
     have hnb70 := NB336_317.out
     have hnc70 := NB317_336.out
     have hcz71_0 : w48.cell? ⟨gb336, 0, none⟩ = some (.int .i64 t330) := bc BK336 0
     have hcz71_1 : w48.cell? ⟨gb336, 1, none⟩ = some (.bool t331) := bc BK336 1
     have hcz71_2 : w48.cell? ⟨gb336, 2, none⟩ = some (.string t332) := bc BK336 2
     have hfz71_0 := blk_frozen BK336.out 0
     have hfz71_1 := blk_frozen BK336.out 1
     have hfz71_2 := blk_frozen BK336.out 2
     go_wp2_with (first | ((with_reducible refine gate_callee (f := 10) rfl ?_); refine goesL_ (some 42) rfl rfl Tryd.func10 (by kernel_rfl) rfl #[.agg #[.int .i64 t347, .bool t348, .string t349], .agg #[.int .i64 t330, .bool t331, .string t332]] rfl gl_ ?_; (with_reducible refine (laws_eqHears.calls t347 t348 t349 t330 t331 t332 false _ A52.out).mono ?_); rintro e w72 ⟨rfl, hb⟩; refine ⟨_, rfl, ?_⟩; have n0_ := m_ (Kd.R_below (frN (Kd.R_types HO335.out BK353.out (by decide))) hb); have n1_ := m_ (Kd.R_below (frN (Kd.R_types HO352.out BK353.out (by decide))) hb); have n2_ := m_ (blk_below (g := gb316) (o := .cells #[.int .i64 a0_0, .bool a0_1, .string a0_2] 23 (0, 0)) (kF BK316.out NB316_353.out) hb); have n3_ := m_ (blk_below (g := gb317) (o := .cells #[.int .i64 a1_0, .int .i64 a1_1, .int .i64 a1_2, .int .i64 a1_3, .int .i64 a1_4, .string a1_5, .string a1_6] 25 (0, 0)) (kF BK317.out NB317_353.out) hb); have n4_ := m_ (blk_below (g := gb336) (o := .cells #[.int .i64 t330, .bool t331, .string t332] 28 (0, 0)) (kF BK336.out NB336_353.out) hb); have n5_ := m_ (blk_below (g := gb353) (o := .cells #[.int .i64 t347, .bool t348, .string t349] 28 (0, 0)) (kP BK353.out) hb); have n6_ := m_ (below_step (bN HB.out) hb); clear HO335; clear HO352; clear BK316; clear BK317; clear BK336; clear BK353; clear HB; have HO335 := n0_; have HO352 := n1_; have BK316 := n2_; have BK317 := n3_; have BK336 := n4_; have BK353 := n5_; have HB := n6_; clear n0_ n1_ n2_ n3_ n4_ n5_ n6_; (try clear hb); (try clear hb2); (try clear hk); (try clear hi)))
     go_meet
     case rel => exact ⟨_, (true), (by first | rfl | (simp; done) | (simp [*]; done)), H', ⟨by first | omega | exact Nat.le_refl _⟩, ⟨by (with_reducible repeat (first | apply Kd.R_alloc | apply Kd.R_drewN | apply Kd.R_drew)); exact HO335.out⟩, ⟨by (with_reducible repeat (first | apply Kd.R_alloc | apply Kd.R_drewN | apply Kd.R_drew)); exact HO352.out⟩, ⟨kN BK316.out⟩, ⟨kN BK317.out⟩, ⟨kN BK336.out⟩, ⟨kN BK353.out⟩, ⟨by repeat (first | (with_reducible first | exact HB.out | apply below_alloc | apply pw_below_drewN | apply below_drew1 | refine below_set ?_ GE316.out | refine below_set ?_ GE317.out | refine below_set ?_ GE336.out | refine below_set ?_ GE353.out) | exact HB.out)⟩⟩
   case rest =>
    clear HC25
    try clear c1
    try clear p2
    try clear c5
    try clear c6
    try clear c7
    try clear c8
    try clear c9
    try clear c10
    try clear c53
    try clear c55
    try clear c56
    try clear c57
    try clear c59
    try clear c60
    try clear c65
    try clear c66
    try clear c67
    try clear c69
    try clear c70
    try clear hcz58_0
    try clear hcz58_1
    try clear hcz58_2
    try clear hcz61_0
    try clear hcz61_1
    try clear hcz61_2
    try clear hcz68_0
    try clear hcz68_1
    try clear hcz68_2
    try clear hcz71_0
    try clear hcz71_1
    try clear hcz71_2
    try clear hfz58_0
    try clear hfz58_1
    try clear hfz58_2
    try clear hfz61_0
    try clear hfz61_1
    try clear hfz61_2
    try clear hfz68_0
    try clear hfz68_1
    try clear hfz68_2
    try clear hfz71_0
    try clear hfz71_1
    try clear hfz71_2
    obtain ⟨kq, x49_24, rfl, HA, HJ24, HO_7, HO_9, BK316, BK317, BK336, BK353, HB⟩ := hcut
    cases kq with
    | zero => exact absurd HA.out (by simp [laws_FnExactHearsDown.j0])
    | succ kj24 =>
     have H := HA.out
     clear HA
     simp only [laws_FnExactHearsDown.j0] at H
     by_cases c73 : x49_24 = true
     ·subst c73
      have H1 : (some false) = some r := by rw [if_pos rfl] at H; exact H
      clear H
      have H := H1
      clear H1
      obtain rfl := Option.some.inj H
      go_wp2
      go_ret
      exact ⟨by first | rfl | (simp [errW_none, errW_some] <;> rfl) | (simp [*, errW_none, errW_some] <;> rfl), by repeat (first | (with_reducible first | exact HB.out | apply below_alloc | apply pw_below_drewN | apply below_drew1 | refine below_set ?_ GE316.out | refine below_set ?_ GE317.out | refine below_set ?_ GE336.out | refine below_set ?_ GE353.out) | exact HB.out)⟩
     ·replace c73 := Bool.eq_false_iff.mpr c73
      subst c73
      have H1 : ((laws_markStringS.f kj24 t350 1).bind fun bt356 => ((laws_heldStringS.f kj24 bt356.2 1).bind fun t358 => (if t358 < 0 then (some false) else (if t358 = bt356.1 then ((laws_toHears.f a0_0 a0_1 a0_2).bind fun bt359 => ((laws_toDown.f a1_0 a1_1 a1_2 a1_3 a1_4 a1_5 a1_6).bind fun bt362 => ((impl_HearsDown.f kj24 bt359.1 bt359.2.1 bt359.2.2 bt362.1 bt362.2.1 bt362.2.2.1 bt362.2.2.2.1 bt362.2.2.2.2.1 bt362.2.2.2.2.2.1 bt362.2.2.2.2.2.2).bind fun bt369 => ((laws_eqHears.f bt369.1 bt369.2.1 bt369.2.2.1 t330 t331 t332).bind fun t376 => (if t376 = true then ((laws_eqStringS.f kj24 bt369.2.2.2 t333).bind fun t377 => (laws_FnExactHearsDown.j1 kj24 bt356.2 bt356.1 (!t377))) else (laws_FnExactHearsDown.j1 kj24 bt356.2 bt356.1 true)))))) else (some false))))) = some r := by rw [if_neg (show ¬ (false = true) by decide)] at H; exact H
      clear H
      have H := H1
      clear H1
      replace H := Option.bind_eq_some_iff.mp H
      obtain ⟨⟨t356, t357⟩, A740, H⟩ := H
      replace H : ((laws_heldStringS.f kj24 t357 1).bind fun t358 => (if t358 < 0 then (some false) else (if t358 = t356 then ((laws_toHears.f a0_0 a0_1 a0_2).bind fun bt359 => ((laws_toDown.f a1_0 a1_1 a1_2 a1_3 a1_4 a1_5 a1_6).bind fun bt362 => ((impl_HearsDown.f kj24 bt359.1 bt359.2.1 bt359.2.2 bt362.1 bt362.2.1 bt362.2.2.1 bt362.2.2.2.1 bt362.2.2.2.2.1 bt362.2.2.2.2.2.1 bt362.2.2.2.2.2.2).bind fun bt369 => ((laws_eqHears.f bt369.1 bt369.2.1 bt369.2.2.1 t330 t331 t332).bind fun t376 => (if t376 = true then ((laws_eqStringS.f kj24 bt369.2.2.2 t333).bind fun t377 => (laws_FnExactHearsDown.j1 kj24 t357 t356 (!t377))) else (laws_FnExactHearsDown.j1 kj24 t357 t356 true)))))) else (some false)))) = some r := H
      have A74 := Aside0.mk A740
      clear A740
      replace H := Option.bind_eq_some_iff.mp H
      obtain ⟨t358, A750, H⟩ := H
      replace H : (if t358 < 0 then (some false) else (if t358 = t356 then ((laws_toHears.f a0_0 a0_1 a0_2).bind fun bt359 => ((laws_toDown.f a1_0 a1_1 a1_2 a1_3 a1_4 a1_5 a1_6).bind fun bt362 => ((impl_HearsDown.f kj24 bt359.1 bt359.2.1 bt359.2.2 bt362.1 bt362.2.1 bt362.2.2.1 bt362.2.2.2.1 bt362.2.2.2.2.1 bt362.2.2.2.2.2.1 bt362.2.2.2.2.2.2).bind fun bt369 => ((laws_eqHears.f bt369.1 bt369.2.1 bt369.2.2.1 t330 t331 t332).bind fun t376 => (if t376 = true then ((laws_eqStringS.f kj24 bt369.2.2.2 t333).bind fun t377 => (laws_FnExactHearsDown.j1 kj24 t357 t356 (!t377))) else (laws_FnExactHearsDown.j1 kj24 t357 t356 true)))))) else (some false))) = some r := H
      have A75 := Aside0.mk A750
      clear A750
      by_cases c76 : t358 < 0
      ·rw [if_pos c76] at H
       have c76b0 : decide (t358 < 0) = true := decide_eq_true c76
       clear c76
       obtain rfl := Option.some.inj H
       obtain ⟨Ao77, co77, eo77⟩ := Kd.R_slice HO_9.out
       subst eo77
       go_wp2_with (first | ((with_reducible refine gate_callee (f := 12) rfl ?_); refine goesL_ (some 52) rfl rfl Tryd.func12 (by kernel_rfl) rfl #[.slice Ao77 t350.length co77, .int .i64 1] rfl gl_ ?_; (with_reducible refine (laws_markStringS.calls kj24 (fun k_ => some k_ = (.slice Ao77 t350.length co77 : Value).ownBlock) (.slice Ao77 t350.length co77) t350 1 t356 t357 w _ ?side1 ?side2 A74.out).mono ?_); (case side1 => repeat (first | (with_reducible first | exact HB.out | apply below_alloc | apply pw_below_drewN | apply below_drew1 | refine below_set ?_ GE316.out | refine below_set ?_ GE317.out | refine below_set ?_ GE336.out | refine below_set ?_ GE353.out) | exact HB.out)); (case side2 => exact Kd.R_tight rfl HO_9.out); rintro e w78 ⟨rfl, hy0, hb, hkp⟩; refine ⟨_, rfl, ?_⟩; have n0_ := m_ (Kd.R_mono (ok' := fun k_ => nb Ao77 t350.length co77 k_) (Kd.R_keptB (HO_7.out) hkp (fun k_ hk_ hs_ => (hk_) hs_)) (fun k_ hk_ => hk_.1)); have n1_ := m_ (Kd.R_reok rfl hy0 (fun k_ e_ => HO_9.out.1 k_ e_)); have n2_ := m_ (blk_kept (kN BK316.out) hkp (fun hs_ => (fun e_ => (Kd.R_ne HO_9.out BK316.out (by decide)) e_) hs_)); have n3_ := m_ (blk_kept (kN BK317.out) hkp (fun hs_ => (fun e_ => (Kd.R_ne HO_9.out BK317.out (by decide)) e_) hs_)); have n4_ := m_ (blk_kept (kN BK336.out) hkp (fun hs_ => (fun e_ => (Kd.R_ne HO_9.out BK336.out (by decide)) e_) hs_)); have n5_ := m_ (blk_kept (kN BK353.out) hkp (fun hs_ => (fun e_ => (Kd.R_ne HO_9.out BK353.out (by decide)) e_) hs_)); have n6_ := m_ (hb); clear HO_7; clear HO_9; clear BK316; clear BK317; clear BK336; clear BK353; clear HB; have HO_7 := n0_; have HO_9 := n1_; have BK316 := n2_; have BK317 := n3_; have BK336 := n4_; have BK353 := n5_; have HB := n6_; clear n0_ n1_ n2_ n3_ n4_ n5_ n6_; (try clear hb); (try clear hkp); (try clear hy0)) | ((with_reducible refine gate_callee (f := 13) rfl ?_); refine goesL_ (some 55) rfl rfl Tryd.func13 (by kernel_rfl) rfl #[.slice Ao77 t357.length co77, .int .i64 1] rfl (by (try simp only [List.map_toArray, List.map_cons, List.map_nil]); first | done | (rw [show t357.length = t350.length from (Kd.R_reads' HO_9.out).1.symm] <;> rfl) | rfl | (simp only [List.length_drop, List.length_take]; rfl)) ?_; (with_reducible refine (laws_heldStringS.calls kj24 _ _ t357 1 t358 _ ?side1 ?side2 A75.out).mono ?_); (case side1 => exact cN (Kd.R_reads' HO_9.out).2.2); (case side2 => rw [show t357.length = t350.length from (Kd.R_reads' HO_9.out).1.symm]; exact (Kd.R_reads' HO_9.out).2.1); rintro e w79 ⟨rfl, hb⟩; refine ⟨_, rfl, ?_⟩; have n0_ := m_ (Kd.R_below (rN HO_7.out) hb); have n1_ := m_ (Kd.R_below (rN HO_9.out) hb); have n2_ := m_ (blk_below (kN BK316.out) hb); have n3_ := m_ (blk_below (kN BK317.out) hb); have n4_ := m_ (blk_below (kN BK336.out) hb); have n5_ := m_ (blk_below (kN BK353.out) hb); have n6_ := m_ (below_step (bN HB.out) hb); clear HO_7; clear HO_9; clear BK316; clear BK317; clear BK336; clear BK353; clear HB; have HO_7 := n0_; have HO_9 := n1_; have BK316 := n2_; have BK317 := n3_; have BK336 := n4_; have BK353 := n5_; have HB := n6_; clear n0_ n1_ n2_ n3_ n4_ n5_ n6_; (try clear hb); (try clear hb2); (try clear hk); (try clear hi)))
       go_ret
       exact ⟨by first | rfl | (simp [errW_none, errW_some] <;> rfl) | (simp [*, errW_none, errW_some] <;> rfl), by repeat (first | (with_reducible first | exact HB.out | apply below_alloc | apply pw_below_drewN | apply below_drew1 | refine below_set ?_ GE316.out | refine below_set ?_ GE317.out | refine below_set ?_ GE336.out | refine below_set ?_ GE353.out) | exact HB.out)⟩
      ·rw [if_neg c76] at H
       have c76b0 : decide (t358 < 0) = false := decide_eq_false c76
       clear c76
       by_cases c80 : t358 = t356
       ·rw [if_pos c80] at H
        have c80b0 : (t358 == t356) = true := beq_iff_eq.mpr c80
        have c80b1 : (t358 != t356) = false := bne_eq_false_iff_eq.mpr c80
        clear c80
        replace H := Option.bind_eq_some_iff.mp H
        obtain ⟨⟨t359, t360, t361⟩, A810, H⟩ := H
        replace H : ((laws_toDown.f a1_0 a1_1 a1_2 a1_3 a1_4 a1_5 a1_6).bind fun bt362 => ((impl_HearsDown.f kj24 t359 t360 t361 bt362.1 bt362.2.1 bt362.2.2.1 bt362.2.2.2.1 bt362.2.2.2.2.1 bt362.2.2.2.2.2.1 bt362.2.2.2.2.2.2).bind fun bt369 => ((laws_eqHears.f bt369.1 bt369.2.1 bt369.2.2.1 t330 t331 t332).bind fun t376 => (if t376 = true then ((laws_eqStringS.f kj24 bt369.2.2.2 t333).bind fun t377 => (laws_FnExactHearsDown.j1 kj24 t357 t356 (!t377))) else (laws_FnExactHearsDown.j1 kj24 t357 t356 true))))) = some r := H
        have A81 := Aside0.mk A810
        clear A810
        replace H := Option.bind_eq_some_iff.mp H
        obtain ⟨⟨t362, t363, t364, t365, t366, t367, t368⟩, A820, H⟩ := H
        replace H : ((impl_HearsDown.f kj24 t359 t360 t361 t362 t363 t364 t365 t366 t367 t368).bind fun bt369 => ((laws_eqHears.f bt369.1 bt369.2.1 bt369.2.2.1 t330 t331 t332).bind fun t376 => (if t376 = true then ((laws_eqStringS.f kj24 bt369.2.2.2 t333).bind fun t377 => (laws_FnExactHearsDown.j1 kj24 t357 t356 (!t377))) else (laws_FnExactHearsDown.j1 kj24 t357 t356 true)))) = some r := H
        have A82 := Aside0.mk A820
        clear A820
        replace H := Option.bind_eq_some_iff.mp H
        obtain ⟨⟨t369, t370, t371, t372⟩, A830, H⟩ := H
        replace H : ((laws_eqHears.f t369 t370 t371 t330 t331 t332).bind fun t376 => (if t376 = true then ((laws_eqStringS.f kj24 t372 t333).bind fun t377 => (laws_FnExactHearsDown.j1 kj24 t357 t356 (!t377))) else (laws_FnExactHearsDown.j1 kj24 t357 t356 true))) = some r := H
        have A83 := Aside0.mk A830
        clear A830
        have HC84 := Aside0.mk H
        clear H
        obtain ⟨Ao85, co85, eo85⟩ := Kd.R_slice HO_9.out
        subst eo85
        try go_wp2_with (first | ((with_reducible refine gate_callee (f := 12) rfl ?_); refine goesL_ (some 52) rfl rfl Tryd.func12 (by kernel_rfl) rfl #[.slice Ao85 t350.length co85, .int .i64 1] rfl gl_ ?_; (with_reducible refine (laws_markStringS.calls kj24 (fun k_ => some k_ = (.slice Ao85 t350.length co85 : Value).ownBlock) (.slice Ao85 t350.length co85) t350 1 t356 t357 w _ ?side1 ?side2 A74.out).mono ?_); (case side1 => repeat (first | (with_reducible first | exact HB.out | apply below_alloc | apply pw_below_drewN | apply below_drew1 | refine below_set ?_ GE316.out | refine below_set ?_ GE317.out | refine below_set ?_ GE336.out | refine below_set ?_ GE353.out) | exact HB.out)); (case side2 => exact Kd.R_tight rfl HO_9.out); rintro e w86 ⟨rfl, hy0, hb, hkp⟩; refine ⟨_, rfl, ?_⟩; have n0_ := m_ (Kd.R_mono (ok' := fun k_ => nb Ao85 t350.length co85 k_) (Kd.R_keptB (HO_7.out) hkp (fun k_ hk_ hs_ => (hk_) hs_)) (fun k_ hk_ => hk_.1)); have n1_ := m_ (Kd.R_reok rfl hy0 (fun k_ e_ => HO_9.out.1 k_ e_)); have n2_ := m_ (blk_kept (kN BK316.out) hkp (fun hs_ => (fun e_ => (Kd.R_ne HO_9.out BK316.out (by decide)) e_) hs_)); have n3_ := m_ (blk_kept (kN BK317.out) hkp (fun hs_ => (fun e_ => (Kd.R_ne HO_9.out BK317.out (by decide)) e_) hs_)); have n4_ := m_ (blk_kept (kN BK336.out) hkp (fun hs_ => (fun e_ => (Kd.R_ne HO_9.out BK336.out (by decide)) e_) hs_)); have n5_ := m_ (blk_kept (kN BK353.out) hkp (fun hs_ => (fun e_ => (Kd.R_ne HO_9.out BK353.out (by decide)) e_) hs_)); have n6_ := m_ (hb); clear HO_7; clear HO_9; clear BK316; clear BK317; clear BK336; clear BK353; clear HB; have HO_7 := n0_; have HO_9 := n1_; have BK316 := n2_; have BK317 := n3_; have BK336 := n4_; have BK353 := n5_; have HB := n6_; clear n0_ n1_ n2_ n3_ n4_ n5_ n6_; (try clear hb); (try clear hkp); (try clear hy0)) | ((with_reducible refine gate_callee (f := 13) rfl ?_); refine goesL_ (some 55) rfl rfl Tryd.func13 (by kernel_rfl) rfl #[.slice Ao85 t357.length co85, .int .i64 1] rfl (by (try simp only [List.map_toArray, List.map_cons, List.map_nil]); first | done | (rw [show t357.length = t350.length from (Kd.R_reads' HO_9.out).1.symm] <;> rfl) | rfl | (simp only [List.length_drop, List.length_take]; rfl)) ?_; (with_reducible refine (laws_heldStringS.calls kj24 _ _ t357 1 t358 _ ?side1 ?side2 A75.out).mono ?_); (case side1 => exact cN (Kd.R_reads' HO_9.out).2.2); (case side2 => rw [show t357.length = t350.length from (Kd.R_reads' HO_9.out).1.symm]; exact (Kd.R_reads' HO_9.out).2.1); rintro e w87 ⟨rfl, hb⟩; refine ⟨_, rfl, ?_⟩; have n0_ := m_ (Kd.R_below (rN HO_7.out) hb); have n1_ := m_ (Kd.R_below (rN HO_9.out) hb); have n2_ := m_ (blk_below (kN BK316.out) hb); have n3_ := m_ (blk_below (kN BK317.out) hb); have n4_ := m_ (blk_below (kN BK336.out) hb); have n5_ := m_ (blk_below (kN BK353.out) hb); have n6_ := m_ (below_step (bN HB.out) hb); clear HO_7; clear HO_9; clear BK316; clear BK317; clear BK336; clear BK353; clear HB; have HO_7 := n0_; have HO_9 := n1_; have BK316 := n2_; have BK317 := n3_; have BK336 := n4_; have BK353 := n5_; have HB := n6_; clear n0_ n1_ n2_ n3_ n4_ n5_ n6_; (try clear hb); (try clear hb2); (try clear hk); (try clear hi)))
        have n0_ := m_ (Kd.R_drew HO_7.out)
        have n1_ := m_ (Kd.R_drew HO_9.out)
        have n2_ := m_ (blk_drew BK316.out)
        have n3_ := m_ (blk_drew BK317.out)
        have n4_ := m_ (blk_drew BK336.out)
        have n5_ := m_ (blk_drew BK353.out)
        have n6_ := m_ (below_drew1 HB.out)
        clear HO_7
        clear HO_9
        clear BK316
        clear BK317
        clear BK336
        clear BK353
        clear HB
        have HO_7 := n0_
        have HO_9 := n1_
        have BK316 := n2_
        have BK317 := n3_
        have BK336 := n4_
        have BK353 := n5_
        have HB := n6_
        clear n0_ n1_ n2_ n3_ n4_ n5_ n6_
        refine start_ (n := 11) (S := fun w' => w'.cell? ⟨gb316, 0, none⟩ = some (.int .i64 a0_0) ∧ w'.cell? ⟨gb316, 1, none⟩ = some (.bool a0_1) ∧ w'.cell? ⟨gb316, 2, none⟩ = some (.string a0_2) ∧ w'.cell? ⟨gb317, 0, none⟩ = some (.int .i64 a1_0) ∧ w'.cell? ⟨gb317, 1, none⟩ = some (.int .i64 a1_1) ∧ w'.cell? ⟨gb317, 2, none⟩ = some (.int .i64 a1_2) ∧ w'.cell? ⟨gb317, 3, none⟩ = some (.int .i64 a1_3) ∧ w'.cell? ⟨gb317, 4, none⟩ = some (.int .i64 a1_4) ∧ w'.cell? ⟨gb317, 5, none⟩ = some (.string a1_5) ∧ w'.cell? ⟨gb317, 6, none⟩ = some (.string a1_6)) (ds := []) #[false, false, false, false, false, false, false, false, false, false, false] (by kernel_rfl) rfl rfl ⟨bc BK316 0, bc BK316 1, bc BK316 2, bc BK317 0, bc BK317 1, bc BK317 2, bc BK317 3, bc BK317 4, bc BK317 5, bc BK317 6⟩ (fun hHeld => ?_); refine with_tabW laws_FnExactHearsDown.tab20 laws_FnExactHearsDown.bits20 (fun HT_ HW_ => ?_)
        generalize w87.drew = w88 at HO_7 HO_9 BK316 BK317 BK336 BK353 HB hHeld ⊢
        refine take_ (i := 0) (N := some 62) (v := ?_) (a' := ?_) #[true, false, false, false, false, false, false, false, false, false, false] rfl rfl (take_ofW HT_.out HW_.out (by kernel_rfl)) (fun _ _ _ h => h) (Or.inl ⟨by rfl, ?_⟩) hHeld ?_ ?_
        rotate_left
        ·rintro w' ⟨s0, s1, s2, s3, s4, s5, s6, s7, s8, s9⟩
         go_simp
         with_reducible rfl
        rotate_left
        ·simp only [Act.put, List.setIfInBounds_toArray, List.set_cons_zero, List.set_cons_succ, i64_w, i32_w]
         rfl
        refine take_ (i := 2) (N := some 64) (v := ?_) (a' := ?_) #[true, false, true, false, false, false, false, false, false, false, false] rfl rfl (take_ofW HT_.out HW_.out (by kernel_rfl)) (fun _ _ _ h => h) (Or.inl ⟨by rfl, ?_⟩) hHeld ?_ ?_
        rotate_left
        ·rintro w' ⟨s0, s1, s2, s3, s4, s5, s6, s7, s8, s9⟩
         go_simp
         with_reducible rfl
        rotate_left
        ·simp only [Act.put, List.setIfInBounds_toArray, List.set_cons_zero, List.set_cons_succ, i64_w, i32_w]
         rfl
        refine join_ (σ := Value × Nat) 2 #[true, true, true, true, true, true, true, true, true, false, false] (fun s_ => [(63, .agg #[.int .i64 t359, .bool t360, .string t361]), (65, .agg #[.int .i64 t362, .int .i64 t363, .int .i64 t364, .int .i64 t365, .int .i64 t366, .string t367, .string t368]), (66, .tuple #[.agg #[.int .i64 t369, .bool t370, .string t371], s_.1]), (12, .pointer (some ⟨s_.2, 0, none⟩)), (61, .tuple #[.agg #[.int .i64 t369, .bool t370, .string t371], s_.1]), (67, .agg #[.int .i64 t369, .bool t370, .string t371]), (68, s_.1)]) (fun s_ w' => (w'.cell? ⟨gb316, 0, none⟩ = some (.int .i64 a0_0) ∧ w'.cell? ⟨gb316, 1, none⟩ = some (.bool a0_1) ∧ w'.cell? ⟨gb316, 2, none⟩ = some (.string a0_2) ∧ w'.cell? ⟨gb317, 0, none⟩ = some (.int .i64 a1_0) ∧ w'.cell? ⟨gb317, 1, none⟩ = some (.int .i64 a1_1) ∧ w'.cell? ⟨gb317, 2, none⟩ = some (.int .i64 a1_2) ∧ w'.cell? ⟨gb317, 3, none⟩ = some (.int .i64 a1_3) ∧ w'.cell? ⟨gb317, 4, none⟩ = some (.int .i64 a1_4) ∧ w'.cell? ⟨gb317, 5, none⟩ = some (.string a1_5) ∧ w'.cell? ⟨gb317, 6, none⟩ = some (.string a1_6)) ∧ (Kd.R Kd.string 9 w' w.heap.size (fun k_ => some k_ ≠ (v334 : Value).ownBlock ∧ nb Ao85 t350.length co85 k_) s_.1 t372) ∧ (Kd.R Kd.string 9 w' w.heap.size (fun k_ => some k_ ≠ (s_.1 : Value).ownBlock ∧ nb Ao85 t350.length co85 k_) v334 t333) ∧ (Kd.R Kd.string 9 w' w.heap.size (fun k_ => some k_ ≠ (s_.1 : Value).ownBlock ∧ some k_ ≠ (v334 : Value).ownBlock) (.slice Ao85 t350.length co85) t357) ∧ (w'.heap[gb316]? = some (.cells #[.int .i64 a0_0, .bool a0_1, .string a0_2] 23 (0, 0))) ∧ (w'.heap[gb317]? = some (.cells #[.int .i64 a1_0, .int .i64 a1_1, .int .i64 a1_2, .int .i64 a1_3, .int .i64 a1_4, .string a1_5, .string a1_6] 25 (0, 0))) ∧ (w'.heap[gb336]? = some (.cells #[.int .i64 t330, .bool t331, .string t332] 28 (0, 0))) ∧ (w'.heap[gb353]? = some (.cells #[.int .i64 t347, .bool t348, .string t349] 28 (0, 0))) ∧ (w'.heap[s_.2]? = some (.cells #[.int .i64 0, .bool false, .string (⟨#[]⟩ : ByteArray)] 28 (0, 0))) ∧ (w.heap.size ≤ s_.2) ∧ (w.heap.size ≤ s_.2) ∧ (gb316 ≠ s_.2) ∧ (s_.2 ≠ gb316) ∧ (gb317 ≠ s_.2) ∧ (s_.2 ≠ gb317) ∧ (gb336 ≠ s_.2) ∧ (s_.2 ≠ gb336) ∧ (gb353 ≠ s_.2) ∧ (s_.2 ≠ gb353) ∧ (Below w.heap.size w w')) ?_ ?_
        rotate_left
        ·intro hCont
         refine two_ (i := 1) (j := 8) (Ni := some 63) (Nj := some 12) #[true, true, true, false, false, false, false, false, false, false, false] #[true, false, true, false, false, false, false, false, true, false, false] rfl rfl rfl rfl (two_of HT_.out (by kernel_rfl)) (by decide) (by decide) (fun K hK => ?_) (fun K hK => ?_)
         ·skip
          refine goes_ Tryd.func7 (by kernel_rfl) rfl #[.agg #[.int .i64 a0_0, .bool a0_1, .string a0_2]] (by rfl) rfl rfl gl_ ?_
          with_reducible refine (laws_toHears.calls a0_0 a0_1 a0_2 t359 t360 t361 _ A81.out).mono ?_
          rintro e w89 ⟨rfl, hb⟩
          refine ⟨_, rfl, ?_⟩
          have n0_ := m_ (Kd.R_below (rN HO_7.out) hb)
          have n1_ := m_ (Kd.R_below (rN HO_9.out) hb)
          have n2_ := m_ (blk_below (kN BK316.out) hb)
          have n3_ := m_ (blk_below (kN BK317.out) hb)
          have n4_ := m_ (blk_below (kN BK336.out) hb)
          have n5_ := m_ (blk_below (kN BK353.out) hb)
          have n6_ := m_ (below_step (bN HB.out) hb)
          clear HO_7
          clear HO_9
          clear BK316
          clear BK317
          clear BK336
          clear BK353
          clear HB
          have HO_7 := n0_
          have HO_9 := n1_
          have BK316 := n2_
          have BK317 := n3_
          have BK336 := n4_
          have BK353 := n5_
          have HB := n6_
          clear n0_ n1_ n2_ n3_ n4_ n5_ n6_
          (try clear hb)
          (try clear hb2)
          (try clear hk)
          (try clear hi)
          refine hK.out _ _ ⟨bc BK316 0, bc BK316 1, bc BK316 2, bc BK317 0, bc BK317 1, bc BK317 2, bc BK317 3, bc BK317 4, bc BK317 5, bc BK317 6⟩ (fun hHeld => ?_)
          clear hK K
          refine np (h := ?_)
          refine two_ (i := 3) (j := 8) (Ni := some 65) (Nj := some 12) #[true, true, true, true, false, false, false, false, false, false, false] #[true, true, true, false, false, false, false, false, true, false, false] rfl rfl rfl rfl (two_of HT_.out (by kernel_rfl)) (by decide) (by decide) (fun K hK => ?_) (fun K hK => ?_)
          ·skip
           refine goes_ Tryd.func8 (by kernel_rfl) rfl #[.agg #[.int .i64 a1_0, .int .i64 a1_1, .int .i64 a1_2, .int .i64 a1_3, .int .i64 a1_4, .string a1_5, .string a1_6]] (by rfl) rfl rfl gl_ ?_
           with_reducible refine (laws_toDown.calls a1_0 a1_1 a1_2 a1_3 a1_4 a1_5 a1_6 t362 t363 t364 t365 t366 t367 t368 _ A82.out).mono ?_
           rintro e w90 ⟨rfl, hb⟩
           refine ⟨_, rfl, ?_⟩
           have n0_ := m_ (Kd.R_below (rN HO_7.out) hb)
           have n1_ := m_ (Kd.R_below (rN HO_9.out) hb)
           have n2_ := m_ (blk_below (kN BK316.out) hb)
           have n3_ := m_ (blk_below (kN BK317.out) hb)
           have n4_ := m_ (blk_below (kN BK336.out) hb)
           have n5_ := m_ (blk_below (kN BK353.out) hb)
           have n6_ := m_ (below_step (bN HB.out) hb)
           clear HO_7
           clear HO_9
           clear BK316
           clear BK317
           clear BK336
           clear BK353
           clear HB
           have HO_7 := n0_
           have HO_9 := n1_
           have BK316 := n2_
           have BK317 := n3_
           have BK336 := n4_
           have BK353 := n5_
           have HB := n6_
           clear n0_ n1_ n2_ n3_ n4_ n5_ n6_
           (try clear hb)
           (try clear hb2)
           (try clear hk)
           (try clear hi)
           refine hK.out _ _ ⟨bc BK316 0, bc BK316 1, bc BK316 2, bc BK317 0, bc BK317 1, bc BK317 2, bc BK317 3, bc BK317 4, bc BK317 5, bc BK317 6⟩ (fun hHeld => ?_)
           clear hK K
           refine np (h := ?_)
           refine two_ (i := 4) (j := 8) (Ni := some 66) (Nj := some 12) #[true, true, true, true, true, false, false, false, false, false, false] #[true, true, true, true, false, false, false, false, true, false, false] rfl rfl rfl rfl (two_of HT_.out (by kernel_rfl)) (by decide) (by decide) (fun K hK => ?_) (fun K hK => ?_)
           ·skip
            refine goes_ Tryd.func9 (by kernel_rfl) rfl #[.agg #[.int .i64 t359, .bool t360, .string t361], .agg #[.int .i64 t362, .int .i64 t363, .int .i64 t364, .int .i64 t365, .int .i64 t366, .string t367, .string t368]] (by rfl) rfl rfl gl_ ?_
            with_reducible refine (impl_HearsDown.calls kj24 t359 t360 t361 t362 t363 t364 t365 t366 t367 t368 t369 t370 t371 t372 _ A83.out).mono ?_
            rintro e w91 ⟨v373, rfl, ho0, hb⟩
            refine ⟨_, rfl, ?_⟩
            have n0_ := m_ (Kd.R_elder' (rN HO_7.out) (Kd.R_base ho0) hb)
            have n1_ := m_ (Kd.R_elder' (rN HO_9.out) (Kd.R_base ho0) hb)
            have n2_ := m_ (Kd.R_lower (Kd.R_new' (Kd.R_new' ho0 (Kd.R_lt (rN HO_7.out))) (Kd.R_lt (rN HO_9.out))) (below_size (bN HB.out)))
            have n3_ := m_ (blk_below (kN BK316.out) hb)
            have n4_ := m_ (blk_below (kN BK317.out) hb)
            have n5_ := m_ (blk_below (kN BK336.out) hb)
            have n6_ := m_ (blk_below (kN BK353.out) hb)
            have n7_ := m_ (below_step (bN HB.out) hb)
            clear HO_7
            clear HO_9
            clear BK316
            clear BK317
            clear BK336
            clear BK353
            clear HB
            have HO_7 := n0_
            have HO_9 := n1_
            have HO374 := n2_
            have BK316 := n3_
            have BK317 := n4_
            have BK336 := n5_
            have BK353 := n6_
            have HB := n7_
            clear n0_ n1_ n2_ n3_ n4_ n5_ n6_ n7_
            (try clear hb)
            (try clear hb2)
            (try clear hk)
            (try clear hi)
            (try clear ho0)
            refine hK.out _ _ ⟨bc BK316 0, bc BK316 1, bc BK316 2, bc BK317 0, bc BK317 1, bc BK317 2, bc BK317 3, bc BK317 4, bc BK317 5, bc BK317 6⟩ (fun hHeld => ?_)
            clear hK K
            refine np (h := ?_)
            refine pu 5 61 HT_ (h := ?_)
            refine pu 6 67 HT_ (h := ?_)
            refine pu 7 68 HT_ (h := ?_)
            refine one_ (i := 8) (N := some 12) #[true, true, true, true, true, true, true, true, true, false, false] rfl rfl (one_of HT_.out (by kernel_rfl)) (by decide) (fun K hK => ?_)
            refine box_step ?hg (N := 12) ?hd (cs := #[.int .i64 0, .bool false, .string (⟨#[]⟩ : ByteArray)]) (t := 28) ?hr ?_; (case hd => rfl); (case hg => rfl); (case hr => first | (go_simp; done) | (go_simp; rfl))
            intro gb375 hg w92 hbox hb
            have n0_ := m_ (Kd.R_below (rN HO_7.out) hb)
            have n1_ := m_ (Kd.R_below (rN HO_9.out) hb)
            have n2_ := m_ (Kd.R_below (rN HO374.out) hb)
            have n3_ := m_ (blk_below (kN BK316.out) hb)
            have n4_ := m_ (blk_below (kN BK317.out) hb)
            have n5_ := m_ (blk_below (kN BK336.out) hb)
            have n6_ := m_ (blk_below (kN BK353.out) hb)
            have n7_ := m_ (below_step (bN HB.out) hb)
            have n8_ := m_ (hbox)
            have n9_ := m_ ((by rw [hg]; exact (below_size (bN HB.out)) : w.heap.size ≤ gb375))
            have n10_ := m_ ((by rw [hg]; exact (below_size (bN HB.out)) : w.heap.size ≤ gb375))
            have n11_ := m_ (nL hg BK316.out)
            have n12_ := m_ (nG hg BK316.out)
            have n13_ := m_ (nL hg BK317.out)
            have n14_ := m_ (nG hg BK317.out)
            have n15_ := m_ (nL hg BK336.out)
            have n16_ := m_ (nG hg BK336.out)
            have n17_ := m_ (nL hg BK353.out)
            have n18_ := m_ (nG hg BK353.out)
            clear HO_7
            clear HO_9
            clear HO374
            clear BK316
            clear BK317
            clear BK336
            clear BK353
            clear HB
            have HO_7 := n0_
            have HO_9 := n1_
            have HO374 := n2_
            have BK316 := n3_
            have BK317 := n4_
            have BK336 := n5_
            have BK353 := n6_
            have HB := n7_
            have BK375 := n8_
            have GW375 := n9_
            have GE375 := n10_
            have NB316_375 := n11_
            have NB375_316 := n12_
            have NB317_375 := n13_
            have NB375_317 := n14_
            have NB336_375 := n15_
            have NB375_336 := n16_
            have NB353_375 := n17_
            have NB375_353 := n18_
            clear n0_ n1_ n2_ n3_ n4_ n5_ n6_ n7_ n8_ n9_ n10_ n11_ n12_ n13_ n14_ n15_ n16_ n17_ n18_
            clear hb hbox hg
            refine hK.out _ _ ⟨bc BK316 0, bc BK316 1, bc BK316 2, bc BK317 0, bc BK317 1, bc BK317 2, bc BK317 3, bc BK317 4, bc BK317 5, bc BK317 6⟩ (fun hHeld => ?_)
            clear hK K
            refine np (h := ?_)
            exact nq (hCont (v373, gb375) _ ⟨hHeld, (by (with_reducible repeat (first | apply Kd.R_alloc | apply Kd.R_drewN | apply Kd.R_drew)); exact Kd.R_mono HO374.out (fun _ hk => ⟨hk.1.2, hk.2⟩)), (by (with_reducible repeat (first | apply Kd.R_alloc | apply Kd.R_drewN | apply Kd.R_drew)); exact Kd.R_mono HO_7.out (fun _ hk => ⟨hk.2, hk.1⟩)), (by (with_reducible repeat (first | apply Kd.R_alloc | apply Kd.R_drewN | apply Kd.R_drew)); exact Kd.R_mono HO_9.out (fun _ hk => ⟨hk.2, hk.1⟩)), (kN BK316.out), (kN BK317.out), (kN BK336.out), (kN BK353.out), (kN BK375.out), GW375.out, GE375.out, NB316_375.out, NB375_316.out, NB317_375.out, NB375_317.out, NB336_375.out, NB375_336.out, NB353_375.out, NB375_353.out, (bN HB.out)⟩)
           ·skip
            refine box_step ?hg (N := 12) ?hd (cs := #[.int .i64 0, .bool false, .string (⟨#[]⟩ : ByteArray)]) (t := 28) ?hr ?_; (case hd => rfl); (case hg => rfl); (case hr => first | (go_simp; done) | (go_simp; rfl))
            intro gb375 hg w91 hbox hb
            have n0_ := m_ (Kd.R_below (rN HO_7.out) hb)
            have n1_ := m_ (Kd.R_below (rN HO_9.out) hb)
            have n2_ := m_ (blk_below (kN BK316.out) hb)
            have n3_ := m_ (blk_below (kN BK317.out) hb)
            have n4_ := m_ (blk_below (kN BK336.out) hb)
            have n5_ := m_ (blk_below (kN BK353.out) hb)
            have n6_ := m_ (below_step (bN HB.out) hb)
            have n7_ := m_ (hbox)
            have n8_ := m_ ((by rw [hg]; exact (below_size (bN HB.out)) : w.heap.size ≤ gb375))
            have n9_ := m_ ((by rw [hg]; exact (below_size (bN HB.out)) : w.heap.size ≤ gb375))
            have n10_ := m_ (nL hg BK316.out)
            have n11_ := m_ (nG hg BK316.out)
            have n12_ := m_ (nL hg BK317.out)
            have n13_ := m_ (nG hg BK317.out)
            have n14_ := m_ (nL hg BK336.out)
            have n15_ := m_ (nG hg BK336.out)
            have n16_ := m_ (nL hg BK353.out)
            have n17_ := m_ (nG hg BK353.out)
            clear HO_7
            clear HO_9
            clear BK316
            clear BK317
            clear BK336
            clear BK353
            clear HB
            have HO_7 := n0_
            have HO_9 := n1_
            have BK316 := n2_
            have BK317 := n3_
            have BK336 := n4_
            have BK353 := n5_
            have HB := n6_
            have BK375 := n7_
            have GW375 := n8_
            have GE375 := n9_
            have NB316_375 := n10_
            have NB375_316 := n11_
            have NB317_375 := n12_
            have NB375_317 := n13_
            have NB336_375 := n14_
            have NB375_336 := n15_
            have NB353_375 := n16_
            have NB375_353 := n17_
            clear n0_ n1_ n2_ n3_ n4_ n5_ n6_ n7_ n8_ n9_ n10_ n11_ n12_ n13_ n14_ n15_ n16_ n17_
            clear hb hbox hg
            refine hK.out _ _ ⟨bc BK316 0, bc BK316 1, bc BK316 2, bc BK317 0, bc BK317 1, bc BK317 2, bc BK317 3, bc BK317 4, bc BK317 5, bc BK317 6⟩ (fun hHeld => ?_)
            clear hK K
            refine np (h := ?_)
            refine one_ (i := 4) (N := some 66) #[true, true, true, true, true, false, false, false, true, false, false] rfl rfl (one_of HT_.out (by kernel_rfl)) (by decide) (fun K hK => ?_)
            refine goes_ Tryd.func9 (by kernel_rfl) rfl #[.agg #[.int .i64 t359, .bool t360, .string t361], .agg #[.int .i64 t362, .int .i64 t363, .int .i64 t364, .int .i64 t365, .int .i64 t366, .string t367, .string t368]] (by rfl) rfl rfl gl_ ?_
            with_reducible refine (impl_HearsDown.calls kj24 t359 t360 t361 t362 t363 t364 t365 t366 t367 t368 t369 t370 t371 t372 _ A83.out).mono ?_
            rintro e w92 ⟨v373, rfl, ho0, hb⟩
            refine ⟨_, rfl, ?_⟩
            have n0_ := m_ (Kd.R_elder' (rN HO_7.out) (Kd.R_base ho0) hb)
            have n1_ := m_ (Kd.R_elder' (rN HO_9.out) (Kd.R_base ho0) hb)
            have n2_ := m_ (Kd.R_lower (Kd.R_new' (Kd.R_new' ho0 (Kd.R_lt (rN HO_7.out))) (Kd.R_lt (rN HO_9.out))) (below_size (bN HB.out)))
            have n3_ := m_ (blk_below (kN BK316.out) hb)
            have n4_ := m_ (blk_below (kN BK317.out) hb)
            have n5_ := m_ (blk_below (kN BK336.out) hb)
            have n6_ := m_ (blk_below (kN BK353.out) hb)
            have n7_ := m_ (blk_below (g := gb375) (o := .cells #[.int .i64 0, .bool false, .string (⟨#[]⟩ : ByteArray)] 28 (0, 0)) (kN BK375.out) hb)
            have n8_ := m_ (below_step (bN HB.out) hb)
            clear HO_7
            clear HO_9
            clear BK316
            clear BK317
            clear BK336
            clear BK353
            clear BK375
            clear HB
            have HO_7 := n0_
            have HO_9 := n1_
            have HO374 := n2_
            have BK316 := n3_
            have BK317 := n4_
            have BK336 := n5_
            have BK353 := n6_
            have BK375 := n7_
            have HB := n8_
            clear n0_ n1_ n2_ n3_ n4_ n5_ n6_ n7_ n8_
            (try clear hb)
            (try clear hb2)
            (try clear hk)
            (try clear hi)
            (try clear ho0)
            refine hK.out _ _ ⟨bc BK316 0, bc BK316 1, bc BK316 2, bc BK317 0, bc BK317 1, bc BK317 2, bc BK317 3, bc BK317 4, bc BK317 5, bc BK317 6⟩ (fun hHeld => ?_)
            clear hK K
            refine np (h := ?_)
            refine pu 5 61 HT_ (h := ?_)
            refine pu 6 67 HT_ (h := ?_)
            refine pu 7 68 HT_ (h := ?_)
            exact nq (hCont (v373, gb375) _ ⟨hHeld, (by (with_reducible repeat (first | apply Kd.R_alloc | apply Kd.R_drewN | apply Kd.R_drew)); exact Kd.R_mono HO374.out (fun _ hk => ⟨hk.1.2, hk.2⟩)), (by (with_reducible repeat (first | apply Kd.R_alloc | apply Kd.R_drewN | apply Kd.R_drew)); exact Kd.R_mono HO_7.out (fun _ hk => ⟨hk.2, hk.1⟩)), (by (with_reducible repeat (first | apply Kd.R_alloc | apply Kd.R_drewN | apply Kd.R_drew)); exact Kd.R_mono HO_9.out (fun _ hk => ⟨hk.2, hk.1⟩)), (kN BK316.out), (kN BK317.out), (kN BK336.out), (kN BK353.out), (kN BK375.out), GW375.out, GE375.out, NB316_375.out, NB375_316.out, NB317_375.out, NB375_317.out, NB336_375.out, NB375_336.out, NB353_375.out, NB375_353.out, (bN HB.out)⟩)
          ·skip
           refine box_step ?hg (N := 12) ?hd (cs := #[.int .i64 0, .bool false, .string (⟨#[]⟩ : ByteArray)]) (t := 28) ?hr ?_; (case hd => rfl); (case hg => rfl); (case hr => first | (go_simp; done) | (go_simp; rfl))
           intro gb375 hg w90 hbox hb
           have n0_ := m_ (Kd.R_below (rN HO_7.out) hb)
           have n1_ := m_ (Kd.R_below (rN HO_9.out) hb)
           have n2_ := m_ (blk_below (kN BK316.out) hb)
           have n3_ := m_ (blk_below (kN BK317.out) hb)
           have n4_ := m_ (blk_below (kN BK336.out) hb)
           have n5_ := m_ (blk_below (kN BK353.out) hb)
           have n6_ := m_ (below_step (bN HB.out) hb)
           have n7_ := m_ (hbox)
           have n8_ := m_ ((by rw [hg]; exact (below_size (bN HB.out)) : w.heap.size ≤ gb375))
           have n9_ := m_ ((by rw [hg]; exact (below_size (bN HB.out)) : w.heap.size ≤ gb375))
           have n10_ := m_ (nL hg BK316.out)
           have n11_ := m_ (nG hg BK316.out)
           have n12_ := m_ (nL hg BK317.out)
           have n13_ := m_ (nG hg BK317.out)
           have n14_ := m_ (nL hg BK336.out)
           have n15_ := m_ (nG hg BK336.out)
           have n16_ := m_ (nL hg BK353.out)
           have n17_ := m_ (nG hg BK353.out)
           clear HO_7
           clear HO_9
           clear BK316
           clear BK317
           clear BK336
           clear BK353
           clear HB
           have HO_7 := n0_
           have HO_9 := n1_
           have BK316 := n2_
           have BK317 := n3_
           have BK336 := n4_
           have BK353 := n5_
           have HB := n6_
           have BK375 := n7_
           have GW375 := n8_
           have GE375 := n9_
           have NB316_375 := n10_
           have NB375_316 := n11_
           have NB317_375 := n12_
           have NB375_317 := n13_
           have NB336_375 := n14_
           have NB375_336 := n15_
           have NB353_375 := n16_
           have NB375_353 := n17_
           clear n0_ n1_ n2_ n3_ n4_ n5_ n6_ n7_ n8_ n9_ n10_ n11_ n12_ n13_ n14_ n15_ n16_ n17_
           clear hb hbox hg
           refine hK.out _ _ ⟨bc BK316 0, bc BK316 1, bc BK316 2, bc BK317 0, bc BK317 1, bc BK317 2, bc BK317 3, bc BK317 4, bc BK317 5, bc BK317 6⟩ (fun hHeld => ?_)
           clear hK K
           refine np (h := ?_)
           refine one_ (i := 3) (N := some 65) #[true, true, true, true, false, false, false, false, true, false, false] rfl rfl (one_of HT_.out (by kernel_rfl)) (by decide) (fun K hK => ?_)
           refine goes_ Tryd.func8 (by kernel_rfl) rfl #[.agg #[.int .i64 a1_0, .int .i64 a1_1, .int .i64 a1_2, .int .i64 a1_3, .int .i64 a1_4, .string a1_5, .string a1_6]] (by rfl) rfl rfl gl_ ?_
           with_reducible refine (laws_toDown.calls a1_0 a1_1 a1_2 a1_3 a1_4 a1_5 a1_6 t362 t363 t364 t365 t366 t367 t368 _ A82.out).mono ?_
           rintro e w91 ⟨rfl, hb⟩
           refine ⟨_, rfl, ?_⟩
           have n0_ := m_ (Kd.R_below (rN HO_7.out) hb)
           have n1_ := m_ (Kd.R_below (rN HO_9.out) hb)
           have n2_ := m_ (blk_below (kN BK316.out) hb)
           have n3_ := m_ (blk_below (kN BK317.out) hb)
           have n4_ := m_ (blk_below (kN BK336.out) hb)
           have n5_ := m_ (blk_below (kN BK353.out) hb)
           have n6_ := m_ (blk_below (g := gb375) (o := .cells #[.int .i64 0, .bool false, .string (⟨#[]⟩ : ByteArray)] 28 (0, 0)) (kN BK375.out) hb)
           have n7_ := m_ (below_step (bN HB.out) hb)
           clear HO_7
           clear HO_9
           clear BK316
           clear BK317
           clear BK336
           clear BK353
           clear BK375
           clear HB
           have HO_7 := n0_
           have HO_9 := n1_
           have BK316 := n2_
           have BK317 := n3_
           have BK336 := n4_
           have BK353 := n5_
           have BK375 := n6_
           have HB := n7_
           clear n0_ n1_ n2_ n3_ n4_ n5_ n6_ n7_
           (try clear hb)
           (try clear hb2)
           (try clear hk)
           (try clear hi)
           refine hK.out _ _ ⟨bc BK316 0, bc BK316 1, bc BK316 2, bc BK317 0, bc BK317 1, bc BK317 2, bc BK317 3, bc BK317 4, bc BK317 5, bc BK317 6⟩ (fun hHeld => ?_)
           clear hK K
           refine np (h := ?_)
           refine one_ (i := 4) (N := some 66) #[true, true, true, true, true, false, false, false, true, false, false] rfl rfl (one_of HT_.out (by kernel_rfl)) (by decide) (fun K hK => ?_)
           refine goes_ Tryd.func9 (by kernel_rfl) rfl #[.agg #[.int .i64 t359, .bool t360, .string t361], .agg #[.int .i64 t362, .int .i64 t363, .int .i64 t364, .int .i64 t365, .int .i64 t366, .string t367, .string t368]] (by rfl) rfl rfl gl_ ?_
           with_reducible refine (impl_HearsDown.calls kj24 t359 t360 t361 t362 t363 t364 t365 t366 t367 t368 t369 t370 t371 t372 _ A83.out).mono ?_
           rintro e w92 ⟨v373, rfl, ho0, hb⟩
           refine ⟨_, rfl, ?_⟩
           have n0_ := m_ (Kd.R_elder' (rN HO_7.out) (Kd.R_base ho0) hb)
           have n1_ := m_ (Kd.R_elder' (rN HO_9.out) (Kd.R_base ho0) hb)
           have n2_ := m_ (Kd.R_lower (Kd.R_new' (Kd.R_new' ho0 (Kd.R_lt (rN HO_7.out))) (Kd.R_lt (rN HO_9.out))) (below_size (bN HB.out)))
           have n3_ := m_ (blk_below (kN BK316.out) hb)
           have n4_ := m_ (blk_below (kN BK317.out) hb)
           have n5_ := m_ (blk_below (kN BK336.out) hb)
           have n6_ := m_ (blk_below (kN BK353.out) hb)
           have n7_ := m_ (blk_below (g := gb375) (o := .cells #[.int .i64 0, .bool false, .string (⟨#[]⟩ : ByteArray)] 28 (0, 0)) (kN BK375.out) hb)
           have n8_ := m_ (below_step (bN HB.out) hb)
           clear HO_7
           clear HO_9
           clear BK316
           clear BK317
           clear BK336
           clear BK353
           clear BK375
           clear HB
           have HO_7 := n0_
           have HO_9 := n1_
           have HO374 := n2_
           have BK316 := n3_
           have BK317 := n4_
           have BK336 := n5_
           have BK353 := n6_
           have BK375 := n7_
           have HB := n8_
           clear n0_ n1_ n2_ n3_ n4_ n5_ n6_ n7_ n8_
           (try clear hb)
           (try clear hb2)
           (try clear hk)
           (try clear hi)
           (try clear ho0)
           refine hK.out _ _ ⟨bc BK316 0, bc BK316 1, bc BK316 2, bc BK317 0, bc BK317 1, bc BK317 2, bc BK317 3, bc BK317 4, bc BK317 5, bc BK317 6⟩ (fun hHeld => ?_)
           clear hK K
           refine np (h := ?_)
           refine pu 5 61 HT_ (h := ?_)
           refine pu 6 67 HT_ (h := ?_)
           refine pu 7 68 HT_ (h := ?_)
           exact nq (hCont (v373, gb375) _ ⟨hHeld, (by (with_reducible repeat (first | apply Kd.R_alloc | apply Kd.R_drewN | apply Kd.R_drew)); exact Kd.R_mono HO374.out (fun _ hk => ⟨hk.1.2, hk.2⟩)), (by (with_reducible repeat (first | apply Kd.R_alloc | apply Kd.R_drewN | apply Kd.R_drew)); exact Kd.R_mono HO_7.out (fun _ hk => ⟨hk.2, hk.1⟩)), (by (with_reducible repeat (first | apply Kd.R_alloc | apply Kd.R_drewN | apply Kd.R_drew)); exact Kd.R_mono HO_9.out (fun _ hk => ⟨hk.2, hk.1⟩)), (kN BK316.out), (kN BK317.out), (kN BK336.out), (kN BK353.out), (kN BK375.out), GW375.out, GE375.out, NB316_375.out, NB375_316.out, NB317_375.out, NB375_317.out, NB336_375.out, NB375_336.out, NB353_375.out, NB375_353.out, (bN HB.out)⟩)
         ·skip
          refine box_step ?hg (N := 12) ?hd (cs := #[.int .i64 0, .bool false, .string (⟨#[]⟩ : ByteArray)]) (t := 28) ?hr ?_; (case hd => rfl); (case hg => rfl); (case hr => first | (go_simp; done) | (go_simp; rfl))
          intro gb375 hg w89 hbox hb
          have n0_ := m_ (Kd.R_below (rN HO_7.out) hb)
          have n1_ := m_ (Kd.R_below (rN HO_9.out) hb)
          have n2_ := m_ (blk_below (kN BK316.out) hb)
          have n3_ := m_ (blk_below (kN BK317.out) hb)
          have n4_ := m_ (blk_below (kN BK336.out) hb)
          have n5_ := m_ (blk_below (kN BK353.out) hb)
          have n6_ := m_ (below_step (bN HB.out) hb)
          have n7_ := m_ (hbox)
          have n8_ := m_ ((by rw [hg]; exact (below_size (bN HB.out)) : w.heap.size ≤ gb375))
          have n9_ := m_ ((by rw [hg]; exact (below_size (bN HB.out)) : w.heap.size ≤ gb375))
          have n10_ := m_ (nL hg BK316.out)
          have n11_ := m_ (nG hg BK316.out)
          have n12_ := m_ (nL hg BK317.out)
          have n13_ := m_ (nG hg BK317.out)
          have n14_ := m_ (nL hg BK336.out)
          have n15_ := m_ (nG hg BK336.out)
          have n16_ := m_ (nL hg BK353.out)
          have n17_ := m_ (nG hg BK353.out)
          clear HO_7
          clear HO_9
          clear BK316
          clear BK317
          clear BK336
          clear BK353
          clear HB
          have HO_7 := n0_
          have HO_9 := n1_
          have BK316 := n2_
          have BK317 := n3_
          have BK336 := n4_
          have BK353 := n5_
          have HB := n6_
          have BK375 := n7_
          have GW375 := n8_
          have GE375 := n9_
          have NB316_375 := n10_
          have NB375_316 := n11_
          have NB317_375 := n12_
          have NB375_317 := n13_
          have NB336_375 := n14_
          have NB375_336 := n15_
          have NB353_375 := n16_
          have NB375_353 := n17_
          clear n0_ n1_ n2_ n3_ n4_ n5_ n6_ n7_ n8_ n9_ n10_ n11_ n12_ n13_ n14_ n15_ n16_ n17_
          clear hb hbox hg
          refine hK.out _ _ ⟨bc BK316 0, bc BK316 1, bc BK316 2, bc BK317 0, bc BK317 1, bc BK317 2, bc BK317 3, bc BK317 4, bc BK317 5, bc BK317 6⟩ (fun hHeld => ?_)
          clear hK K
          refine np (h := ?_)
          refine one_ (i := 1) (N := some 63) #[true, true, true, false, false, false, false, false, true, false, false] rfl rfl (one_of HT_.out (by kernel_rfl)) (by decide) (fun K hK => ?_)
          refine goes_ Tryd.func7 (by kernel_rfl) rfl #[.agg #[.int .i64 a0_0, .bool a0_1, .string a0_2]] (by rfl) rfl rfl gl_ ?_
          with_reducible refine (laws_toHears.calls a0_0 a0_1 a0_2 t359 t360 t361 _ A81.out).mono ?_
          rintro e w90 ⟨rfl, hb⟩
          refine ⟨_, rfl, ?_⟩
          have n0_ := m_ (Kd.R_below (rN HO_7.out) hb)
          have n1_ := m_ (Kd.R_below (rN HO_9.out) hb)
          have n2_ := m_ (blk_below (kN BK316.out) hb)
          have n3_ := m_ (blk_below (kN BK317.out) hb)
          have n4_ := m_ (blk_below (kN BK336.out) hb)
          have n5_ := m_ (blk_below (kN BK353.out) hb)
          have n6_ := m_ (blk_below (g := gb375) (o := .cells #[.int .i64 0, .bool false, .string (⟨#[]⟩ : ByteArray)] 28 (0, 0)) (kN BK375.out) hb)
          have n7_ := m_ (below_step (bN HB.out) hb)
          clear HO_7
          clear HO_9
          clear BK316
          clear BK317
          clear BK336
          clear BK353
          clear BK375
          clear HB
          have HO_7 := n0_
          have HO_9 := n1_
          have BK316 := n2_
          have BK317 := n3_
          have BK336 := n4_
          have BK353 := n5_
          have BK375 := n6_
          have HB := n7_
          clear n0_ n1_ n2_ n3_ n4_ n5_ n6_ n7_
          (try clear hb)
          (try clear hb2)
          (try clear hk)
          (try clear hi)
          refine hK.out _ _ ⟨bc BK316 0, bc BK316 1, bc BK316 2, bc BK317 0, bc BK317 1, bc BK317 2, bc BK317 3, bc BK317 4, bc BK317 5, bc BK317 6⟩ (fun hHeld => ?_)
          clear hK K
          refine np (h := ?_)
          refine one_ (i := 3) (N := some 65) #[true, true, true, true, false, false, false, false, true, false, false] rfl rfl (one_of HT_.out (by kernel_rfl)) (by decide) (fun K hK => ?_)
          refine goes_ Tryd.func8 (by kernel_rfl) rfl #[.agg #[.int .i64 a1_0, .int .i64 a1_1, .int .i64 a1_2, .int .i64 a1_3, .int .i64 a1_4, .string a1_5, .string a1_6]] (by rfl) rfl rfl gl_ ?_
          with_reducible refine (laws_toDown.calls a1_0 a1_1 a1_2 a1_3 a1_4 a1_5 a1_6 t362 t363 t364 t365 t366 t367 t368 _ A82.out).mono ?_
          rintro e w91 ⟨rfl, hb⟩
          refine ⟨_, rfl, ?_⟩
          have n0_ := m_ (Kd.R_below (rN HO_7.out) hb)
          have n1_ := m_ (Kd.R_below (rN HO_9.out) hb)
          have n2_ := m_ (blk_below (kN BK316.out) hb)
          have n3_ := m_ (blk_below (kN BK317.out) hb)
          have n4_ := m_ (blk_below (kN BK336.out) hb)
          have n5_ := m_ (blk_below (kN BK353.out) hb)
          have n6_ := m_ (blk_below (g := gb375) (o := .cells #[.int .i64 0, .bool false, .string (⟨#[]⟩ : ByteArray)] 28 (0, 0)) (kN BK375.out) hb)
          have n7_ := m_ (below_step (bN HB.out) hb)
          clear HO_7
          clear HO_9
          clear BK316
          clear BK317
          clear BK336
          clear BK353
          clear BK375
          clear HB
          have HO_7 := n0_
          have HO_9 := n1_
          have BK316 := n2_
          have BK317 := n3_
          have BK336 := n4_
          have BK353 := n5_
          have BK375 := n6_
          have HB := n7_
          clear n0_ n1_ n2_ n3_ n4_ n5_ n6_ n7_
          (try clear hb)
          (try clear hb2)
          (try clear hk)
          (try clear hi)
          refine hK.out _ _ ⟨bc BK316 0, bc BK316 1, bc BK316 2, bc BK317 0, bc BK317 1, bc BK317 2, bc BK317 3, bc BK317 4, bc BK317 5, bc BK317 6⟩ (fun hHeld => ?_)
          clear hK K
          refine np (h := ?_)
          refine one_ (i := 4) (N := some 66) #[true, true, true, true, true, false, false, false, true, false, false] rfl rfl (one_of HT_.out (by kernel_rfl)) (by decide) (fun K hK => ?_)
          refine goes_ Tryd.func9 (by kernel_rfl) rfl #[.agg #[.int .i64 t359, .bool t360, .string t361], .agg #[.int .i64 t362, .int .i64 t363, .int .i64 t364, .int .i64 t365, .int .i64 t366, .string t367, .string t368]] (by rfl) rfl rfl gl_ ?_
          with_reducible refine (impl_HearsDown.calls kj24 t359 t360 t361 t362 t363 t364 t365 t366 t367 t368 t369 t370 t371 t372 _ A83.out).mono ?_
          rintro e w92 ⟨v373, rfl, ho0, hb⟩
          refine ⟨_, rfl, ?_⟩
          have n0_ := m_ (Kd.R_elder' (rN HO_7.out) (Kd.R_base ho0) hb)
          have n1_ := m_ (Kd.R_elder' (rN HO_9.out) (Kd.R_base ho0) hb)
          have n2_ := m_ (Kd.R_lower (Kd.R_new' (Kd.R_new' ho0 (Kd.R_lt (rN HO_7.out))) (Kd.R_lt (rN HO_9.out))) (below_size (bN HB.out)))
          have n3_ := m_ (blk_below (kN BK316.out) hb)
          have n4_ := m_ (blk_below (kN BK317.out) hb)
          have n5_ := m_ (blk_below (kN BK336.out) hb)
          have n6_ := m_ (blk_below (kN BK353.out) hb)
          have n7_ := m_ (blk_below (g := gb375) (o := .cells #[.int .i64 0, .bool false, .string (⟨#[]⟩ : ByteArray)] 28 (0, 0)) (kN BK375.out) hb)
          have n8_ := m_ (below_step (bN HB.out) hb)
          clear HO_7
          clear HO_9
          clear BK316
          clear BK317
          clear BK336
          clear BK353
          clear BK375
          clear HB
          have HO_7 := n0_
          have HO_9 := n1_
          have HO374 := n2_
          have BK316 := n3_
          have BK317 := n4_
          have BK336 := n5_
          have BK353 := n6_
          have BK375 := n7_
          have HB := n8_
          clear n0_ n1_ n2_ n3_ n4_ n5_ n6_ n7_ n8_
          (try clear hb)
          (try clear hb2)
          (try clear hk)
          (try clear hi)
          (try clear ho0)
          refine hK.out _ _ ⟨bc BK316 0, bc BK316 1, bc BK316 2, bc BK317 0, bc BK317 1, bc BK317 2, bc BK317 3, bc BK317 4, bc BK317 5, bc BK317 6⟩ (fun hHeld => ?_)
          clear hK K
          refine np (h := ?_)
          refine pu 5 61 HT_ (h := ?_)
          refine pu 6 67 HT_ (h := ?_)
          refine pu 7 68 HT_ (h := ?_)
          exact nq (hCont (v373, gb375) _ ⟨hHeld, (by (with_reducible repeat (first | apply Kd.R_alloc | apply Kd.R_drewN | apply Kd.R_drew)); exact Kd.R_mono HO374.out (fun _ hk => ⟨hk.1.2, hk.2⟩)), (by (with_reducible repeat (first | apply Kd.R_alloc | apply Kd.R_drewN | apply Kd.R_drew)); exact Kd.R_mono HO_7.out (fun _ hk => ⟨hk.2, hk.1⟩)), (by (with_reducible repeat (first | apply Kd.R_alloc | apply Kd.R_drewN | apply Kd.R_drew)); exact Kd.R_mono HO_9.out (fun _ hk => ⟨hk.2, hk.1⟩)), (kN BK316.out), (kN BK317.out), (kN BK336.out), (kN BK353.out), (kN BK375.out), GW375.out, GE375.out, NB316_375.out, NB375_316.out, NB317_375.out, NB375_317.out, NB336_375.out, NB375_336.out, NB353_375.out, NB375_353.out, (bN HB.out)⟩)
        rintro ⟨v373, gb375⟩ w93 ⟨hS_, h0_, h1_, h2_, h3_, h4_, h5_, h6_, h7_, h8_, h9_, h10_, h11_, h12_, h13_, h14_, h15_, h16_, h17_, h18_⟩
        have n0_ : Aside0 (Kd.R Kd.string 9 w93 w.heap.size (fun k_ => some k_ ≠ (v334 : Value).ownBlock ∧ nb Ao85 t350.length co85 k_) v373 t372) := ⟨h0_⟩
        have n1_ : Aside0 (Kd.R Kd.string 9 w93 w.heap.size (fun k_ => some k_ ≠ (v373 : Value).ownBlock ∧ nb Ao85 t350.length co85 k_) v334 t333) := ⟨h1_⟩
        have n2_ : Aside0 (Kd.R Kd.string 9 w93 w.heap.size (fun k_ => some k_ ≠ (v373 : Value).ownBlock ∧ some k_ ≠ (v334 : Value).ownBlock) (.slice Ao85 t350.length co85) t357) := ⟨h2_⟩
        have n3_ : Aside0 (w93.heap[gb316]? = some (.cells #[.int .i64 a0_0, .bool a0_1, .string a0_2] 23 (0, 0))) := ⟨h3_⟩
        have n4_ : Aside0 (w93.heap[gb317]? = some (.cells #[.int .i64 a1_0, .int .i64 a1_1, .int .i64 a1_2, .int .i64 a1_3, .int .i64 a1_4, .string a1_5, .string a1_6] 25 (0, 0))) := ⟨h4_⟩
        have n5_ : Aside0 (w93.heap[gb336]? = some (.cells #[.int .i64 t330, .bool t331, .string t332] 28 (0, 0))) := ⟨h5_⟩
        have n6_ : Aside0 (w93.heap[gb353]? = some (.cells #[.int .i64 t347, .bool t348, .string t349] 28 (0, 0))) := ⟨h6_⟩
        have n7_ : Aside0 (w93.heap[gb375]? = some (.cells #[.int .i64 0, .bool false, .string (⟨#[]⟩ : ByteArray)] 28 (0, 0))) := ⟨h7_⟩
        have n8_ : Aside0 (w.heap.size ≤ gb375) := ⟨h8_⟩
        have n9_ : Aside0 (w.heap.size ≤ gb375) := ⟨h9_⟩
        have n10_ : Aside0 (gb316 ≠ gb375) := ⟨h10_⟩
        have n11_ : Aside0 (gb375 ≠ gb316) := ⟨h11_⟩
        have n12_ : Aside0 (gb317 ≠ gb375) := ⟨h12_⟩
        have n13_ : Aside0 (gb375 ≠ gb317) := ⟨h13_⟩
        have n14_ : Aside0 (gb336 ≠ gb375) := ⟨h14_⟩
        have n15_ : Aside0 (gb375 ≠ gb336) := ⟨h15_⟩
        have n16_ : Aside0 (gb353 ≠ gb375) := ⟨h16_⟩
        have n17_ : Aside0 (gb375 ≠ gb353) := ⟨h17_⟩
        have n18_ : Aside0 (Below w.heap.size w w93) := ⟨h18_⟩
        clear HO_7
        clear HO_9
        clear BK316
        clear BK317
        clear BK336
        clear BK353
        clear HB
        clear h0_ h1_ h2_ h3_ h4_ h5_ h6_ h7_ h8_ h9_ h10_ h11_ h12_ h13_ h14_ h15_ h16_ h17_ h18_
        have HO374 := n0_
        have HO_7 := n1_
        have HO_9 := n2_
        have BK316 := n3_
        have BK317 := n4_
        have BK336 := n5_
        have BK353 := n6_
        have BK375 := n7_
        have GW375 := n8_
        have GE375 := n9_
        have NB316_375 := n10_
        have NB375_316 := n11_
        have NB317_375 := n12_
        have NB375_317 := n13_
        have NB336_375 := n14_
        have NB375_336 := n15_
        have NB353_375 := n16_
        have NB375_353 := n17_
        have HB := n18_
        clear n0_ n1_ n2_ n3_ n4_ n5_ n6_ n7_ n8_ n9_ n10_ n11_ n12_ n13_ n14_ n15_ n16_ n17_ n18_
        have hHeld : w93.cell? ⟨gb316, 0, none⟩ = some (.int .i64 a0_0) ∧ w93.cell? ⟨gb316, 1, none⟩ = some (.bool a0_1) ∧ w93.cell? ⟨gb316, 2, none⟩ = some (.string a0_2) ∧ w93.cell? ⟨gb317, 0, none⟩ = some (.int .i64 a1_0) ∧ w93.cell? ⟨gb317, 1, none⟩ = some (.int .i64 a1_1) ∧ w93.cell? ⟨gb317, 2, none⟩ = some (.int .i64 a1_2) ∧ w93.cell? ⟨gb317, 3, none⟩ = some (.int .i64 a1_3) ∧ w93.cell? ⟨gb317, 4, none⟩ = some (.int .i64 a1_4) ∧ w93.cell? ⟨gb317, 5, none⟩ = some (.string a1_5) ∧ w93.cell? ⟨gb317, 6, none⟩ = some (.string a1_6) := hS_
        refine norm_ (a' := ?_) ?_ ?_
        rotate_left
        ·simp only [putAll, Act.put, List.setIfInBounds_toArray, List.set_cons_zero, List.set_cons_succ]
         rfl
        refine one_ (i := 9) (N := none) #[true, true, true, true, true, true, true, true, true, true, false] rfl rfl (one_of HT_.out (by kernel_rfl)) (by decide) (fun K hK => ?_)
        have hs94 : w93.cell? ⟨gb375, 0, none⟩ = some (.int .i64 0) := bc BK375 0
        have hfs94 := blk_frozen BK375.out 0
        have hns94_0 := NB316_375.out
        have hns94_1 := NB317_375.out
        have hns94_2 := NB336_375.out
        have hns94_3 := NB353_375.out
        have hms94_0 := NB375_316.out
        have hms94_1 := NB375_317.out
        have hms94_2 := NB375_336.out
        have hms94_3 := NB375_353.out
        have hs95 : w93.cell? ⟨gb375, 1, none⟩ = some (.bool false) := bc BK375 1
        have hfs95 := blk_frozen BK375.out 1
        have hns95_0 := NB316_375.out
        have hns95_1 := NB317_375.out
        have hns95_2 := NB336_375.out
        have hns95_3 := NB353_375.out
        have hms95_0 := NB375_316.out
        have hms95_1 := NB375_317.out
        have hms95_2 := NB375_336.out
        have hms95_3 := NB375_353.out
        have hs96 : w93.cell? ⟨gb375, 2, none⟩ = some (.string (⟨#[]⟩ : ByteArray)) := bc BK375 2
        have hfs96 := blk_frozen BK375.out 2
        have hns96_0 := NB316_375.out
        have hns96_1 := NB317_375.out
        have hns96_2 := NB336_375.out
        have hns96_3 := NB353_375.out
        have hms96_0 := NB375_316.out
        have hms96_1 := NB375_317.out
        have hms96_2 := NB375_336.out
        have hms96_3 := NB375_353.out
        refine skip_ (w1 := ?_) (by rfl) rfl ?_ ?_
        rotate_left
        ·go_simp
         rfl
        refine hK.out _ _ ⟨((cell_far (p := ⟨gb375, _, none⟩) NB316_375.out _).trans (((cell_far (p := ⟨gb375, _, none⟩) NB316_375.out _).trans (((cell_far (p := ⟨gb375, _, none⟩) NB316_375.out _).trans (hHeld.1)))))), ((cell_far (p := ⟨gb375, _, none⟩) NB316_375.out _).trans (((cell_far (p := ⟨gb375, _, none⟩) NB316_375.out _).trans (((cell_far (p := ⟨gb375, _, none⟩) NB316_375.out _).trans (hHeld.2.1)))))), ((cell_far (p := ⟨gb375, _, none⟩) NB316_375.out _).trans (((cell_far (p := ⟨gb375, _, none⟩) NB316_375.out _).trans (((cell_far (p := ⟨gb375, _, none⟩) NB316_375.out _).trans (hHeld.2.2.1)))))), ((cell_far (p := ⟨gb375, _, none⟩) NB317_375.out _).trans (((cell_far (p := ⟨gb375, _, none⟩) NB317_375.out _).trans (((cell_far (p := ⟨gb375, _, none⟩) NB317_375.out _).trans (hHeld.2.2.2.1)))))), ((cell_far (p := ⟨gb375, _, none⟩) NB317_375.out _).trans (((cell_far (p := ⟨gb375, _, none⟩) NB317_375.out _).trans (((cell_far (p := ⟨gb375, _, none⟩) NB317_375.out _).trans (hHeld.2.2.2.2.1)))))), ((cell_far (p := ⟨gb375, _, none⟩) NB317_375.out _).trans (((cell_far (p := ⟨gb375, _, none⟩) NB317_375.out _).trans (((cell_far (p := ⟨gb375, _, none⟩) NB317_375.out _).trans (hHeld.2.2.2.2.2.1)))))), ((cell_far (p := ⟨gb375, _, none⟩) NB317_375.out _).trans (((cell_far (p := ⟨gb375, _, none⟩) NB317_375.out _).trans (((cell_far (p := ⟨gb375, _, none⟩) NB317_375.out _).trans (hHeld.2.2.2.2.2.2.1)))))), ((cell_far (p := ⟨gb375, _, none⟩) NB317_375.out _).trans (((cell_far (p := ⟨gb375, _, none⟩) NB317_375.out _).trans (((cell_far (p := ⟨gb375, _, none⟩) NB317_375.out _).trans (hHeld.2.2.2.2.2.2.2.1)))))), ((cell_far (p := ⟨gb375, _, none⟩) NB317_375.out _).trans (((cell_far (p := ⟨gb375, _, none⟩) NB317_375.out _).trans (((cell_far (p := ⟨gb375, _, none⟩) NB317_375.out _).trans (hHeld.2.2.2.2.2.2.2.2.1)))))), ((cell_far (p := ⟨gb375, _, none⟩) NB317_375.out _).trans (((cell_far (p := ⟨gb375, _, none⟩) NB317_375.out _).trans (((cell_far (p := ⟨gb375, _, none⟩) NB317_375.out _).trans (hHeld.2.2.2.2.2.2.2.2.2))))))⟩ (fun hHeld => ?_)
        clear hK K
        refine pu 10 13 HT_ (h := ?_)
        refine done_ (done_of HT_.out (by kernel_rfl)) ?_
        go_upto_region 21 with (fail)
        go_cut [78] (fun v78 wc => ∃ (kq : Nat) (x78_83 : Bool), v78 = .bool x78_83 ∧ Aside0 (laws_FnExactHearsDown.j1 kq t357 t356 x78_83 = some r) ∧ Aside0 (kq ≤ kj24) ∧ Aside0 (Kd.R Kd.string 9 wc w.heap.size (fun _ => True) (.slice Ao85 t350.length co85) t357) ∧ Aside0 (wc.heap[gb316]? = some (.cells #[.int .i64 a0_0, .bool a0_1, .string a0_2] 23 (0, 0))) ∧ Aside0 (wc.heap[gb317]? = some (.cells #[.int .i64 a1_0, .int .i64 a1_1, .int .i64 a1_2, .int .i64 a1_3, .int .i64 a1_4, .string a1_5, .string a1_6] 25 (0, 0))) ∧ Aside0 (wc.heap[gb336]? = some (.cells #[.int .i64 t330, .bool t331, .string t332] 28 (0, 0))) ∧ Aside0 (wc.heap[gb353]? = some (.cells #[.int .i64 t347, .bool t348, .string t349] 28 (0, 0))) ∧ Aside0 (wc.heap[gb375]? = some (.cells #[.int .i64 t369, .bool t370, .string t371] 28 (0, 0))) ∧ Aside0 (Below w.heap.size w wc))
        case first =>
         have H := HC84.out
         clear HC84
         replace H := Option.bind_eq_some_iff.mp H
         obtain ⟨t376, A970, H⟩ := H
         replace H : (if t376 = true then ((laws_eqStringS.f kj24 t372 t333).bind fun t377 => (laws_FnExactHearsDown.j1 kj24 t357 t356 (!t377))) else (laws_FnExactHearsDown.j1 kj24 t357 t356 true)) = some r := H
         have A97 := Aside0.mk A970
         clear A970
         by_cases c98 : t376 = true
         ·subst c98
          have H1 : ((laws_eqStringS.f kj24 t372 t333).bind fun t377 => (laws_FnExactHearsDown.j1 kj24 t357 t356 (!t377))) = some r := by rw [if_pos rfl] at H; exact H
          clear H
          have H := H1
          clear H1
          replace H := Option.bind_eq_some_iff.mp H
          obtain ⟨t377, A990, H⟩ := H
          replace H : (laws_FnExactHearsDown.j1 kj24 t357 t356 (!t377)) = some r := H
          have A99 := Aside0.mk A990
          clear A990
          have H' := Aside0.mk H
          clear H
          have hnb100 := NB375_316.out
          have hnc100 := NB316_375.out
          have hnb101 := NB375_317.out
          have hnc101 := NB317_375.out
          have hnb102 := NB375_336.out
          have hnc102 := NB336_375.out
          have hnb103 := NB375_353.out
          have hnc103 := NB353_375.out
          have hcz104_0 : w93.cell? ⟨gb375, 0, none⟩ = some (.int .i64 0) := bc BK375 0
          have hcz104_1 : w93.cell? ⟨gb375, 1, none⟩ = some (.bool false) := bc BK375 1
          have hcz104_2 : w93.cell? ⟨gb375, 2, none⟩ = some (.string (⟨#[]⟩ : ByteArray)) := bc BK375 2
          have hfz104_0 := blk_frozen BK375.out 0
          have hfz104_1 := blk_frozen BK375.out 1
          have hfz104_2 := blk_frozen BK375.out 2
          have hnb105 := NB336_316.out
          have hnc105 := NB316_336.out
          have hnb106 := NB336_317.out
          have hnc106 := NB317_336.out
          have hnb107 := NB336_353.out
          have hnc107 := NB353_336.out
          have hcz108_0 : w93.cell? ⟨gb336, 0, none⟩ = some (.int .i64 t330) := bc BK336 0
          have hcz108_1 : w93.cell? ⟨gb336, 1, none⟩ = some (.bool t331) := bc BK336 1
          have hcz108_2 : w93.cell? ⟨gb336, 2, none⟩ = some (.string t332) := bc BK336 2
          have hfz108_0 := blk_frozen BK336.out 0
          have hfz108_1 := blk_frozen BK336.out 1
          have hfz108_2 := blk_frozen BK336.out 2
          go_wp2_with (first | ((with_reducible refine gate_callee (f := 10) rfl ?_); refine goesL_ (some 71) rfl rfl Tryd.func10 (by kernel_rfl) rfl #[.agg #[.int .i64 t369, .bool t370, .string t371], .agg #[.int .i64 t330, .bool t331, .string t332]] rfl gl_ ?_; (with_reducible refine (laws_eqHears.calls t369 t370 t371 t330 t331 t332 true _ A97.out).mono ?_); rintro e w109 ⟨rfl, hb⟩; refine ⟨_, rfl, ?_⟩; have n0_ := m_ (Kd.R_below (frN (Kd.R_types HO_7.out BK375.out (by decide))) hb); have n1_ := m_ (Kd.R_below (frN (Kd.R_types HO_9.out BK375.out (by decide))) hb); have n2_ := m_ (Kd.R_below (frN (Kd.R_types HO374.out BK375.out (by decide))) hb); have n3_ := m_ (blk_below (g := gb316) (o := .cells #[.int .i64 a0_0, .bool a0_1, .string a0_2] 23 (0, 0)) (kF BK316.out NB316_375.out) hb); have n4_ := m_ (blk_below (g := gb317) (o := .cells #[.int .i64 a1_0, .int .i64 a1_1, .int .i64 a1_2, .int .i64 a1_3, .int .i64 a1_4, .string a1_5, .string a1_6] 25 (0, 0)) (kF BK317.out NB317_375.out) hb); have n5_ := m_ (blk_below (g := gb336) (o := .cells #[.int .i64 t330, .bool t331, .string t332] 28 (0, 0)) (kF BK336.out NB336_375.out) hb); have n6_ := m_ (blk_below (g := gb353) (o := .cells #[.int .i64 t347, .bool t348, .string t349] 28 (0, 0)) (kF BK353.out NB353_375.out) hb); have n7_ := m_ (blk_below (g := gb375) (o := .cells #[.int .i64 t369, .bool t370, .string t371] 28 (0, 0)) (kP BK375.out) hb); have n8_ := m_ (below_step (bN HB.out) hb); clear HO_7; clear HO_9; clear HO374; clear BK316; clear BK317; clear BK336; clear BK353; clear BK375; clear HB; have HO_7 := n0_; have HO_9 := n1_; have HO374 := n2_; have BK316 := n3_; have BK317 := n4_; have BK336 := n5_; have BK353 := n6_; have BK375 := n7_; have HB := n8_; clear n0_ n1_ n2_ n3_ n4_ n5_ n6_ n7_ n8_; (try clear hb); (try clear hb2); (try clear hk); (try clear hi); obtain ⟨Ao110, co110, eo110⟩ := Kd.R_slice HO374.out; subst eo110; obtain ⟨Ao111, co111, eo111⟩ := Kd.R_slice HO_7.out; subst eo111) | (go_at_call 11; (with_reducible refine (laws_eqStringS.calls kj24 _ _ t372 _ _ t333 t377 _ ?side1 ?side2 ?side3 ?side4 A99.out).mono ?_); (case side1 => exact cN (Kd.R_reads' HO374.out).2.2); (case side2 => exact (Kd.R_reads' HO374.out).2.1); (case side3 => exact cN (Kd.R_reads' HO_7.out).2.2); (case side4 => exact (Kd.R_reads' HO_7.out).2.1); rintro e w' ⟨rfl, ⟨nd, rfl⟩⟩))
          go_meet
          case rel => exact ⟨_, (!t377), (by first | rfl | (simp; done) | (simp [*]; done)), H', ⟨by have := HJ24.out; first | omega | exact Nat.le_refl _⟩, ⟨by (with_reducible repeat (first | apply Kd.R_alloc | apply Kd.R_drewN | apply Kd.R_drew)); exact Kd.R_mono HO_9.out (fun _ hk => trivial)⟩, ⟨kN BK316.out⟩, ⟨kN BK317.out⟩, ⟨kN BK336.out⟩, ⟨kN BK353.out⟩, ⟨kN BK375.out⟩, ⟨by repeat (first | (with_reducible first | exact HB.out | apply below_alloc | apply pw_below_drewN | apply below_drew1 | refine below_set ?_ GE316.out | refine below_set ?_ GE317.out | refine below_set ?_ GE336.out | refine below_set ?_ GE353.out | refine below_set ?_ GE375.out) | exact HB.out)⟩⟩
         ·replace c98 := Bool.eq_false_iff.mpr c98
          subst c98
          have H1 : (laws_FnExactHearsDown.j1 kj24 t357 t356 true) = some r := by rw [if_neg (show ¬ (false = true) by decide)] at H; exact H
          clear H
          have H := H1
          clear H1
          have H' := Aside0.mk H
          clear H
          have hnb112 := NB375_316.out
          have hnc112 := NB316_375.out
          have hnb113 := NB375_317.out
          have hnc113 := NB317_375.out
          have hnb114 := NB375_336.out
          have hnc114 := NB336_375.out
          have hnb115 := NB375_353.out
          have hnc115 := NB353_375.out
          have hcz116_0 : w93.cell? ⟨gb375, 0, none⟩ = some (.int .i64 0) := bc BK375 0
          have hcz116_1 : w93.cell? ⟨gb375, 1, none⟩ = some (.bool false) := bc BK375 1
          have hcz116_2 : w93.cell? ⟨gb375, 2, none⟩ = some (.string (⟨#[]⟩ : ByteArray)) := bc BK375 2
          have hfz116_0 := blk_frozen BK375.out 0
          have hfz116_1 := blk_frozen BK375.out 1
          have hfz116_2 := blk_frozen BK375.out 2
          have hnb117 := NB336_316.out
          have hnc117 := NB316_336.out
          have hnb118 := NB336_317.out
          have hnc118 := NB317_336.out
          have hnb119 := NB336_353.out
          have hnc119 := NB353_336.out
          have hcz120_0 : w93.cell? ⟨gb336, 0, none⟩ = some (.int .i64 t330) := bc BK336 0
          have hcz120_1 : w93.cell? ⟨gb336, 1, none⟩ = some (.bool t331) := bc BK336 1
          have hcz120_2 : w93.cell? ⟨gb336, 2, none⟩ = some (.string t332) := bc BK336 2
          have hfz120_0 := blk_frozen BK336.out 0
          have hfz120_1 := blk_frozen BK336.out 1
          have hfz120_2 := blk_frozen BK336.out 2
          go_wp2_with (first | ((with_reducible refine gate_callee (f := 10) rfl ?_); refine goesL_ (some 71) rfl rfl Tryd.func10 (by kernel_rfl) rfl #[.agg #[.int .i64 t369, .bool t370, .string t371], .agg #[.int .i64 t330, .bool t331, .string t332]] rfl gl_ ?_; (with_reducible refine (laws_eqHears.calls t369 t370 t371 t330 t331 t332 false _ A97.out).mono ?_); rintro e w121 ⟨rfl, hb⟩; refine ⟨_, rfl, ?_⟩; have n0_ := m_ (Kd.R_below (frN (Kd.R_types HO_7.out BK375.out (by decide))) hb); have n1_ := m_ (Kd.R_below (frN (Kd.R_types HO_9.out BK375.out (by decide))) hb); have n2_ := m_ (Kd.R_below (frN (Kd.R_types HO374.out BK375.out (by decide))) hb); have n3_ := m_ (blk_below (g := gb316) (o := .cells #[.int .i64 a0_0, .bool a0_1, .string a0_2] 23 (0, 0)) (kF BK316.out NB316_375.out) hb); have n4_ := m_ (blk_below (g := gb317) (o := .cells #[.int .i64 a1_0, .int .i64 a1_1, .int .i64 a1_2, .int .i64 a1_3, .int .i64 a1_4, .string a1_5, .string a1_6] 25 (0, 0)) (kF BK317.out NB317_375.out) hb); have n5_ := m_ (blk_below (g := gb336) (o := .cells #[.int .i64 t330, .bool t331, .string t332] 28 (0, 0)) (kF BK336.out NB336_375.out) hb); have n6_ := m_ (blk_below (g := gb353) (o := .cells #[.int .i64 t347, .bool t348, .string t349] 28 (0, 0)) (kF BK353.out NB353_375.out) hb); have n7_ := m_ (blk_below (g := gb375) (o := .cells #[.int .i64 t369, .bool t370, .string t371] 28 (0, 0)) (kP BK375.out) hb); have n8_ := m_ (below_step (bN HB.out) hb); clear HO_7; clear HO_9; clear HO374; clear BK316; clear BK317; clear BK336; clear BK353; clear BK375; clear HB; have HO_7 := n0_; have HO_9 := n1_; have HO374 := n2_; have BK316 := n3_; have BK317 := n4_; have BK336 := n5_; have BK353 := n6_; have BK375 := n7_; have HB := n8_; clear n0_ n1_ n2_ n3_ n4_ n5_ n6_ n7_ n8_; (try clear hb); (try clear hb2); (try clear hk); (try clear hi)))
          go_meet
          case rel => exact ⟨_, (true), (by first | rfl | (simp; done) | (simp [*]; done)), H', ⟨by have := HJ24.out; first | omega | exact Nat.le_refl _⟩, ⟨by (with_reducible repeat (first | apply Kd.R_alloc | apply Kd.R_drewN | apply Kd.R_drew)); exact Kd.R_mono HO_9.out (fun _ hk => trivial)⟩, ⟨kN BK316.out⟩, ⟨kN BK317.out⟩, ⟨kN BK336.out⟩, ⟨kN BK353.out⟩, ⟨kN BK375.out⟩, ⟨by repeat (first | (with_reducible first | exact HB.out | apply below_alloc | apply pw_below_drewN | apply below_drew1 | refine below_set ?_ GE316.out | refine below_set ?_ GE317.out | refine below_set ?_ GE336.out | refine below_set ?_ GE353.out | refine below_set ?_ GE375.out) | exact HB.out)⟩⟩
        case rest =>
         clear HC84
         try clear c1
         try clear p2
         try clear c7
         try clear c8
         try clear c9
         try clear c10
         try clear c11
         try clear c98
         try clear c100
         try clear c101
         try clear c102
         try clear c103
         try clear c105
         try clear c106
         try clear c107
         try clear c112
         try clear c113
         try clear c114
         try clear c115
         try clear c117
         try clear c118
         try clear c119
         try clear hcz104_0
         try clear hcz104_1
         try clear hcz104_2
         try clear hcz108_0
         try clear hcz108_1
         try clear hcz108_2
         try clear hcz116_0
         try clear hcz116_1
         try clear hcz116_2
         try clear hcz120_0
         try clear hcz120_1
         try clear hcz120_2
         try clear hfz104_0
         try clear hfz104_1
         try clear hfz104_2
         try clear hfz108_0
         try clear hfz108_1
         try clear hfz108_2
         try clear hfz116_0
         try clear hfz116_1
         try clear hfz116_2
         try clear hfz120_0
         try clear hfz120_1
         try clear hfz120_2
         obtain ⟨kq, x78_83, rfl, HA, HJ83, HO_9, BK316, BK317, BK336, BK353, BK375, HB⟩ := hcut
         have hl9_83 := (Kd.R_reads' HO_9.out).1
         rw [hl9_83] at HO_9
         (try simp only [hl9_83])
         (try simp only [hl9_83] at BK316)
         (try simp only [hl9_83] at BK317)
         (try simp only [hl9_83] at BK336)
         (try simp only [hl9_83] at BK353)
         (try simp only [hl9_83] at BK375)
         cases kq with
         | zero => exact absurd HA.out (by simp [laws_FnExactHearsDown.j1])
         | succ kj83 =>
          have H := HA.out
          clear HA
          simp only [laws_FnExactHearsDown.j1] at H
          by_cases c122 : x78_83 = true
          ·subst c122
           have H1 : (some false) = some r := by rw [if_pos rfl] at H; exact H
           clear H
           have H := H1
           clear H1
           obtain rfl := Option.some.inj H
           go_wp2
           go_ret
           exact ⟨by first | rfl | (simp [errW_none, errW_some] <;> rfl) | (simp [*, errW_none, errW_some] <;> rfl), by repeat (first | (with_reducible first | exact HB.out | apply below_alloc | apply pw_below_drewN | apply below_drew1 | refine below_set ?_ GE316.out | refine below_set ?_ GE317.out | refine below_set ?_ GE336.out | refine below_set ?_ GE353.out | refine below_set ?_ GE375.out) | exact HB.out)⟩
          ·replace c122 := Bool.eq_false_iff.mpr c122
           subst c122
           have H1 : ((laws_heldStringS.f kj83 t357 1).bind fun t378 => (if t378 < 0 then (some false) else (if t378 = t356 then (some true) else (some false)))) = some r := by rw [if_neg (show ¬ (false = true) by decide)] at H; exact H
           clear H
           have H := H1
           clear H1
           replace H := Option.bind_eq_some_iff.mp H
           obtain ⟨t378, A1230, H⟩ := H
           replace H : (if t378 < 0 then (some false) else (if t378 = t356 then (some true) else (some false))) = some r := H
           have A123 := Aside0.mk A1230
           clear A1230
           by_cases c124 : t378 < 0
           ·rw [if_pos c124] at H
            have c124b0 : decide (t378 < 0) = true := decide_eq_true c124
            clear c124
            obtain rfl := Option.some.inj H
            go_wp2_with (first | ((with_reducible refine gate_callee (f := 13) rfl ?_); refine goesL_ (some 81) rfl rfl Tryd.func13 (by kernel_rfl) rfl #[.slice Ao85 t357.length co85, .int .i64 1] rfl gl_ ?_; (with_reducible refine (laws_heldStringS.calls kj83 _ _ t357 1 t378 _ ?side1 ?side2 A123.out).mono ?_); (case side1 => exact cN (Kd.R_reads' HO_9.out).2.2); (case side2 => exact (Kd.R_reads' HO_9.out).2.1); rintro e w125 ⟨rfl, hb⟩; refine ⟨_, rfl, ?_⟩; have n0_ := m_ (Kd.R_below (rN HO_9.out) hb); have n1_ := m_ (blk_below (kN BK316.out) hb); have n2_ := m_ (blk_below (kN BK317.out) hb); have n3_ := m_ (blk_below (kN BK336.out) hb); have n4_ := m_ (blk_below (kN BK353.out) hb); have n5_ := m_ (blk_below (kN BK375.out) hb); have n6_ := m_ (below_step (bN HB.out) hb); clear HO_9; clear BK316; clear BK317; clear BK336; clear BK353; clear BK375; clear HB; have HO_9 := n0_; have BK316 := n1_; have BK317 := n2_; have BK336 := n3_; have BK353 := n4_; have BK375 := n5_; have HB := n6_; clear n0_ n1_ n2_ n3_ n4_ n5_ n6_; (try clear hb); (try clear hb2); (try clear hk); (try clear hi)))
            go_ret
            exact ⟨by first | rfl | (simp [errW_none, errW_some] <;> rfl) | (simp [*, errW_none, errW_some] <;> rfl), by repeat (first | (with_reducible first | exact HB.out | apply below_alloc | apply pw_below_drewN | apply below_drew1 | refine below_set ?_ GE316.out | refine below_set ?_ GE317.out | refine below_set ?_ GE336.out | refine below_set ?_ GE353.out | refine below_set ?_ GE375.out) | exact HB.out)⟩
           ·rw [if_neg c124] at H
            have c124b0 : decide (t378 < 0) = false := decide_eq_false c124
            clear c124
            by_cases c126 : t378 = t356
            ·rw [if_pos c126] at H
             have c126b0 : (t378 == t356) = true := beq_iff_eq.mpr c126
             have c126b1 : (t378 != t356) = false := bne_eq_false_iff_eq.mpr c126
             clear c126
             obtain rfl := Option.some.inj H
             go_wp2_with (first | ((with_reducible refine gate_callee (f := 13) rfl ?_); refine goesL_ (some 81) rfl rfl Tryd.func13 (by kernel_rfl) rfl #[.slice Ao85 t357.length co85, .int .i64 1] rfl gl_ ?_; (with_reducible refine (laws_heldStringS.calls kj83 _ _ t357 1 t378 _ ?side1 ?side2 A123.out).mono ?_); (case side1 => exact cN (Kd.R_reads' HO_9.out).2.2); (case side2 => exact (Kd.R_reads' HO_9.out).2.1); rintro e w127 ⟨rfl, hb⟩; refine ⟨_, rfl, ?_⟩; have n0_ := m_ (Kd.R_below (rN HO_9.out) hb); have n1_ := m_ (blk_below (kN BK316.out) hb); have n2_ := m_ (blk_below (kN BK317.out) hb); have n3_ := m_ (blk_below (kN BK336.out) hb); have n4_ := m_ (blk_below (kN BK353.out) hb); have n5_ := m_ (blk_below (kN BK375.out) hb); have n6_ := m_ (below_step (bN HB.out) hb); clear HO_9; clear BK316; clear BK317; clear BK336; clear BK353; clear BK375; clear HB; have HO_9 := n0_; have BK316 := n1_; have BK317 := n2_; have BK336 := n3_; have BK353 := n4_; have BK375 := n5_; have HB := n6_; clear n0_ n1_ n2_ n3_ n4_ n5_ n6_; (try clear hb); (try clear hb2); (try clear hk); (try clear hi)))
             go_ret
             exact ⟨by first | rfl | (simp [errW_none, errW_some] <;> rfl) | (simp [*, errW_none, errW_some] <;> rfl), by repeat (first | (with_reducible first | exact HB.out | apply below_alloc | apply pw_below_drewN | apply below_drew1 | refine below_set ?_ GE316.out | refine below_set ?_ GE317.out | refine below_set ?_ GE336.out | refine below_set ?_ GE353.out | refine below_set ?_ GE375.out) | exact HB.out)⟩
            ·rw [if_neg c126] at H
             have c126b0 : (t378 == t356) = false := beq_eq_false_iff_ne.mpr c126
             have c126b1 : (t378 != t356) = true := bne_iff_ne.mpr c126
             obtain rfl := Option.some.inj H
             go_wp2_with (first | ((with_reducible refine gate_callee (f := 13) rfl ?_); refine goesL_ (some 81) rfl rfl Tryd.func13 (by kernel_rfl) rfl #[.slice Ao85 t357.length co85, .int .i64 1] rfl gl_ ?_; (with_reducible refine (laws_heldStringS.calls kj83 _ _ t357 1 t378 _ ?side1 ?side2 A123.out).mono ?_); (case side1 => exact cN (Kd.R_reads' HO_9.out).2.2); (case side2 => exact (Kd.R_reads' HO_9.out).2.1); rintro e w128 ⟨rfl, hb⟩; refine ⟨_, rfl, ?_⟩; have n0_ := m_ (Kd.R_below (rN HO_9.out) hb); have n1_ := m_ (blk_below (kN BK316.out) hb); have n2_ := m_ (blk_below (kN BK317.out) hb); have n3_ := m_ (blk_below (kN BK336.out) hb); have n4_ := m_ (blk_below (kN BK353.out) hb); have n5_ := m_ (blk_below (kN BK375.out) hb); have n6_ := m_ (below_step (bN HB.out) hb); clear HO_9; clear BK316; clear BK317; clear BK336; clear BK353; clear BK375; clear HB; have HO_9 := n0_; have BK316 := n1_; have BK317 := n2_; have BK336 := n3_; have BK353 := n4_; have BK375 := n5_; have HB := n6_; clear n0_ n1_ n2_ n3_ n4_ n5_ n6_; (try clear hb); (try clear hb2); (try clear hk); (try clear hi)))
             go_ret
             exact ⟨by first | rfl | (simp [errW_none, errW_some] <;> rfl) | (simp [*, errW_none, errW_some] <;> rfl), by repeat (first | (with_reducible first | exact HB.out | apply below_alloc | apply pw_below_drewN | apply below_drew1 | refine below_set ?_ GE316.out | refine below_set ?_ GE317.out | refine below_set ?_ GE336.out | refine below_set ?_ GE353.out | refine below_set ?_ GE375.out) | exact HB.out)⟩
       ·rw [if_neg c80] at H
        have c80b0 : (t358 == t356) = false := beq_eq_false_iff_ne.mpr c80
        have c80b1 : (t358 != t356) = true := bne_iff_ne.mpr c80
        obtain rfl := Option.some.inj H
        obtain ⟨Ao129, co129, eo129⟩ := Kd.R_slice HO_9.out
        subst eo129
        go_wp2_with (first | ((with_reducible refine gate_callee (f := 12) rfl ?_); refine goesL_ (some 52) rfl rfl Tryd.func12 (by kernel_rfl) rfl #[.slice Ao129 t350.length co129, .int .i64 1] rfl gl_ ?_; (with_reducible refine (laws_markStringS.calls kj24 (fun k_ => some k_ = (.slice Ao129 t350.length co129 : Value).ownBlock) (.slice Ao129 t350.length co129) t350 1 t356 t357 w _ ?side1 ?side2 A74.out).mono ?_); (case side1 => repeat (first | (with_reducible first | exact HB.out | apply below_alloc | apply pw_below_drewN | apply below_drew1 | refine below_set ?_ GE316.out | refine below_set ?_ GE317.out | refine below_set ?_ GE336.out | refine below_set ?_ GE353.out) | exact HB.out)); (case side2 => exact Kd.R_tight rfl HO_9.out); rintro e w130 ⟨rfl, hy0, hb, hkp⟩; refine ⟨_, rfl, ?_⟩; have n0_ := m_ (Kd.R_mono (ok' := fun k_ => nb Ao129 t350.length co129 k_) (Kd.R_keptB (HO_7.out) hkp (fun k_ hk_ hs_ => (hk_) hs_)) (fun k_ hk_ => hk_.1)); have n1_ := m_ (Kd.R_reok rfl hy0 (fun k_ e_ => HO_9.out.1 k_ e_)); have n2_ := m_ (blk_kept (kN BK316.out) hkp (fun hs_ => (fun e_ => (Kd.R_ne HO_9.out BK316.out (by decide)) e_) hs_)); have n3_ := m_ (blk_kept (kN BK317.out) hkp (fun hs_ => (fun e_ => (Kd.R_ne HO_9.out BK317.out (by decide)) e_) hs_)); have n4_ := m_ (blk_kept (kN BK336.out) hkp (fun hs_ => (fun e_ => (Kd.R_ne HO_9.out BK336.out (by decide)) e_) hs_)); have n5_ := m_ (blk_kept (kN BK353.out) hkp (fun hs_ => (fun e_ => (Kd.R_ne HO_9.out BK353.out (by decide)) e_) hs_)); have n6_ := m_ (hb); clear HO_7; clear HO_9; clear BK316; clear BK317; clear BK336; clear BK353; clear HB; have HO_7 := n0_; have HO_9 := n1_; have BK316 := n2_; have BK317 := n3_; have BK336 := n4_; have BK353 := n5_; have HB := n6_; clear n0_ n1_ n2_ n3_ n4_ n5_ n6_; (try clear hb); (try clear hkp); (try clear hy0)) | ((with_reducible refine gate_callee (f := 13) rfl ?_); refine goesL_ (some 55) rfl rfl Tryd.func13 (by kernel_rfl) rfl #[.slice Ao129 t357.length co129, .int .i64 1] rfl (by (try simp only [List.map_toArray, List.map_cons, List.map_nil]); first | done | (rw [show t357.length = t350.length from (Kd.R_reads' HO_9.out).1.symm] <;> rfl) | rfl | (simp only [List.length_drop, List.length_take]; rfl)) ?_; (with_reducible refine (laws_heldStringS.calls kj24 _ _ t357 1 t358 _ ?side1 ?side2 A75.out).mono ?_); (case side1 => exact cN (Kd.R_reads' HO_9.out).2.2); (case side2 => rw [show t357.length = t350.length from (Kd.R_reads' HO_9.out).1.symm]; exact (Kd.R_reads' HO_9.out).2.1); rintro e w131 ⟨rfl, hb⟩; refine ⟨_, rfl, ?_⟩; have n0_ := m_ (Kd.R_below (rN HO_7.out) hb); have n1_ := m_ (Kd.R_below (rN HO_9.out) hb); have n2_ := m_ (blk_below (kN BK316.out) hb); have n3_ := m_ (blk_below (kN BK317.out) hb); have n4_ := m_ (blk_below (kN BK336.out) hb); have n5_ := m_ (blk_below (kN BK353.out) hb); have n6_ := m_ (below_step (bN HB.out) hb); clear HO_7; clear HO_9; clear BK316; clear BK317; clear BK336; clear BK353; clear HB; have HO_7 := n0_; have HO_9 := n1_; have BK316 := n2_; have BK317 := n3_; have BK336 := n4_; have BK353 := n5_; have HB := n6_; clear n0_ n1_ n2_ n3_ n4_ n5_ n6_; (try clear hb); (try clear hb2); (try clear hk); (try clear hi)))
        go_ret
        exact ⟨by first | rfl | (simp [errW_none, errW_some] <;> rfl) | (simp [*, errW_none, errW_some] <;> rfl), by repeat (first | (with_reducible first | exact HB.out | apply below_alloc | apply pw_below_drewN | apply below_drew1 | refine below_set ?_ GE316.out | refine below_set ?_ GE317.out | refine below_set ?_ GE336.out | refine below_set ?_ GE353.out) | exact HB.out)⟩

end Go.Proofs.YtbldbjfmibhffaaDoor.P
