/- The machine side of these statements, function by function: what each Go function answers (as a Lean function), and that it does. Written by a program (mp.py) for this claim. -/
import Derived.Test.YtbldbjfmibhffaaDoorPx0
import Derived.Test.YtbldbjfmibhffaaDoorPx5
import Derived.Test.YtbldbjfmibhffaaDoorPx7
import Derived.Test.YtbldbjfmibhffaaDoorPx9
namespace Go.Proofs.YtbldbjfmibhffaaDoor.P
open Go.RowKit Go.Proofs.YtbldbjfmibhffaaDoorW.PrintWords Go.Proofs.YtbldbjfmibhffaaDoorW.PrintLast Go.Proofs.YtbldbjfmibhffaaDoorW.PrintMore
attribute [local go_sem] max2_int min2_int max_two min_two max_three min_three max_four min_four   -- for this text's walks alone
set_option linter.unusedVariables false
set_option linter.unusedSimpArgs false

/-! ### impl_HearsDown: function 9 -/
def impl_HearsDown.j0 : Nat → Bool → Int → Bool → ByteArray → Int → Int → Int → Int → Int → ByteArray → ByteArray → Int → Bool → ByteArray → Option (Int × Bool × ByteArray × List ByteArray)
 | 0, _, _, _, _, _, _, _, _, _, _, _, _, _, _ => none
 | k + 1, x34, x290000, x290001, x290002, x291000, x291001, x291002, x291003, x291004, x291005, x291006, x295000, x295001, x295002 => if x34 = true then (if x290002.size + x291005.size ≤ 9223372036854775807 then ((impl_packsOf.f k (x290002 ++ x291005)).bind fun bt295 => (some (x295000, bt295.2.2, bt295.2.1, bt295.1))) else (none)) else (if x291004 = 2047 then (some (x295000, x295001, x295002, ([] : List ByteArray))) else (if 0 ≤ x291004 then (if x291004 ≤ (x291005.size : Int) then ((impl_packsOf.f k (x291005.extract (x291004 : Int).toNat x291005.size)).bind fun bt300 => (some (x295000, bt300.2.2, bt300.2.1, bt300.1))) else (none)) else (none)))
def impl_HearsDown.f (k : Nat) (a0_0 : Int) (a0_1 : Bool) (a0_2 : ByteArray) (a1_0 : Int) (a1_1 : Int) (a1_2 : Int) (a1_3 : Int) (a1_4 : Int) (a1_5 : ByteArray) (a1_6 : ByteArray) : Option (Int × Bool × ByteArray × List ByteArray) := (impl_hearsOk.f a0_0 a0_1 a0_2).bind fun t292 => (if t292 = true then ((impl_downOk.f k a1_0 a1_1 a1_2 a1_3 a1_4 a1_5 a1_6).bind fun t293 => (if t293 = true then (if a1_4 = 2046 then (some (Int.tmod (wrap64 (a1_3 + 1)) 256, false, (⟨#[]⟩ : ByteArray), ([] : List ByteArray))) else (if a0_1 = true then (impl_HearsDown.j0 k (a1_3 == a0_0) a0_0 a0_1 a0_2 a1_0 a1_1 a1_2 a1_3 a1_4 a1_5 a1_6 (Int.tmod (wrap64 (a1_3 + 1)) 256) false (⟨#[]⟩ : ByteArray)) else (impl_HearsDown.j0 k false a0_0 a0_1 a0_2 a1_0 a1_1 a1_2 a1_3 a1_4 a1_5 a1_6 (Int.tmod (wrap64 (a1_3 + 1)) 256) false (⟨#[]⟩ : ByteArray)))) else (some (a0_0, a0_1, a0_2, ([] : List ByteArray))))) else (some (0, false, (⟨#[]⟩ : ByteArray), ([] : List ByteArray))))
theorem impl_HearsDown.mono_l : ∀ k, (∀ y0 y1 y2 y3 y4 y5 y6 y7 y8 y9 y10 y11 y12 y13, LeO (impl_HearsDown.j0 k y0 y1 y2 y3 y4 y5 y6 y7 y8 y9 y10 y11 y12 y13) (impl_HearsDown.j0 (k + 1) y0 y1 y2 y3 y4 y5 y6 y7 y8 y9 y10 y11 y12 y13))
 | 0 => fun _ _ _ _ _ _ _ _ _ _ _ _ _ _ r h => by simp [impl_HearsDown.j0] at h
 | k + 1 => by
  have ih0 := impl_HearsDown.mono_l k
  ·intro y0 y1 y2 y3 y4 y5 y6 y7 y8 y9 y10 y11 y12 y13
   unfold impl_HearsDown.j0
   repeat' first
   | (with_reducible exact ih0 _ _ _ _ _ _ _ _ _ _ _ _ _ _)
   | (with_reducible exact impl_downOk.mono _ _ _ _ _ _ _ _)
   | (with_reducible exact impl_packsOf.mono _ _)
   | (with_reducible exact LeO.refl _)
   | (with_reducible exact LeO.none _)
   | (with_reducible refine LeO.ite ?_ ?_)
   | (with_reducible refine LeO.bind ?_ (fun _ => ?_))
   | exact ih0 _ _ _ _ _ _ _ _ _ _ _ _ _ _
   | exact impl_downOk.mono _ _ _ _ _ _ _ _
   | exact impl_packsOf.mono _ _
   | exact LeO.none _
   | refine LeO.ite ?_ ?_
   | refine LeO.bind ?_ (fun _ => ?_)
theorem impl_HearsDown.mono : ∀ a0 a1 a2 a3 a4 a5 a6 a7 a8 a9 k, LeO (impl_HearsDown.f k a0 a1 a2 a3 a4 a5 a6 a7 a8 a9) (impl_HearsDown.f (k + 1) a0 a1 a2 a3 a4 a5 a6 a7 a8 a9) := by
 intro a0 a1 a2 a3 a4 a5 a6 a7 a8 a9 k
 have ih0 := impl_HearsDown.mono_l k
 unfold impl_HearsDown.f
 repeat' first
   | (with_reducible exact ih0 _ _ _ _ _ _ _ _ _ _ _ _ _ _)
   | (with_reducible exact impl_downOk.mono _ _ _ _ _ _ _ _)
   | (with_reducible exact impl_packsOf.mono _ _)
   | (with_reducible exact LeO.refl _)
   | (with_reducible exact LeO.none _)
   | (with_reducible refine LeO.ite ?_ ?_)
   | (with_reducible refine LeO.bind ?_ (fun _ => ?_))
   | exact ih0 _ _ _ _ _ _ _ _ _ _ _ _ _ _
   | exact impl_downOk.mono _ _ _ _ _ _ _ _
   | exact impl_packsOf.mono _ _
   | exact LeO.none _
   | refine LeO.ite ?_ ?_
   | refine LeO.bind ?_ (fun _ => ?_)
set_option maxHeartbeats 8000000 in
set_option maxRecDepth 100000 in
theorem impl_HearsDown.calls (k : Nat) (a0_0 : Int) (a0_1 : Bool) (a0_2 : ByteArray) (a1_0 : Int) (a1_1 : Int) (a1_2 : Int) (a1_3 : Int) (a1_4 : Int) (a1_5 : ByteArray) (a1_6 : ByteArray) (r1 : Int) (r2 : Bool) (r3 : ByteArray) (r4 : List ByteArray) (w : World) (h : impl_HearsDown.f k a0_0 a0_1 a0_2 a1_0 a1_1 a1_2 a1_3 a1_4 a1_5 a1_6 = some (r1, r2, r3, r4)) :
  Calls Tryd.prog 9 #[.agg #[.int .i64 a0_0, .bool a0_1, .string a0_2], .agg #[.int .i64 a1_0, .int .i64 a1_1, .int .i64 a1_2, .int .i64 a1_3, .int .i64 a1_4, .string a1_5, .string a1_6]] w fun e w' => ∃ v3_ : Value, e = .returned (.tuple #[.agg #[.int .i64 r1, .bool r2, .string r3], v3_]) ∧ Kd.R Kd.string 9 w' w.heap.size (fun _ => True) v3_ r4 ∧ Below w.heap.size w w' := by
 have hu28 := Tryd.underlying28
 have hu33 := Tryd.underlying33
 have HB := m_ (Below.refl w.heap.size w)
 have H : ((impl_hearsOk.f a0_0 a0_1 a0_2).bind fun t292 => (if t292 = true then ((impl_downOk.f k a1_0 a1_1 a1_2 a1_3 a1_4 a1_5 a1_6).bind fun t293 => (if t293 = true then (if a1_4 = 2046 then (some (Int.tmod (wrap64 (a1_3 + 1)) 256, false, (⟨#[]⟩ : ByteArray), ([] : List ByteArray))) else (if a0_1 = true then (impl_HearsDown.j0 k (a1_3 == a0_0) a0_0 a0_1 a0_2 a1_0 a1_1 a1_2 a1_3 a1_4 a1_5 a1_6 (Int.tmod (wrap64 (a1_3 + 1)) 256) false (⟨#[]⟩ : ByteArray)) else (impl_HearsDown.j0 k false a0_0 a0_1 a0_2 a1_0 a1_1 a1_2 a1_3 a1_4 a1_5 a1_6 (Int.tmod (wrap64 (a1_3 + 1)) 256) false (⟨#[]⟩ : ByteArray)))) else (some (a0_0, a0_1, a0_2, ([] : List ByteArray))))) else (some (0, false, (⟨#[]⟩ : ByteArray), ([] : List ByteArray))))) = some (r1, r2, r3, r4) := h
 clear h
 replace H := Option.bind_eq_some_iff.mp H
 obtain ⟨t292, A30, H⟩ := H
 replace H : (if t292 = true then ((impl_downOk.f k a1_0 a1_1 a1_2 a1_3 a1_4 a1_5 a1_6).bind fun t293 => (if t293 = true then (if a1_4 = 2046 then (some (Int.tmod (wrap64 (a1_3 + 1)) 256, false, (⟨#[]⟩ : ByteArray), ([] : List ByteArray))) else (if a0_1 = true then (impl_HearsDown.j0 k (a1_3 == a0_0) a0_0 a0_1 a0_2 a1_0 a1_1 a1_2 a1_3 a1_4 a1_5 a1_6 (Int.tmod (wrap64 (a1_3 + 1)) 256) false (⟨#[]⟩ : ByteArray)) else (impl_HearsDown.j0 k false a0_0 a0_1 a0_2 a1_0 a1_1 a1_2 a1_3 a1_4 a1_5 a1_6 (Int.tmod (wrap64 (a1_3 + 1)) 256) false (⟨#[]⟩ : ByteArray)))) else (some (a0_0, a0_1, a0_2, ([] : List ByteArray))))) else (some (0, false, (⟨#[]⟩ : ByteArray), ([] : List ByteArray)))) = some (r1, r2, r3, r4) := H
 have A3 := Aside0.mk A30
 clear A30
 by_cases c4 : t292 = true
 ·subst c4
  have H1 : ((impl_downOk.f k a1_0 a1_1 a1_2 a1_3 a1_4 a1_5 a1_6).bind fun t293 => (if t293 = true then (if a1_4 = 2046 then (some (Int.tmod (wrap64 (a1_3 + 1)) 256, false, (⟨#[]⟩ : ByteArray), ([] : List ByteArray))) else (if a0_1 = true then (impl_HearsDown.j0 k (a1_3 == a0_0) a0_0 a0_1 a0_2 a1_0 a1_1 a1_2 a1_3 a1_4 a1_5 a1_6 (Int.tmod (wrap64 (a1_3 + 1)) 256) false (⟨#[]⟩ : ByteArray)) else (impl_HearsDown.j0 k false a0_0 a0_1 a0_2 a1_0 a1_1 a1_2 a1_3 a1_4 a1_5 a1_6 (Int.tmod (wrap64 (a1_3 + 1)) 256) false (⟨#[]⟩ : ByteArray)))) else (some (a0_0, a0_1, a0_2, ([] : List ByteArray))))) = some (r1, r2, r3, r4) := by rw [if_pos rfl] at H; exact H
  clear H
  have H := H1
  clear H1
  replace H := Option.bind_eq_some_iff.mp H
  obtain ⟨t293, A50, H⟩ := H
  replace H : (if t293 = true then (if a1_4 = 2046 then (some (Int.tmod (wrap64 (a1_3 + 1)) 256, false, (⟨#[]⟩ : ByteArray), ([] : List ByteArray))) else (if a0_1 = true then (impl_HearsDown.j0 k (a1_3 == a0_0) a0_0 a0_1 a0_2 a1_0 a1_1 a1_2 a1_3 a1_4 a1_5 a1_6 (Int.tmod (wrap64 (a1_3 + 1)) 256) false (⟨#[]⟩ : ByteArray)) else (impl_HearsDown.j0 k false a0_0 a0_1 a0_2 a1_0 a1_1 a1_2 a1_3 a1_4 a1_5 a1_6 (Int.tmod (wrap64 (a1_3 + 1)) 256) false (⟨#[]⟩ : ByteArray)))) else (some (a0_0, a0_1, a0_2, ([] : List ByteArray)))) = some (r1, r2, r3, r4) := H
  have A5 := Aside0.mk A50
  clear A50
  by_cases c6 : t293 = true
  ·subst c6
   have H1 : (if a1_4 = 2046 then (some (Int.tmod (wrap64 (a1_3 + 1)) 256, false, (⟨#[]⟩ : ByteArray), ([] : List ByteArray))) else (if a0_1 = true then (impl_HearsDown.j0 k (a1_3 == a0_0) a0_0 a0_1 a0_2 a1_0 a1_1 a1_2 a1_3 a1_4 a1_5 a1_6 (Int.tmod (wrap64 (a1_3 + 1)) 256) false (⟨#[]⟩ : ByteArray)) else (impl_HearsDown.j0 k false a0_0 a0_1 a0_2 a1_0 a1_1 a1_2 a1_3 a1_4 a1_5 a1_6 (Int.tmod (wrap64 (a1_3 + 1)) 256) false (⟨#[]⟩ : ByteArray)))) = some (r1, r2, r3, r4) := by rw [if_pos rfl] at H; exact H
   clear H
   have H := H1
   clear H1
   by_cases c7 : a1_4 = 2046
   ·rw [if_pos c7] at H
    have c7b0 : (a1_4 == 2046) = true := beq_iff_eq.mpr c7
    have c7b1 : (a1_4 != 2046) = false := bne_eq_false_iff_eq.mpr c7
    clear c7
    simp only [Option.some.injEq, Prod.mk.injEq] at H
    obtain ⟨rfl, rfl, rfl, rfl⟩ := H
    go_enter Tryd.func9, Tryd.ntmps9
    go_wp2_with (first | ((with_reducible refine gate_dst (N := 2) rfl ?_); refine box_event ?hg (N := 2) ?hd (cs := #[.int .i64 a0_0, .bool a0_1, .string a0_2]) (t := 28) ?hr ?_; (case hd => rfl); (case hg => rfl); (case hr => first | (go_simp; done) | (go_simp; rfl)); intro gb289 hg w8 hbox hb; have n0_ := m_ (below_step (bN HB.out) hb); have n1_ := m_ (hbox); have n2_ := m_ ((by rw [hg]; exact (below_size (bN HB.out)) : w.heap.size ≤ gb289)); have n3_ := m_ ((by rw [hg]; exact (below_size (bN HB.out)) : w.heap.size ≤ gb289)); clear HB; have HB := n0_; have BK289 := n1_; have GW289 := n2_; have GE289 := n3_; clear n0_ n1_ n2_ n3_; clear hb hbox hg) | ((with_reducible refine gate_dst (N := 3) rfl ?_); refine box_event ?hg (N := 3) ?hd (cs := #[.int .i64 a1_0, .int .i64 a1_1, .int .i64 a1_2, .int .i64 a1_3, .int .i64 a1_4, .string a1_5, .string a1_6]) (t := 33) ?hr ?_; (case hd => rfl); (case hg => rfl); (case hr => first | (go_simp; done) | (go_simp; rfl)); intro gb290 hg w9 hbox hb; have n0_ := m_ (blk_below (kN BK289.out) hb); have n1_ := m_ (below_step (bN HB.out) hb); have n2_ := m_ (hbox); have n3_ := m_ ((by rw [hg]; exact (below_size (bN HB.out)) : w.heap.size ≤ gb290)); have n4_ := m_ ((by rw [hg]; exact (below_size (bN HB.out)) : w.heap.size ≤ gb290)); have n5_ := m_ (nL hg BK289.out); have n6_ := m_ (nG hg BK289.out); clear BK289; clear HB; have BK289 := n0_; have HB := n1_; have BK290 := n2_; have GW290 := n3_; have GE290 := n4_; have NB289_290 := n5_; have NB290_289 := n6_; clear n0_ n1_ n2_ n3_ n4_ n5_ n6_; clear hb hbox hg) | ((with_reducible refine gate_dst (N := 4) rfl ?_); refine box_event ?hg (N := 4) ?hd (cs := #[.int .i64 0, .bool false, .string (⟨#[]⟩ : ByteArray)]) (t := 28) ?hr ?_; (case hd => rfl); (case hg => rfl); (case hr => first | (go_simp; done) | (go_simp; rfl)); intro gb291 hg w10 hbox hb; have n0_ := m_ (blk_below (kN BK289.out) hb); have n1_ := m_ (blk_below (kN BK290.out) hb); have n2_ := m_ (below_step (bN HB.out) hb); have n3_ := m_ (hbox); have n4_ := m_ ((by rw [hg]; exact (below_size (bN HB.out)) : w.heap.size ≤ gb291)); have n5_ := m_ ((by rw [hg]; exact (below_size (bN HB.out)) : w.heap.size ≤ gb291)); have n6_ := m_ (nL hg BK289.out); have n7_ := m_ (nG hg BK289.out); have n8_ := m_ (nL hg BK290.out); have n9_ := m_ (nG hg BK290.out); clear BK289; clear BK290; clear HB; have BK289 := n0_; have BK290 := n1_; have HB := n2_; have BK291 := n3_; have GW291 := n4_; have GE291 := n5_; have NB289_291 := n6_; have NB291_289 := n7_; have NB290_291 := n8_; have NB291_290 := n9_; clear n0_ n1_ n2_ n3_ n4_ n5_ n6_ n7_ n8_ n9_; clear hb hbox hg; have hnb11 := NB289_290.out; have hnc11 := NB290_289.out; have hnb12 := NB289_291.out; have hnc12 := NB291_289.out; have hcz13_0 : w10.cell? ⟨gb289, 0, none⟩ = some (.int .i64 a0_0) := bc BK289 0; have hcz13_1 : w10.cell? ⟨gb289, 1, none⟩ = some (.bool a0_1) := bc BK289 1; have hcz13_2 : w10.cell? ⟨gb289, 2, none⟩ = some (.string a0_2) := bc BK289 2; have hfz13_0 := blk_frozen BK289.out 0; have hfz13_1 := blk_frozen BK289.out 1; have hfz13_2 := blk_frozen BK289.out 2) | ((with_reducible refine gate_callee (f := 17) rfl ?_); refine goesL_ (some 12) rfl rfl Tryd.func17 (by kernel_rfl) rfl #[.agg #[.int .i64 a0_0, .bool a0_1, .string a0_2]] rfl gl_ ?_; (with_reducible refine (impl_hearsOk.calls a0_0 a0_1 a0_2 true _ A3.out).mono ?_); rintro e w14 ⟨rfl, hb⟩; refine ⟨_, rfl, ?_⟩; have n0_ := m_ (blk_below (kN BK289.out) hb); have n1_ := m_ (blk_below (kN BK290.out) hb); have n2_ := m_ (blk_below (g := gb291) (o := .cells #[.int .i64 0, .bool false, .string (⟨#[]⟩ : ByteArray)] 28 (0, 0)) (kN BK291.out) hb); have n3_ := m_ (below_step (bN HB.out) hb); clear BK289; clear BK290; clear BK291; clear HB; have BK289 := n0_; have BK290 := n1_; have BK291 := n2_; have HB := n3_; clear n0_ n1_ n2_ n3_; (try clear hb); (try clear hb2); (try clear hk); (try clear hi); have hnb15 := NB290_291.out; have hnc15 := NB291_290.out; have hcz16_0 : w14.cell? ⟨gb290, 0, none⟩ = some (.int .i64 a1_0) := bc BK290 0; have hcz16_1 : w14.cell? ⟨gb290, 1, none⟩ = some (.int .i64 a1_1) := bc BK290 1; have hcz16_2 : w14.cell? ⟨gb290, 2, none⟩ = some (.int .i64 a1_2) := bc BK290 2; have hcz16_3 : w14.cell? ⟨gb290, 3, none⟩ = some (.int .i64 a1_3) := bc BK290 3; have hcz16_4 : w14.cell? ⟨gb290, 4, none⟩ = some (.int .i64 a1_4) := bc BK290 4; have hcz16_5 : w14.cell? ⟨gb290, 5, none⟩ = some (.string a1_5) := bc BK290 5; have hcz16_6 : w14.cell? ⟨gb290, 6, none⟩ = some (.string a1_6) := bc BK290 6; have hfz16_0 := blk_frozen BK290.out 0; have hfz16_1 := blk_frozen BK290.out 1; have hfz16_2 := blk_frozen BK290.out 2; have hfz16_3 := blk_frozen BK290.out 3; have hfz16_4 := blk_frozen BK290.out 4; have hfz16_5 := blk_frozen BK290.out 5; have hfz16_6 := blk_frozen BK290.out 6) | ((with_reducible refine gate_callee (f := 18) rfl ?_); refine goesL_ (some 16) rfl rfl Tryd.func18 (by kernel_rfl) rfl #[.agg #[.int .i64 a1_0, .int .i64 a1_1, .int .i64 a1_2, .int .i64 a1_3, .int .i64 a1_4, .string a1_5, .string a1_6]] rfl gl_ ?_; (with_reducible refine (impl_downOk.calls k a1_0 a1_1 a1_2 a1_3 a1_4 a1_5 a1_6 true _ A5.out).mono ?_); rintro e w17 ⟨rfl, hb⟩; refine ⟨_, rfl, ?_⟩; have n0_ := m_ (blk_below (kN BK289.out) hb); have n1_ := m_ (blk_below (kN BK290.out) hb); have n2_ := m_ (blk_below (g := gb291) (o := .cells #[.int .i64 0, .bool false, .string (⟨#[]⟩ : ByteArray)] 28 (0, 0)) (kN BK291.out) hb); have n3_ := m_ (below_step (bN HB.out) hb); clear BK289; clear BK290; clear BK291; clear HB; have BK289 := n0_; have BK290 := n1_; have BK291 := n2_; have HB := n3_; clear n0_ n1_ n2_ n3_; (try clear hb); (try clear hb2); (try clear hk); (try clear hi); have hcz18_0 : w17.cell? ⟨gb290, 0, none⟩ = some (.int .i64 a1_0) := bc BK290 0; have hcz18_1 : w17.cell? ⟨gb290, 1, none⟩ = some (.int .i64 a1_1) := bc BK290 1; have hcz18_2 : w17.cell? ⟨gb290, 2, none⟩ = some (.int .i64 a1_2) := bc BK290 2; have hcz18_3 : w17.cell? ⟨gb290, 3, none⟩ = some (.int .i64 a1_3) := bc BK290 3; have hcz18_4 : w17.cell? ⟨gb290, 4, none⟩ = some (.int .i64 a1_4) := bc BK290 4; have hcz18_5 : w17.cell? ⟨gb290, 5, none⟩ = some (.string a1_5) := bc BK290 5; have hcz18_6 : w17.cell? ⟨gb290, 6, none⟩ = some (.string a1_6) := bc BK290 6; have hfz18_0 := blk_frozen BK290.out 0; have hfz18_1 := blk_frozen BK290.out 1; have hfz18_2 := blk_frozen BK290.out 2; have hfz18_3 := blk_frozen BK290.out 3; have hfz18_4 := blk_frozen BK290.out 4; have hfz18_5 := blk_frozen BK290.out 5; have hfz18_6 := blk_frozen BK290.out 6) | ((with_reducible refine gate_dst (N := 6) rfl ?_); refine box_event ?hg (N := 6) ?hd (cs := #[.int .i64 0, .bool false, .string (⟨#[]⟩ : ByteArray)]) (t := 28) ?hr ?_; (case hd => rfl); (case hg => rfl); (case hr => first | (go_simp; done) | (go_simp; rfl)); intro gb294 hg w19 hbox hb; have n0_ := m_ (blk_below (kN BK289.out) hb); have n1_ := m_ (blk_below (kN BK290.out) hb); have n2_ := m_ (blk_below (g := gb291) (o := .cells #[.int .i64 0, .bool false, .string (⟨#[]⟩ : ByteArray)] 28 (0, 0)) (kN BK291.out) hb); have n3_ := m_ (below_step (bN HB.out) hb); have n4_ := m_ (hbox); have n5_ := m_ ((by rw [hg]; exact (below_size (bN HB.out)) : w.heap.size ≤ gb294)); have n6_ := m_ ((by rw [hg]; exact (below_size (bN HB.out)) : w.heap.size ≤ gb294)); have n7_ := m_ (nL hg BK289.out); have n8_ := m_ (nG hg BK289.out); have n9_ := m_ (nL hg BK290.out); have n10_ := m_ (nG hg BK290.out); have n11_ := m_ ((by rw [hg]; exact Nat.ne_of_lt (blk_lt (g := gb291) (o := .cells #[.int .i64 0, .bool false, .string (⟨#[]⟩ : ByteArray)] 28 (0, 0)) (kN BK291.out)) : gb291 ≠ gb294)); have n12_ := m_ ((by rw [hg]; exact Nat.ne_of_gt (blk_lt (g := gb291) (o := .cells #[.int .i64 0, .bool false, .string (⟨#[]⟩ : ByteArray)] 28 (0, 0)) (kN BK291.out)) : gb294 ≠ gb291)); clear BK289; clear BK290; clear BK291; clear HB; have BK289 := n0_; have BK290 := n1_; have BK291 := n2_; have HB := n3_; have BK294 := n4_; have GW294 := n5_; have GE294 := n6_; have NB289_294 := n7_; have NB294_289 := n8_; have NB290_294 := n9_; have NB294_290 := n10_; have NB291_294 := n11_; have NB294_291 := n12_; clear n0_ n1_ n2_ n3_ n4_ n5_ n6_ n7_ n8_ n9_ n10_ n11_ n12_; clear hb hbox hg; have hnb20 := NB294_289.out; have hnc20 := NB289_294.out; have hnb21 := NB294_290.out; have hnc21 := NB290_294.out; have hnb22 := NB294_291.out; have hnc22 := NB291_294.out; have hcz23_0 : w19.cell? ⟨gb294, 0, none⟩ = some (.int .i64 0) := bc BK294 0; have hcz23_1 : w19.cell? ⟨gb294, 1, none⟩ = some (.bool false) := bc BK294 1; have hcz23_2 : w19.cell? ⟨gb294, 2, none⟩ = some (.string (⟨#[]⟩ : ByteArray)) := bc BK294 2; have hfz23_0 := blk_frozen BK294.out 0; have hfz23_1 := blk_frozen BK294.out 1; have hfz23_2 := blk_frozen BK294.out 2; have hcz24_0 : w19.cell? ⟨gb290, 0, none⟩ = some (.int .i64 a1_0) := bc BK290 0; have hcz24_1 : w19.cell? ⟨gb290, 1, none⟩ = some (.int .i64 a1_1) := bc BK290 1; have hcz24_2 : w19.cell? ⟨gb290, 2, none⟩ = some (.int .i64 a1_2) := bc BK290 2; have hcz24_3 : w19.cell? ⟨gb290, 3, none⟩ = some (.int .i64 a1_3) := bc BK290 3; have hcz24_4 : w19.cell? ⟨gb290, 4, none⟩ = some (.int .i64 a1_4) := bc BK290 4; have hcz24_5 : w19.cell? ⟨gb290, 5, none⟩ = some (.string a1_5) := bc BK290 5; have hcz24_6 : w19.cell? ⟨gb290, 6, none⟩ = some (.string a1_6) := bc BK290 6; have hfz24_0 := blk_frozen BK290.out 0; have hfz24_1 := blk_frozen BK290.out 1; have hfz24_2 := blk_frozen BK290.out 2; have hfz24_3 := blk_frozen BK290.out 3; have hfz24_4 := blk_frozen BK290.out 4; have hfz24_5 := blk_frozen BK290.out 5; have hfz24_6 := blk_frozen BK290.out 6; have hcz25_0 : w19.cell? ⟨gb291, 0, none⟩ = some (.int .i64 0) := bc BK291 0; have hcz25_1 : w19.cell? ⟨gb291, 1, none⟩ = some (.bool false) := bc BK291 1; have hcz25_2 : w19.cell? ⟨gb291, 2, none⟩ = some (.string (⟨#[]⟩ : ByteArray)) := bc BK291 2; have hfz25_0 := blk_frozen BK291.out 0; have hfz25_1 := blk_frozen BK291.out 1; have hfz25_2 := blk_frozen BK291.out 2))
    refine bodyPost_ret (results_ct rfl _ _ gb291 28 #[.int .i64 (Int.tmod (wrap64 (a1_3 + 1)) 256), .bool false, .string (⟨#[]⟩ : ByteArray)] (0, 0) _ rfl (kR BK291.out NB291_294.out) Tryd.underlying28 rfl (by kernel_rfl)) rfl ?_
    exact ⟨_, by first | rfl | (simp [errW_none, errW_some] <;> rfl) | (simp [*, errW_none, errW_some] <;> rfl), by first | exact Kd.R_nil _ _ _ _ _ | exact Kd.N_nil _ _ _ _ _ | exact Kd.V_nil _ _ _ _ _ | exact Kd.Q_nil _ _ _ _ _ | exact Kd.S_nil _ _ _ _ _, by repeat (first | (with_reducible first | exact HB.out | apply below_alloc | apply pw_below_drewN | apply below_drew1 | refine below_set ?_ GE289.out | refine below_set ?_ GE290.out | refine below_set ?_ GE291.out | refine below_set ?_ GE294.out) | exact HB.out)⟩
   ·rw [if_neg c7] at H
    have c7b0 : (a1_4 == 2046) = false := beq_eq_false_iff_ne.mpr c7
    have c7b1 : (a1_4 != 2046) = true := bne_iff_ne.mpr c7
    have HC26 := Aside0.mk H
    clear H
    go_enter Tryd.func9, Tryd.ntmps9
    go_upto_region 10 with (first | ((with_reducible refine gate_dst (N := 2) rfl ?_); refine box_event ?hg (N := 2) ?hd (cs := #[.int .i64 a0_0, .bool a0_1, .string a0_2]) (t := 28) ?hr ?_; (case hd => rfl); (case hg => rfl); (case hr => first | (go_simp; done) | (go_simp; rfl)); intro gb289 hg w27 hbox hb; have n0_ := m_ (below_step (bN HB.out) hb); have n1_ := m_ (hbox); have n2_ := m_ ((by rw [hg]; exact (below_size (bN HB.out)) : w.heap.size ≤ gb289)); have n3_ := m_ ((by rw [hg]; exact (below_size (bN HB.out)) : w.heap.size ≤ gb289)); clear HB; have HB := n0_; have BK289 := n1_; have GW289 := n2_; have GE289 := n3_; clear n0_ n1_ n2_ n3_; clear hb hbox hg) | ((with_reducible refine gate_dst (N := 3) rfl ?_); refine box_event ?hg (N := 3) ?hd (cs := #[.int .i64 a1_0, .int .i64 a1_1, .int .i64 a1_2, .int .i64 a1_3, .int .i64 a1_4, .string a1_5, .string a1_6]) (t := 33) ?hr ?_; (case hd => rfl); (case hg => rfl); (case hr => first | (go_simp; done) | (go_simp; rfl)); intro gb290 hg w28 hbox hb; have n0_ := m_ (blk_below (kN BK289.out) hb); have n1_ := m_ (below_step (bN HB.out) hb); have n2_ := m_ (hbox); have n3_ := m_ ((by rw [hg]; exact (below_size (bN HB.out)) : w.heap.size ≤ gb290)); have n4_ := m_ ((by rw [hg]; exact (below_size (bN HB.out)) : w.heap.size ≤ gb290)); have n5_ := m_ (nL hg BK289.out); have n6_ := m_ (nG hg BK289.out); clear BK289; clear HB; have BK289 := n0_; have HB := n1_; have BK290 := n2_; have GW290 := n3_; have GE290 := n4_; have NB289_290 := n5_; have NB290_289 := n6_; clear n0_ n1_ n2_ n3_ n4_ n5_ n6_; clear hb hbox hg) | ((with_reducible refine gate_dst (N := 4) rfl ?_); refine box_event ?hg (N := 4) ?hd (cs := #[.int .i64 0, .bool false, .string (⟨#[]⟩ : ByteArray)]) (t := 28) ?hr ?_; (case hd => rfl); (case hg => rfl); (case hr => first | (go_simp; done) | (go_simp; rfl)); intro gb291 hg w29 hbox hb; have n0_ := m_ (blk_below (kN BK289.out) hb); have n1_ := m_ (blk_below (kN BK290.out) hb); have n2_ := m_ (below_step (bN HB.out) hb); have n3_ := m_ (hbox); have n4_ := m_ ((by rw [hg]; exact (below_size (bN HB.out)) : w.heap.size ≤ gb291)); have n5_ := m_ ((by rw [hg]; exact (below_size (bN HB.out)) : w.heap.size ≤ gb291)); have n6_ := m_ (nL hg BK289.out); have n7_ := m_ (nG hg BK289.out); have n8_ := m_ (nL hg BK290.out); have n9_ := m_ (nG hg BK290.out); clear BK289; clear BK290; clear HB; have BK289 := n0_; have BK290 := n1_; have HB := n2_; have BK291 := n3_; have GW291 := n4_; have GE291 := n5_; have NB289_291 := n6_; have NB291_289 := n7_; have NB290_291 := n8_; have NB291_290 := n9_; clear n0_ n1_ n2_ n3_ n4_ n5_ n6_ n7_ n8_ n9_; clear hb hbox hg; have hnb30 := NB289_290.out; have hnc30 := NB290_289.out; have hnb31 := NB289_291.out; have hnc31 := NB291_289.out; have hcz32_0 : w29.cell? ⟨gb289, 0, none⟩ = some (.int .i64 a0_0) := bc BK289 0; have hcz32_1 : w29.cell? ⟨gb289, 1, none⟩ = some (.bool a0_1) := bc BK289 1; have hcz32_2 : w29.cell? ⟨gb289, 2, none⟩ = some (.string a0_2) := bc BK289 2; have hfz32_0 := blk_frozen BK289.out 0; have hfz32_1 := blk_frozen BK289.out 1; have hfz32_2 := blk_frozen BK289.out 2) | ((with_reducible refine gate_callee (f := 17) rfl ?_); refine goesL_ (some 12) rfl rfl Tryd.func17 (by kernel_rfl) rfl #[.agg #[.int .i64 a0_0, .bool a0_1, .string a0_2]] rfl gl_ ?_; (with_reducible refine (impl_hearsOk.calls a0_0 a0_1 a0_2 true _ A3.out).mono ?_); rintro e w33 ⟨rfl, hb⟩; refine ⟨_, rfl, ?_⟩; have n0_ := m_ (blk_below (kN BK289.out) hb); have n1_ := m_ (blk_below (kN BK290.out) hb); have n2_ := m_ (blk_below (g := gb291) (o := .cells #[.int .i64 0, .bool false, .string (⟨#[]⟩ : ByteArray)] 28 (0, 0)) (kN BK291.out) hb); have n3_ := m_ (below_step (bN HB.out) hb); clear BK289; clear BK290; clear BK291; clear HB; have BK289 := n0_; have BK290 := n1_; have BK291 := n2_; have HB := n3_; clear n0_ n1_ n2_ n3_; (try clear hb); (try clear hb2); (try clear hk); (try clear hi); have hnb34 := NB290_291.out; have hnc34 := NB291_290.out; have hcz35_0 : w33.cell? ⟨gb290, 0, none⟩ = some (.int .i64 a1_0) := bc BK290 0; have hcz35_1 : w33.cell? ⟨gb290, 1, none⟩ = some (.int .i64 a1_1) := bc BK290 1; have hcz35_2 : w33.cell? ⟨gb290, 2, none⟩ = some (.int .i64 a1_2) := bc BK290 2; have hcz35_3 : w33.cell? ⟨gb290, 3, none⟩ = some (.int .i64 a1_3) := bc BK290 3; have hcz35_4 : w33.cell? ⟨gb290, 4, none⟩ = some (.int .i64 a1_4) := bc BK290 4; have hcz35_5 : w33.cell? ⟨gb290, 5, none⟩ = some (.string a1_5) := bc BK290 5; have hcz35_6 : w33.cell? ⟨gb290, 6, none⟩ = some (.string a1_6) := bc BK290 6; have hfz35_0 := blk_frozen BK290.out 0; have hfz35_1 := blk_frozen BK290.out 1; have hfz35_2 := blk_frozen BK290.out 2; have hfz35_3 := blk_frozen BK290.out 3; have hfz35_4 := blk_frozen BK290.out 4; have hfz35_5 := blk_frozen BK290.out 5; have hfz35_6 := blk_frozen BK290.out 6) | ((with_reducible refine gate_callee (f := 18) rfl ?_); refine goesL_ (some 16) rfl rfl Tryd.func18 (by kernel_rfl) rfl #[.agg #[.int .i64 a1_0, .int .i64 a1_1, .int .i64 a1_2, .int .i64 a1_3, .int .i64 a1_4, .string a1_5, .string a1_6]] rfl gl_ ?_; (with_reducible refine (impl_downOk.calls k a1_0 a1_1 a1_2 a1_3 a1_4 a1_5 a1_6 true _ A5.out).mono ?_); rintro e w36 ⟨rfl, hb⟩; refine ⟨_, rfl, ?_⟩; have n0_ := m_ (blk_below (kN BK289.out) hb); have n1_ := m_ (blk_below (kN BK290.out) hb); have n2_ := m_ (blk_below (g := gb291) (o := .cells #[.int .i64 0, .bool false, .string (⟨#[]⟩ : ByteArray)] 28 (0, 0)) (kN BK291.out) hb); have n3_ := m_ (below_step (bN HB.out) hb); clear BK289; clear BK290; clear BK291; clear HB; have BK289 := n0_; have BK290 := n1_; have BK291 := n2_; have HB := n3_; clear n0_ n1_ n2_ n3_; (try clear hb); (try clear hb2); (try clear hk); (try clear hi); have hcz37_0 : w36.cell? ⟨gb290, 0, none⟩ = some (.int .i64 a1_0) := bc BK290 0; have hcz37_1 : w36.cell? ⟨gb290, 1, none⟩ = some (.int .i64 a1_1) := bc BK290 1; have hcz37_2 : w36.cell? ⟨gb290, 2, none⟩ = some (.int .i64 a1_2) := bc BK290 2; have hcz37_3 : w36.cell? ⟨gb290, 3, none⟩ = some (.int .i64 a1_3) := bc BK290 3; have hcz37_4 : w36.cell? ⟨gb290, 4, none⟩ = some (.int .i64 a1_4) := bc BK290 4; have hcz37_5 : w36.cell? ⟨gb290, 5, none⟩ = some (.string a1_5) := bc BK290 5; have hcz37_6 : w36.cell? ⟨gb290, 6, none⟩ = some (.string a1_6) := bc BK290 6; have hfz37_0 := blk_frozen BK290.out 0; have hfz37_1 := blk_frozen BK290.out 1; have hfz37_2 := blk_frozen BK290.out 2; have hfz37_3 := blk_frozen BK290.out 3; have hfz37_4 := blk_frozen BK290.out 4; have hfz37_5 := blk_frozen BK290.out 5; have hfz37_6 := blk_frozen BK290.out 6) | ((with_reducible refine gate_dst (N := 6) rfl ?_); refine box_event ?hg (N := 6) ?hd (cs := #[.int .i64 0, .bool false, .string (⟨#[]⟩ : ByteArray)]) (t := 28) ?hr ?_; (case hd => rfl); (case hg => rfl); (case hr => first | (go_simp; done) | (go_simp; rfl)); intro gb294 hg w38 hbox hb; have n0_ := m_ (blk_below (kN BK289.out) hb); have n1_ := m_ (blk_below (kN BK290.out) hb); have n2_ := m_ (blk_below (g := gb291) (o := .cells #[.int .i64 0, .bool false, .string (⟨#[]⟩ : ByteArray)] 28 (0, 0)) (kN BK291.out) hb); have n3_ := m_ (below_step (bN HB.out) hb); have n4_ := m_ (hbox); have n5_ := m_ ((by rw [hg]; exact (below_size (bN HB.out)) : w.heap.size ≤ gb294)); have n6_ := m_ ((by rw [hg]; exact (below_size (bN HB.out)) : w.heap.size ≤ gb294)); have n7_ := m_ (nL hg BK289.out); have n8_ := m_ (nG hg BK289.out); have n9_ := m_ (nL hg BK290.out); have n10_ := m_ (nG hg BK290.out); have n11_ := m_ ((by rw [hg]; exact Nat.ne_of_lt (blk_lt (g := gb291) (o := .cells #[.int .i64 0, .bool false, .string (⟨#[]⟩ : ByteArray)] 28 (0, 0)) (kN BK291.out)) : gb291 ≠ gb294)); have n12_ := m_ ((by rw [hg]; exact Nat.ne_of_gt (blk_lt (g := gb291) (o := .cells #[.int .i64 0, .bool false, .string (⟨#[]⟩ : ByteArray)] 28 (0, 0)) (kN BK291.out)) : gb294 ≠ gb291)); clear BK289; clear BK290; clear BK291; clear HB; have BK289 := n0_; have BK290 := n1_; have BK291 := n2_; have HB := n3_; have BK294 := n4_; have GW294 := n5_; have GE294 := n6_; have NB289_294 := n7_; have NB294_289 := n8_; have NB290_294 := n9_; have NB294_290 := n10_; have NB291_294 := n11_; have NB294_291 := n12_; clear n0_ n1_ n2_ n3_ n4_ n5_ n6_ n7_ n8_ n9_ n10_ n11_ n12_; clear hb hbox hg; have hnb39 := NB294_289.out; have hnc39 := NB289_294.out; have hnb40 := NB294_290.out; have hnc40 := NB290_294.out; have hnb41 := NB294_291.out; have hnc41 := NB291_294.out; have hcz42_0 : w38.cell? ⟨gb294, 0, none⟩ = some (.int .i64 0) := bc BK294 0; have hcz42_1 : w38.cell? ⟨gb294, 1, none⟩ = some (.bool false) := bc BK294 1; have hcz42_2 : w38.cell? ⟨gb294, 2, none⟩ = some (.string (⟨#[]⟩ : ByteArray)) := bc BK294 2; have hfz42_0 := blk_frozen BK294.out 0; have hfz42_1 := blk_frozen BK294.out 1; have hfz42_2 := blk_frozen BK294.out 2; have hcz43_0 : w38.cell? ⟨gb290, 0, none⟩ = some (.int .i64 a1_0) := bc BK290 0; have hcz43_1 : w38.cell? ⟨gb290, 1, none⟩ = some (.int .i64 a1_1) := bc BK290 1; have hcz43_2 : w38.cell? ⟨gb290, 2, none⟩ = some (.int .i64 a1_2) := bc BK290 2; have hcz43_3 : w38.cell? ⟨gb290, 3, none⟩ = some (.int .i64 a1_3) := bc BK290 3; have hcz43_4 : w38.cell? ⟨gb290, 4, none⟩ = some (.int .i64 a1_4) := bc BK290 4; have hcz43_5 : w38.cell? ⟨gb290, 5, none⟩ = some (.string a1_5) := bc BK290 5; have hcz43_6 : w38.cell? ⟨gb290, 6, none⟩ = some (.string a1_6) := bc BK290 6; have hfz43_0 := blk_frozen BK290.out 0; have hfz43_1 := blk_frozen BK290.out 1; have hfz43_2 := blk_frozen BK290.out 2; have hfz43_3 := blk_frozen BK290.out 3; have hfz43_4 := blk_frozen BK290.out 4; have hfz43_5 := blk_frozen BK290.out 5; have hfz43_6 := blk_frozen BK290.out 6))
    (try simp only [Act.put, List.setIfInBounds_toArray, List.set_cons_zero, List.set_cons_succ])
    go_cut [34] (fun v34 wc => ∃ (kq : Nat) (x34_25 : Bool), v34 = .bool x34_25 ∧ Aside0 (impl_HearsDown.j0 kq x34_25 a0_0 a0_1 a0_2 a1_0 a1_1 a1_2 a1_3 a1_4 a1_5 a1_6 (Int.tmod (wrap64 (a1_3 + 1)) 256) false (⟨#[]⟩ : ByteArray) = some (r1, r2, r3, r4)) ∧ Aside0 (kq ≤ k) ∧ Aside0 (wc.heap[gb289]? = some (.cells #[.int .i64 a0_0, .bool a0_1, .string a0_2] 28 (0, 0))) ∧ Aside0 (wc.heap[gb290]? = some (.cells #[.int .i64 a1_0, .int .i64 a1_1, .int .i64 a1_2, .int .i64 a1_3, .int .i64 a1_4, .string a1_5, .string a1_6] 33 (0, 0))) ∧ Aside0 (wc.heap[gb291]? = some (.cells #[.int .i64 0, .bool false, .string (⟨#[]⟩ : ByteArray)] 28 (0, 0))) ∧ Aside0 (wc.heap[gb294]? = some (.cells #[.int .i64 (Int.tmod (wrap64 (a1_3 + 1)) 256), .bool false, .string (⟨#[]⟩ : ByteArray)] 28 (0, 0))) ∧ Aside0 (Below w.heap.size w wc))
    case first =>
     have H := HC26.out
     clear HC26
     by_cases c44 : a0_1 = true
     ·subst c44
      have H1 : (impl_HearsDown.j0 k (a1_3 == a0_0) a0_0 true a0_2 a1_0 a1_1 a1_2 a1_3 a1_4 a1_5 a1_6 (Int.tmod (wrap64 (a1_3 + 1)) 256) false (⟨#[]⟩ : ByteArray)) = some (r1, r2, r3, r4) := by rw [if_pos rfl] at H; exact H
      clear H
      have H := H1
      clear H1
      have H' := Aside0.mk H
      clear H
      have hnb45 := NB289_290.out
      have hnc45 := NB290_289.out
      have hnb46 := NB289_291.out
      have hnc46 := NB291_289.out
      have hnb47 := NB289_294.out
      have hnc47 := NB294_289.out
      have hcz48_0 : w38.cell? ⟨gb289, 0, none⟩ = some (.int .i64 a0_0) := bc BK289 0
      have hcz48_1 : w38.cell? ⟨gb289, 1, none⟩ = some (.bool true) := bc BK289 1
      have hcz48_2 : w38.cell? ⟨gb289, 2, none⟩ = some (.string a0_2) := bc BK289 2
      have hfz48_0 := blk_frozen BK289.out 0
      have hfz48_1 := blk_frozen BK289.out 1
      have hfz48_2 := blk_frozen BK289.out 2
      have hnb49 := NB290_291.out
      have hnc49 := NB291_290.out
      have hnb50 := NB290_294.out
      have hnc50 := NB294_290.out
      have hcz51_0 : w38.cell? ⟨gb290, 0, none⟩ = some (.int .i64 a1_0) := bc BK290 0
      have hcz51_1 : w38.cell? ⟨gb290, 1, none⟩ = some (.int .i64 a1_1) := bc BK290 1
      have hcz51_2 : w38.cell? ⟨gb290, 2, none⟩ = some (.int .i64 a1_2) := bc BK290 2
      have hcz51_3 : w38.cell? ⟨gb290, 3, none⟩ = some (.int .i64 a1_3) := bc BK290 3
      have hcz51_4 : w38.cell? ⟨gb290, 4, none⟩ = some (.int .i64 a1_4) := bc BK290 4
      have hcz51_5 : w38.cell? ⟨gb290, 5, none⟩ = some (.string a1_5) := bc BK290 5
      have hcz51_6 : w38.cell? ⟨gb290, 6, none⟩ = some (.string a1_6) := bc BK290 6
      have hfz51_0 := blk_frozen BK290.out 0
      have hfz51_1 := blk_frozen BK290.out 1
      have hfz51_2 := blk_frozen BK290.out 2
      have hfz51_3 := blk_frozen BK290.out 3
      have hfz51_4 := blk_frozen BK290.out 4
      have hfz51_5 := blk_frozen BK290.out 5
      have hfz51_6 := blk_frozen BK290.out 6
      go_wp2
      go_meet
      case rel => exact ⟨_, ((a1_3 == a0_0)), (by first | rfl | (simp; done) | (simp [*]; done)), H', ⟨by first | omega | exact Nat.le_refl _⟩, ⟨kF BK289.out NB289_294.out⟩, ⟨kF BK290.out NB290_294.out⟩, ⟨kF BK291.out NB291_294.out⟩, ⟨kP BK294.out⟩, ⟨by repeat (first | (with_reducible first | exact HB.out | apply below_alloc | apply pw_below_drewN | apply below_drew1 | refine below_set ?_ GE289.out | refine below_set ?_ GE290.out | refine below_set ?_ GE291.out | refine below_set ?_ GE294.out) | exact HB.out)⟩⟩
     ·replace c44 := Bool.eq_false_iff.mpr c44
      subst c44
      have H1 : (impl_HearsDown.j0 k false a0_0 false a0_2 a1_0 a1_1 a1_2 a1_3 a1_4 a1_5 a1_6 (Int.tmod (wrap64 (a1_3 + 1)) 256) false (⟨#[]⟩ : ByteArray)) = some (r1, r2, r3, r4) := by rw [if_neg (show ¬ (false = true) by decide)] at H; exact H
      clear H
      have H := H1
      clear H1
      have H' := Aside0.mk H
      clear H
      have hnb52 := NB289_290.out
      have hnc52 := NB290_289.out
      have hnb53 := NB289_291.out
      have hnc53 := NB291_289.out
      have hnb54 := NB289_294.out
      have hnc54 := NB294_289.out
      have hcz55_0 : w38.cell? ⟨gb289, 0, none⟩ = some (.int .i64 a0_0) := bc BK289 0
      have hcz55_1 : w38.cell? ⟨gb289, 1, none⟩ = some (.bool false) := bc BK289 1
      have hcz55_2 : w38.cell? ⟨gb289, 2, none⟩ = some (.string a0_2) := bc BK289 2
      have hfz55_0 := blk_frozen BK289.out 0
      have hfz55_1 := blk_frozen BK289.out 1
      have hfz55_2 := blk_frozen BK289.out 2
      go_wp2
      go_meet
      case rel => exact ⟨_, (false), (by first | rfl | (simp; done) | (simp [*]; done)), H', ⟨by first | omega | exact Nat.le_refl _⟩, ⟨kF BK289.out NB289_294.out⟩, ⟨kF BK290.out NB290_294.out⟩, ⟨kF BK291.out NB291_294.out⟩, ⟨kP BK294.out⟩, ⟨by repeat (first | (with_reducible first | exact HB.out | apply below_alloc | apply pw_below_drewN | apply below_drew1 | refine below_set ?_ GE289.out | refine below_set ?_ GE290.out | refine below_set ?_ GE291.out | refine below_set ?_ GE294.out) | exact HB.out)⟩⟩
    case rest =>
     clear HC26
     try clear c1
     try clear c2
     try clear p2
     try clear c3
     try clear c4
     try clear c5
     try clear c6
     try clear p6
     try clear c7
     try clear c7b0
     try clear c7b1
     try clear c9
     try clear c11
     try clear c12
     try clear c15
     try clear c17
     try clear c18
     try clear c20
     try clear c21
     try clear c22
     try clear c30
     try clear c31
     try clear c34
     try clear c39
     try clear c40
     try clear c41
     try clear c44
     try clear c45
     try clear c46
     try clear c47
     try clear c49
     try clear c50
     try clear c52
     try clear c53
     try clear c54
     try clear hcz13_0
     try clear hcz13_1
     try clear hcz13_2
     try clear hcz16_0
     try clear hcz16_1
     try clear hcz16_2
     try clear hcz16_3
     try clear hcz16_4
     try clear hcz16_5
     try clear hcz16_6
     try clear hcz18_0
     try clear hcz18_1
     try clear hcz18_2
     try clear hcz18_3
     try clear hcz18_4
     try clear hcz18_5
     try clear hcz18_6
     try clear hcz23_0
     try clear hcz23_1
     try clear hcz23_2
     try clear hcz24_0
     try clear hcz24_1
     try clear hcz24_2
     try clear hcz24_3
     try clear hcz24_4
     try clear hcz24_5
     try clear hcz24_6
     try clear hcz25_0
     try clear hcz25_1
     try clear hcz25_2
     try clear hcz32_0
     try clear hcz32_1
     try clear hcz32_2
     try clear hcz35_0
     try clear hcz35_1
     try clear hcz35_2
     try clear hcz35_3
     try clear hcz35_4
     try clear hcz35_5
     try clear hcz35_6
     try clear hcz37_0
     try clear hcz37_1
     try clear hcz37_2
     try clear hcz37_3
     try clear hcz37_4
     try clear hcz37_5
     try clear hcz37_6
     try clear hcz42_0
     try clear hcz42_1
     try clear hcz42_2
     try clear hcz43_0
     try clear hcz43_1
     try clear hcz43_2
     try clear hcz43_3
     try clear hcz43_4
     try clear hcz43_5
     try clear hcz43_6
     try clear hcz48_0
     try clear hcz48_1
     try clear hcz48_2
     try clear hcz51_0
     try clear hcz51_1
     try clear hcz51_2
     try clear hcz51_3
     try clear hcz51_4
     try clear hcz51_5
     try clear hcz51_6
     try clear hcz55_0
     try clear hcz55_1
     try clear hcz55_2
     try clear hfz13_0
     try clear hfz13_1
     try clear hfz13_2
     try clear hfz16_0
     try clear hfz16_1
     try clear hfz16_2
     try clear hfz16_3
     try clear hfz16_4
     try clear hfz16_5
     try clear hfz16_6
     try clear hfz18_0
     try clear hfz18_1
     try clear hfz18_2
     try clear hfz18_3
     try clear hfz18_4
     try clear hfz18_5
     try clear hfz18_6
     try clear hfz23_0
     try clear hfz23_1
     try clear hfz23_2
     try clear hfz24_0
     try clear hfz24_1
     try clear hfz24_2
     try clear hfz24_3
     try clear hfz24_4
     try clear hfz24_5
     try clear hfz24_6
     try clear hfz25_0
     try clear hfz25_1
     try clear hfz25_2
     try clear hfz32_0
     try clear hfz32_1
     try clear hfz32_2
     try clear hfz35_0
     try clear hfz35_1
     try clear hfz35_2
     try clear hfz35_3
     try clear hfz35_4
     try clear hfz35_5
     try clear hfz35_6
     try clear hfz37_0
     try clear hfz37_1
     try clear hfz37_2
     try clear hfz37_3
     try clear hfz37_4
     try clear hfz37_5
     try clear hfz37_6
     try clear hfz42_0
     try clear hfz42_1
     try clear hfz42_2
     try clear hfz43_0
     try clear hfz43_1
     try clear hfz43_2
     try clear hfz43_3
     try clear hfz43_4
     try clear hfz43_5
     try clear hfz43_6
     try clear hfz48_0
     try clear hfz48_1
     try clear hfz48_2
     try clear hfz51_0
     try clear hfz51_1
     try clear hfz51_2
     try clear hfz51_3
     try clear hfz51_4
     try clear hfz51_5
     try clear hfz51_6
     try clear hfz55_0
     try clear hfz55_1
     try clear hfz55_2
     obtain ⟨kq, x34_25, rfl, HA, HJ25, BK289, BK290, BK291, BK294, HB⟩ := hcut
     cases kq with
     | zero => exact absurd HA.out (by simp [impl_HearsDown.j0])
     | succ kj25 =>
      have H := HA.out
      clear HA
      simp only [impl_HearsDown.j0] at H
      by_cases c56 : x34_25 = true
      ·subst c56
       have H1 : (if a0_2.size + a1_5.size ≤ 9223372036854775807 then ((impl_packsOf.f kj25 (a0_2 ++ a1_5)).bind fun bt295 => (some ((Int.tmod (wrap64 (a1_3 + 1)) 256), bt295.2.2, bt295.2.1, bt295.1))) else (none)) = some (r1, r2, r3, r4) := by rw [if_pos rfl] at H; exact H
       clear H
       have H := H1
       clear H1
       by_cases c57 : a0_2.size + a1_5.size ≤ 9223372036854775807
       ·rw [if_pos c57] at H
        have c57b0 := eq_true c57
        have c57b1 : decide (a0_2.size + a1_5.size ≤ 9223372036854775807) = true := decide_eq_true c57
        try have c57b2 : (9223372036854775807 < a0_2.size + a1_5.size) = False := eq_false (Nat.not_lt.2 c57)
        replace H := Option.bind_eq_some_iff.mp H
        obtain ⟨⟨t295, t296, t297⟩, A580, H⟩ := H
        replace H : (some ((Int.tmod (wrap64 (a1_3 + 1)) 256), t297, t296, t295)) = some (r1, r2, r3, r4) := H
        have A58 := Aside0.mk A580
        clear A580
        simp only [Option.some.injEq, Prod.mk.injEq] at H
        obtain ⟨rfl, rfl, rfl, rfl⟩ := H
        have hnb59 := NB289_290.out
        have hnc59 := NB290_289.out
        have hnb60 := NB289_291.out
        have hnc60 := NB291_289.out
        have hnb61 := NB289_294.out
        have hnc61 := NB294_289.out
        have hcz62_0 : wc.cell? ⟨gb289, 0, none⟩ = some (.int .i64 a0_0) := bc BK289 0
        have hcz62_1 : wc.cell? ⟨gb289, 1, none⟩ = some (.bool a0_1) := bc BK289 1
        have hcz62_2 : wc.cell? ⟨gb289, 2, none⟩ = some (.string a0_2) := bc BK289 2
        have hfz62_0 := blk_frozen BK289.out 0
        have hfz62_1 := blk_frozen BK289.out 1
        have hfz62_2 := blk_frozen BK289.out 2
        have hnb63 := NB290_291.out
        have hnc63 := NB291_290.out
        have hnb64 := NB290_294.out
        have hnc64 := NB294_290.out
        have hcz65_0 : wc.cell? ⟨gb290, 0, none⟩ = some (.int .i64 a1_0) := bc BK290 0
        have hcz65_1 : wc.cell? ⟨gb290, 1, none⟩ = some (.int .i64 a1_1) := bc BK290 1
        have hcz65_2 : wc.cell? ⟨gb290, 2, none⟩ = some (.int .i64 a1_2) := bc BK290 2
        have hcz65_3 : wc.cell? ⟨gb290, 3, none⟩ = some (.int .i64 a1_3) := bc BK290 3
        have hcz65_4 : wc.cell? ⟨gb290, 4, none⟩ = some (.int .i64 a1_4) := bc BK290 4
        have hcz65_5 : wc.cell? ⟨gb290, 5, none⟩ = some (.string a1_5) := bc BK290 5
        have hcz65_6 : wc.cell? ⟨gb290, 6, none⟩ = some (.string a1_6) := bc BK290 6
        have hfz65_0 := blk_frozen BK290.out 0
        have hfz65_1 := blk_frozen BK290.out 1
        have hfz65_2 := blk_frozen BK290.out 2
        have hfz65_3 := blk_frozen BK290.out 3
        have hfz65_4 := blk_frozen BK290.out 4
        have hfz65_5 := blk_frozen BK290.out 5
        have hfz65_6 := blk_frozen BK290.out 6
        go_wp2_with (first | ((with_reducible refine gate_callee (f := 19) rfl ?_); refine goesL_ (some 56) rfl rfl Tryd.func19 (by kernel_rfl) rfl #[.string (a0_2 ++ a1_5)] rfl gl_ ?_; (with_reducible refine (impl_packsOf.calls kj25 (a0_2 ++ a1_5) t295 t296 t297 _ A58.out).mono ?_); rintro e w66 ⟨v298, rfl, ho0, hb⟩; refine ⟨_, rfl, ?_⟩; have n0_ := m_ (Kd.R_lower ho0 (below_size (bN HB.out))); have n1_ := m_ (blk_below (kN BK289.out) hb); have n2_ := m_ (blk_below (kN BK290.out) hb); have n3_ := m_ (blk_below (g := gb291) (o := .cells #[.int .i64 0, .bool false, .string (⟨#[]⟩ : ByteArray)] 28 (0, 0)) (kN BK291.out) hb); have n4_ := m_ (blk_below (g := gb294) (o := .cells #[.int .i64 (Int.tmod (wrap64 (a1_3 + 1)) 256), .bool false, .string (⟨#[]⟩ : ByteArray)] 28 (0, 0)) (kN BK294.out) hb); have n5_ := m_ (below_step (bN HB.out) hb); clear BK289; clear BK290; clear BK291; clear BK294; clear HB; have HO299 := n0_; have BK289 := n1_; have BK290 := n2_; have BK291 := n3_; have BK294 := n4_; have HB := n5_; clear n0_ n1_ n2_ n3_ n4_ n5_; (try clear hb); (try clear hb2); (try clear hk); (try clear hi); (try clear ho0); have hnb67 := NB294_291.out; have hnc67 := NB291_294.out; have hcz68_0 : w66.cell? ⟨gb294, 0, none⟩ = some (.int .i64 (Int.tmod (wrap64 (a1_3 + 1)) 256)) := bc BK294 0; have hcz68_1 : w66.cell? ⟨gb294, 1, none⟩ = some (.bool false) := bc BK294 1; have hcz68_2 : w66.cell? ⟨gb294, 2, none⟩ = some (.string (⟨#[]⟩ : ByteArray)) := bc BK294 2; have hfz68_0 := blk_frozen BK294.out 0; have hfz68_1 := blk_frozen BK294.out 1; have hfz68_2 := blk_frozen BK294.out 2; have hcz69_0 : w66.cell? ⟨gb291, 0, none⟩ = some (.int .i64 0) := bc BK291 0; have hcz69_1 : w66.cell? ⟨gb291, 1, none⟩ = some (.bool false) := bc BK291 1; have hcz69_2 : w66.cell? ⟨gb291, 2, none⟩ = some (.string (⟨#[]⟩ : ByteArray)) := bc BK291 2; have hfz69_0 := blk_frozen BK291.out 0; have hfz69_1 := blk_frozen BK291.out 1; have hfz69_2 := blk_frozen BK291.out 2))
        refine bodyPost_ret (results_ct rfl _ _ gb291 28 #[.int .i64 (Int.tmod (wrap64 (a1_3 + 1)) 256), .bool t297, .string t296] (0, 0) _ rfl (kR BK291.out NB291_294.out) Tryd.underlying28 rfl (by kernel_rfl)) rfl ?_
        exact ⟨_, by first | rfl | (simp [errW_none, errW_some] <;> rfl) | (simp [*, errW_none, errW_some] <;> rfl), by (with_reducible repeat (first | apply Kd.R_alloc | apply Kd.R_drewN | apply Kd.R_drew)); exact frM (Kd.R_types (Kd.R_types HO299.out BK294.out (by decide)) BK291.out (by decide)), by repeat (first | (with_reducible first | exact HB.out | apply below_alloc | apply pw_below_drewN | apply below_drew1 | refine below_set ?_ GE289.out | refine below_set ?_ GE290.out | refine below_set ?_ GE291.out | refine below_set ?_ GE294.out) | exact HB.out)⟩
       ·rw [if_neg c57] at H
        exact absurd H (by simp)
      ·replace c56 := Bool.eq_false_iff.mpr c56
       subst c56
       have H1 : (if a1_4 = 2047 then (some ((Int.tmod (wrap64 (a1_3 + 1)) 256), false, (⟨#[]⟩ : ByteArray), ([] : List ByteArray))) else (if 0 ≤ a1_4 then (if a1_4 ≤ (a1_5.size : Int) then ((impl_packsOf.f kj25 (a1_5.extract (a1_4 : Int).toNat a1_5.size)).bind fun bt300 => (some ((Int.tmod (wrap64 (a1_3 + 1)) 256), bt300.2.2, bt300.2.1, bt300.1))) else (none)) else (none))) = some (r1, r2, r3, r4) := by rw [if_neg (show ¬ (false = true) by decide)] at H; exact H
       clear H
       have H := H1
       clear H1
       by_cases c70 : a1_4 = 2047
       ·rw [if_pos c70] at H
        have c70b0 : (a1_4 == 2047) = true := beq_iff_eq.mpr c70
        have c70b1 : (a1_4 != 2047) = false := bne_eq_false_iff_eq.mpr c70
        clear c70
        simp only [Option.some.injEq, Prod.mk.injEq] at H
        obtain ⟨rfl, rfl, rfl, rfl⟩ := H
        have hnb71 := NB290_289.out
        have hnc71 := NB289_290.out
        have hnb72 := NB290_291.out
        have hnc72 := NB291_290.out
        have hnb73 := NB290_294.out
        have hnc73 := NB294_290.out
        have hcz74_0 : wc.cell? ⟨gb290, 0, none⟩ = some (.int .i64 a1_0) := bc BK290 0
        have hcz74_1 : wc.cell? ⟨gb290, 1, none⟩ = some (.int .i64 a1_1) := bc BK290 1
        have hcz74_2 : wc.cell? ⟨gb290, 2, none⟩ = some (.int .i64 a1_2) := bc BK290 2
        have hcz74_3 : wc.cell? ⟨gb290, 3, none⟩ = some (.int .i64 a1_3) := bc BK290 3
        have hcz74_4 : wc.cell? ⟨gb290, 4, none⟩ = some (.int .i64 a1_4) := bc BK290 4
        have hcz74_5 : wc.cell? ⟨gb290, 5, none⟩ = some (.string a1_5) := bc BK290 5
        have hcz74_6 : wc.cell? ⟨gb290, 6, none⟩ = some (.string a1_6) := bc BK290 6
        have hfz74_0 := blk_frozen BK290.out 0
        have hfz74_1 := blk_frozen BK290.out 1
        have hfz74_2 := blk_frozen BK290.out 2
        have hfz74_3 := blk_frozen BK290.out 3
        have hfz74_4 := blk_frozen BK290.out 4
        have hfz74_5 := blk_frozen BK290.out 5
        have hfz74_6 := blk_frozen BK290.out 6
        have hnb75 := NB294_289.out
        have hnc75 := NB289_294.out
        have hnb76 := NB294_291.out
        have hnc76 := NB291_294.out
        have hcz77_0 : wc.cell? ⟨gb294, 0, none⟩ = some (.int .i64 (Int.tmod (wrap64 (a1_3 + 1)) 256)) := bc BK294 0
        have hcz77_1 : wc.cell? ⟨gb294, 1, none⟩ = some (.bool false) := bc BK294 1
        have hcz77_2 : wc.cell? ⟨gb294, 2, none⟩ = some (.string (⟨#[]⟩ : ByteArray)) := bc BK294 2
        have hfz77_0 := blk_frozen BK294.out 0
        have hfz77_1 := blk_frozen BK294.out 1
        have hfz77_2 := blk_frozen BK294.out 2
        have hnb78 := NB291_289.out
        have hnc78 := NB289_291.out
        have hcz79_0 : wc.cell? ⟨gb291, 0, none⟩ = some (.int .i64 0) := bc BK291 0
        have hcz79_1 : wc.cell? ⟨gb291, 1, none⟩ = some (.bool false) := bc BK291 1
        have hcz79_2 : wc.cell? ⟨gb291, 2, none⟩ = some (.string (⟨#[]⟩ : ByteArray)) := bc BK291 2
        have hfz79_0 := blk_frozen BK291.out 0
        have hfz79_1 := blk_frozen BK291.out 1
        have hfz79_2 := blk_frozen BK291.out 2
        go_wp2
        refine bodyPost_ret (results_ct rfl _ _ gb291 28 #[.int .i64 (Int.tmod (wrap64 (a1_3 + 1)) 256), .bool false, .string (⟨#[]⟩ : ByteArray)] (0, 0) _ rfl (kP BK291.out) Tryd.underlying28 rfl (by kernel_rfl)) rfl ?_
        exact ⟨_, by first | rfl | (simp [errW_none, errW_some] <;> rfl) | (simp [*, errW_none, errW_some] <;> rfl), by first | exact Kd.R_nil _ _ _ _ _ | exact Kd.N_nil _ _ _ _ _ | exact Kd.V_nil _ _ _ _ _ | exact Kd.Q_nil _ _ _ _ _ | exact Kd.S_nil _ _ _ _ _, by repeat (first | (with_reducible first | exact HB.out | apply below_alloc | apply pw_below_drewN | apply below_drew1 | refine below_set ?_ GE289.out | refine below_set ?_ GE290.out | refine below_set ?_ GE291.out | refine below_set ?_ GE294.out) | exact HB.out)⟩
       ·rw [if_neg c70] at H
        have c70b0 : (a1_4 == 2047) = false := beq_eq_false_iff_ne.mpr c70
        have c70b1 : (a1_4 != 2047) = true := bne_iff_ne.mpr c70
        by_cases c80 : 0 ≤ a1_4
        ·rw [if_pos c80] at H
         have c80b0 := eq_true c80
         have c80b1 : decide (0 ≤ a1_4) = true := decide_eq_true c80
         clear c80
         by_cases c81 : a1_4 ≤ (a1_5.size : Int)
         ·rw [if_pos c81] at H
          have c81b0 := eq_true c81
          have c81b1 : decide (a1_4 ≤ (a1_5.size : Int)) = true := decide_eq_true c81
          clear c81
          replace H := Option.bind_eq_some_iff.mp H
          obtain ⟨⟨t300, t301, t302⟩, A820, H⟩ := H
          replace H : (some ((Int.tmod (wrap64 (a1_3 + 1)) 256), t302, t301, t300)) = some (r1, r2, r3, r4) := H
          have A82 := Aside0.mk A820
          clear A820
          simp only [Option.some.injEq, Prod.mk.injEq] at H
          obtain ⟨rfl, rfl, rfl, rfl⟩ := H
          have hnb83 := NB290_289.out
          have hnc83 := NB289_290.out
          have hnb84 := NB290_291.out
          have hnc84 := NB291_290.out
          have hnb85 := NB290_294.out
          have hnc85 := NB294_290.out
          have hcz86_0 : wc.cell? ⟨gb290, 0, none⟩ = some (.int .i64 a1_0) := bc BK290 0
          have hcz86_1 : wc.cell? ⟨gb290, 1, none⟩ = some (.int .i64 a1_1) := bc BK290 1
          have hcz86_2 : wc.cell? ⟨gb290, 2, none⟩ = some (.int .i64 a1_2) := bc BK290 2
          have hcz86_3 : wc.cell? ⟨gb290, 3, none⟩ = some (.int .i64 a1_3) := bc BK290 3
          have hcz86_4 : wc.cell? ⟨gb290, 4, none⟩ = some (.int .i64 a1_4) := bc BK290 4
          have hcz86_5 : wc.cell? ⟨gb290, 5, none⟩ = some (.string a1_5) := bc BK290 5
          have hcz86_6 : wc.cell? ⟨gb290, 6, none⟩ = some (.string a1_6) := bc BK290 6
          have hfz86_0 := blk_frozen BK290.out 0
          have hfz86_1 := blk_frozen BK290.out 1
          have hfz86_2 := blk_frozen BK290.out 2
          have hfz86_3 := blk_frozen BK290.out 3
          have hfz86_4 := blk_frozen BK290.out 4
          have hfz86_5 := blk_frozen BK290.out 5
          have hfz86_6 := blk_frozen BK290.out 6
          go_wp2_with (first | ((with_reducible refine gate_callee (f := 19) rfl ?_); refine goesL_ (some 56) rfl rfl Tryd.func19 (by kernel_rfl) rfl #[.string (a1_5.extract (a1_4 : Int).toNat a1_5.size)] rfl gl_ ?_; (with_reducible refine (impl_packsOf.calls kj25 (a1_5.extract (a1_4 : Int).toNat a1_5.size) t300 t301 t302 _ A82.out).mono ?_); rintro e w87 ⟨v303, rfl, ho0, hb⟩; refine ⟨_, rfl, ?_⟩; have n0_ := m_ (Kd.R_lower ho0 (below_size (bN HB.out))); have n1_ := m_ (blk_below (kN BK289.out) hb); have n2_ := m_ (blk_below (kN BK290.out) hb); have n3_ := m_ (blk_below (g := gb291) (o := .cells #[.int .i64 0, .bool false, .string (⟨#[]⟩ : ByteArray)] 28 (0, 0)) (kN BK291.out) hb); have n4_ := m_ (blk_below (g := gb294) (o := .cells #[.int .i64 (Int.tmod (wrap64 (a1_3 + 1)) 256), .bool false, .string (⟨#[]⟩ : ByteArray)] 28 (0, 0)) (kN BK294.out) hb); have n5_ := m_ (below_step (bN HB.out) hb); clear BK289; clear BK290; clear BK291; clear BK294; clear HB; have HO304 := n0_; have BK289 := n1_; have BK290 := n2_; have BK291 := n3_; have BK294 := n4_; have HB := n5_; clear n0_ n1_ n2_ n3_ n4_ n5_; (try clear hb); (try clear hb2); (try clear hk); (try clear hi); (try clear ho0); have hnb88 := NB294_289.out; have hnc88 := NB289_294.out; have hnb89 := NB294_291.out; have hnc89 := NB291_294.out; have hcz90_0 : w87.cell? ⟨gb294, 0, none⟩ = some (.int .i64 (Int.tmod (wrap64 (a1_3 + 1)) 256)) := bc BK294 0; have hcz90_1 : w87.cell? ⟨gb294, 1, none⟩ = some (.bool false) := bc BK294 1; have hcz90_2 : w87.cell? ⟨gb294, 2, none⟩ = some (.string (⟨#[]⟩ : ByteArray)) := bc BK294 2; have hfz90_0 := blk_frozen BK294.out 0; have hfz90_1 := blk_frozen BK294.out 1; have hfz90_2 := blk_frozen BK294.out 2; have hnb91 := NB291_289.out; have hnc91 := NB289_291.out; have hcz92_0 : w87.cell? ⟨gb291, 0, none⟩ = some (.int .i64 0) := bc BK291 0; have hcz92_1 : w87.cell? ⟨gb291, 1, none⟩ = some (.bool false) := bc BK291 1; have hcz92_2 : w87.cell? ⟨gb291, 2, none⟩ = some (.string (⟨#[]⟩ : ByteArray)) := bc BK291 2; have hfz92_0 := blk_frozen BK291.out 0; have hfz92_1 := blk_frozen BK291.out 1; have hfz92_2 := blk_frozen BK291.out 2))
          refine bodyPost_ret (results_ct rfl _ _ gb291 28 #[.int .i64 (Int.tmod (wrap64 (a1_3 + 1)) 256), .bool t302, .string t301] (0, 0) _ rfl (kR BK291.out NB291_294.out) Tryd.underlying28 rfl (by kernel_rfl)) rfl ?_
          exact ⟨_, by first | rfl | (simp [errW_none, errW_some] <;> rfl) | (simp [*, errW_none, errW_some] <;> rfl), by (with_reducible repeat (first | apply Kd.R_alloc | apply Kd.R_drewN | apply Kd.R_drew)); exact frM (Kd.R_types (Kd.R_types HO304.out BK294.out (by decide)) BK291.out (by decide)), by repeat (first | (with_reducible first | exact HB.out | apply below_alloc | apply pw_below_drewN | apply below_drew1 | refine below_set ?_ GE289.out | refine below_set ?_ GE290.out | refine below_set ?_ GE291.out | refine below_set ?_ GE294.out) | exact HB.out)⟩
         ·rw [if_neg c81] at H
          exact absurd H (by simp)
        ·rw [if_neg c80] at H
         exact absurd H (by simp)
  ·replace c6 := Bool.eq_false_iff.mpr c6
   subst c6
   have H1 : (some (a0_0, a0_1, a0_2, ([] : List ByteArray))) = some (r1, r2, r3, r4) := by rw [if_neg (show ¬ (false = true) by decide)] at H; exact H
   clear H
   have H := H1
   clear H1
   simp only [Option.some.injEq, Prod.mk.injEq] at H
   obtain ⟨rfl, rfl, rfl, rfl⟩ := H
   go_enter Tryd.func9, Tryd.ntmps9
   go_wp2_with (first | ((with_reducible refine gate_dst (N := 2) rfl ?_); refine box_event ?hg (N := 2) ?hd (cs := #[.int .i64 a0_0, .bool a0_1, .string a0_2]) (t := 28) ?hr ?_; (case hd => rfl); (case hg => rfl); (case hr => first | (go_simp; done) | (go_simp; rfl)); intro gb289 hg w93 hbox hb; have n0_ := m_ (below_step (bN HB.out) hb); have n1_ := m_ (hbox); have n2_ := m_ ((by rw [hg]; exact (below_size (bN HB.out)) : w.heap.size ≤ gb289)); have n3_ := m_ ((by rw [hg]; exact (below_size (bN HB.out)) : w.heap.size ≤ gb289)); clear HB; have HB := n0_; have BK289 := n1_; have GW289 := n2_; have GE289 := n3_; clear n0_ n1_ n2_ n3_; clear hb hbox hg) | ((with_reducible refine gate_dst (N := 3) rfl ?_); refine box_event ?hg (N := 3) ?hd (cs := #[.int .i64 a1_0, .int .i64 a1_1, .int .i64 a1_2, .int .i64 a1_3, .int .i64 a1_4, .string a1_5, .string a1_6]) (t := 33) ?hr ?_; (case hd => rfl); (case hg => rfl); (case hr => first | (go_simp; done) | (go_simp; rfl)); intro gb290 hg w94 hbox hb; have n0_ := m_ (blk_below (kN BK289.out) hb); have n1_ := m_ (below_step (bN HB.out) hb); have n2_ := m_ (hbox); have n3_ := m_ ((by rw [hg]; exact (below_size (bN HB.out)) : w.heap.size ≤ gb290)); have n4_ := m_ ((by rw [hg]; exact (below_size (bN HB.out)) : w.heap.size ≤ gb290)); have n5_ := m_ (nL hg BK289.out); have n6_ := m_ (nG hg BK289.out); clear BK289; clear HB; have BK289 := n0_; have HB := n1_; have BK290 := n2_; have GW290 := n3_; have GE290 := n4_; have NB289_290 := n5_; have NB290_289 := n6_; clear n0_ n1_ n2_ n3_ n4_ n5_ n6_; clear hb hbox hg) | ((with_reducible refine gate_dst (N := 4) rfl ?_); refine box_event ?hg (N := 4) ?hd (cs := #[.int .i64 0, .bool false, .string (⟨#[]⟩ : ByteArray)]) (t := 28) ?hr ?_; (case hd => rfl); (case hg => rfl); (case hr => first | (go_simp; done) | (go_simp; rfl)); intro gb291 hg w95 hbox hb; have n0_ := m_ (blk_below (kN BK289.out) hb); have n1_ := m_ (blk_below (kN BK290.out) hb); have n2_ := m_ (below_step (bN HB.out) hb); have n3_ := m_ (hbox); have n4_ := m_ ((by rw [hg]; exact (below_size (bN HB.out)) : w.heap.size ≤ gb291)); have n5_ := m_ ((by rw [hg]; exact (below_size (bN HB.out)) : w.heap.size ≤ gb291)); have n6_ := m_ (nL hg BK289.out); have n7_ := m_ (nG hg BK289.out); have n8_ := m_ (nL hg BK290.out); have n9_ := m_ (nG hg BK290.out); clear BK289; clear BK290; clear HB; have BK289 := n0_; have BK290 := n1_; have HB := n2_; have BK291 := n3_; have GW291 := n4_; have GE291 := n5_; have NB289_291 := n6_; have NB291_289 := n7_; have NB290_291 := n8_; have NB291_290 := n9_; clear n0_ n1_ n2_ n3_ n4_ n5_ n6_ n7_ n8_ n9_; clear hb hbox hg; have hnb96 := NB289_290.out; have hnc96 := NB290_289.out; have hnb97 := NB289_291.out; have hnc97 := NB291_289.out; have hcz98_0 : w95.cell? ⟨gb289, 0, none⟩ = some (.int .i64 a0_0) := bc BK289 0; have hcz98_1 : w95.cell? ⟨gb289, 1, none⟩ = some (.bool a0_1) := bc BK289 1; have hcz98_2 : w95.cell? ⟨gb289, 2, none⟩ = some (.string a0_2) := bc BK289 2; have hfz98_0 := blk_frozen BK289.out 0; have hfz98_1 := blk_frozen BK289.out 1; have hfz98_2 := blk_frozen BK289.out 2) | ((with_reducible refine gate_callee (f := 17) rfl ?_); refine goesL_ (some 12) rfl rfl Tryd.func17 (by kernel_rfl) rfl #[.agg #[.int .i64 a0_0, .bool a0_1, .string a0_2]] rfl gl_ ?_; (with_reducible refine (impl_hearsOk.calls a0_0 a0_1 a0_2 true _ A3.out).mono ?_); rintro e w99 ⟨rfl, hb⟩; refine ⟨_, rfl, ?_⟩; have n0_ := m_ (blk_below (kN BK289.out) hb); have n1_ := m_ (blk_below (kN BK290.out) hb); have n2_ := m_ (blk_below (g := gb291) (o := .cells #[.int .i64 0, .bool false, .string (⟨#[]⟩ : ByteArray)] 28 (0, 0)) (kN BK291.out) hb); have n3_ := m_ (below_step (bN HB.out) hb); clear BK289; clear BK290; clear BK291; clear HB; have BK289 := n0_; have BK290 := n1_; have BK291 := n2_; have HB := n3_; clear n0_ n1_ n2_ n3_; (try clear hb); (try clear hb2); (try clear hk); (try clear hi); have hnb100 := NB290_291.out; have hnc100 := NB291_290.out; have hcz101_0 : w99.cell? ⟨gb290, 0, none⟩ = some (.int .i64 a1_0) := bc BK290 0; have hcz101_1 : w99.cell? ⟨gb290, 1, none⟩ = some (.int .i64 a1_1) := bc BK290 1; have hcz101_2 : w99.cell? ⟨gb290, 2, none⟩ = some (.int .i64 a1_2) := bc BK290 2; have hcz101_3 : w99.cell? ⟨gb290, 3, none⟩ = some (.int .i64 a1_3) := bc BK290 3; have hcz101_4 : w99.cell? ⟨gb290, 4, none⟩ = some (.int .i64 a1_4) := bc BK290 4; have hcz101_5 : w99.cell? ⟨gb290, 5, none⟩ = some (.string a1_5) := bc BK290 5; have hcz101_6 : w99.cell? ⟨gb290, 6, none⟩ = some (.string a1_6) := bc BK290 6; have hfz101_0 := blk_frozen BK290.out 0; have hfz101_1 := blk_frozen BK290.out 1; have hfz101_2 := blk_frozen BK290.out 2; have hfz101_3 := blk_frozen BK290.out 3; have hfz101_4 := blk_frozen BK290.out 4; have hfz101_5 := blk_frozen BK290.out 5; have hfz101_6 := blk_frozen BK290.out 6) | ((with_reducible refine gate_callee (f := 18) rfl ?_); refine goesL_ (some 16) rfl rfl Tryd.func18 (by kernel_rfl) rfl #[.agg #[.int .i64 a1_0, .int .i64 a1_1, .int .i64 a1_2, .int .i64 a1_3, .int .i64 a1_4, .string a1_5, .string a1_6]] rfl gl_ ?_; (with_reducible refine (impl_downOk.calls k a1_0 a1_1 a1_2 a1_3 a1_4 a1_5 a1_6 false _ A5.out).mono ?_); rintro e w102 ⟨rfl, hb⟩; refine ⟨_, rfl, ?_⟩; have n0_ := m_ (blk_below (kN BK289.out) hb); have n1_ := m_ (blk_below (kN BK290.out) hb); have n2_ := m_ (blk_below (g := gb291) (o := .cells #[.int .i64 0, .bool false, .string (⟨#[]⟩ : ByteArray)] 28 (0, 0)) (kN BK291.out) hb); have n3_ := m_ (below_step (bN HB.out) hb); clear BK289; clear BK290; clear BK291; clear HB; have BK289 := n0_; have BK290 := n1_; have BK291 := n2_; have HB := n3_; clear n0_ n1_ n2_ n3_; (try clear hb); (try clear hb2); (try clear hk); (try clear hi); have hcz103_0 : w102.cell? ⟨gb289, 0, none⟩ = some (.int .i64 a0_0) := bc BK289 0; have hcz103_1 : w102.cell? ⟨gb289, 1, none⟩ = some (.bool a0_1) := bc BK289 1; have hcz103_2 : w102.cell? ⟨gb289, 2, none⟩ = some (.string a0_2) := bc BK289 2; have hfz103_0 := blk_frozen BK289.out 0; have hfz103_1 := blk_frozen BK289.out 1; have hfz103_2 := blk_frozen BK289.out 2; have hcz104_0 : w102.cell? ⟨gb291, 0, none⟩ = some (.int .i64 0) := bc BK291 0; have hcz104_1 : w102.cell? ⟨gb291, 1, none⟩ = some (.bool false) := bc BK291 1; have hcz104_2 : w102.cell? ⟨gb291, 2, none⟩ = some (.string (⟨#[]⟩ : ByteArray)) := bc BK291 2; have hfz104_0 := blk_frozen BK291.out 0; have hfz104_1 := blk_frozen BK291.out 1; have hfz104_2 := blk_frozen BK291.out 2))
   refine bodyPost_ret (results_ct rfl _ _ gb291 28 #[.int .i64 a0_0, .bool a0_1, .string a0_2] (0, 0) _ rfl (kP BK291.out) Tryd.underlying28 rfl (by kernel_rfl)) rfl ?_
   exact ⟨_, by first | rfl | (simp [errW_none, errW_some] <;> rfl) | (simp [*, errW_none, errW_some] <;> rfl), by first | exact Kd.R_nil _ _ _ _ _ | exact Kd.N_nil _ _ _ _ _ | exact Kd.V_nil _ _ _ _ _ | exact Kd.Q_nil _ _ _ _ _ | exact Kd.S_nil _ _ _ _ _, by repeat (first | (with_reducible first | exact HB.out | apply below_alloc | apply pw_below_drewN | apply below_drew1 | refine below_set ?_ GE289.out | refine below_set ?_ GE290.out | refine below_set ?_ GE291.out) | exact HB.out)⟩
 ·replace c4 := Bool.eq_false_iff.mpr c4
  subst c4
  have H1 : (some (0, false, (⟨#[]⟩ : ByteArray), ([] : List ByteArray))) = some (r1, r2, r3, r4) := by rw [if_neg (show ¬ (false = true) by decide)] at H; exact H
  clear H
  have H := H1
  clear H1
  simp only [Option.some.injEq, Prod.mk.injEq] at H
  obtain ⟨rfl, rfl, rfl, rfl⟩ := H
  go_enter Tryd.func9, Tryd.ntmps9
  go_wp2_with (first | ((with_reducible refine gate_dst (N := 2) rfl ?_); refine box_event ?hg (N := 2) ?hd (cs := #[.int .i64 a0_0, .bool a0_1, .string a0_2]) (t := 28) ?hr ?_; (case hd => rfl); (case hg => rfl); (case hr => first | (go_simp; done) | (go_simp; rfl)); intro gb289 hg w105 hbox hb; have n0_ := m_ (below_step (bN HB.out) hb); have n1_ := m_ (hbox); have n2_ := m_ ((by rw [hg]; exact (below_size (bN HB.out)) : w.heap.size ≤ gb289)); have n3_ := m_ ((by rw [hg]; exact (below_size (bN HB.out)) : w.heap.size ≤ gb289)); clear HB; have HB := n0_; have BK289 := n1_; have GW289 := n2_; have GE289 := n3_; clear n0_ n1_ n2_ n3_; clear hb hbox hg) | ((with_reducible refine gate_dst (N := 3) rfl ?_); refine box_event ?hg (N := 3) ?hd (cs := #[.int .i64 a1_0, .int .i64 a1_1, .int .i64 a1_2, .int .i64 a1_3, .int .i64 a1_4, .string a1_5, .string a1_6]) (t := 33) ?hr ?_; (case hd => rfl); (case hg => rfl); (case hr => first | (go_simp; done) | (go_simp; rfl)); intro gb290 hg w106 hbox hb; have n0_ := m_ (blk_below (kN BK289.out) hb); have n1_ := m_ (below_step (bN HB.out) hb); have n2_ := m_ (hbox); have n3_ := m_ ((by rw [hg]; exact (below_size (bN HB.out)) : w.heap.size ≤ gb290)); have n4_ := m_ ((by rw [hg]; exact (below_size (bN HB.out)) : w.heap.size ≤ gb290)); have n5_ := m_ (nL hg BK289.out); have n6_ := m_ (nG hg BK289.out); clear BK289; clear HB; have BK289 := n0_; have HB := n1_; have BK290 := n2_; have GW290 := n3_; have GE290 := n4_; have NB289_290 := n5_; have NB290_289 := n6_; clear n0_ n1_ n2_ n3_ n4_ n5_ n6_; clear hb hbox hg) | ((with_reducible refine gate_dst (N := 4) rfl ?_); refine box_event ?hg (N := 4) ?hd (cs := #[.int .i64 0, .bool false, .string (⟨#[]⟩ : ByteArray)]) (t := 28) ?hr ?_; (case hd => rfl); (case hg => rfl); (case hr => first | (go_simp; done) | (go_simp; rfl)); intro gb291 hg w107 hbox hb; have n0_ := m_ (blk_below (kN BK289.out) hb); have n1_ := m_ (blk_below (kN BK290.out) hb); have n2_ := m_ (below_step (bN HB.out) hb); have n3_ := m_ (hbox); have n4_ := m_ ((by rw [hg]; exact (below_size (bN HB.out)) : w.heap.size ≤ gb291)); have n5_ := m_ ((by rw [hg]; exact (below_size (bN HB.out)) : w.heap.size ≤ gb291)); have n6_ := m_ (nL hg BK289.out); have n7_ := m_ (nG hg BK289.out); have n8_ := m_ (nL hg BK290.out); have n9_ := m_ (nG hg BK290.out); clear BK289; clear BK290; clear HB; have BK289 := n0_; have BK290 := n1_; have HB := n2_; have BK291 := n3_; have GW291 := n4_; have GE291 := n5_; have NB289_291 := n6_; have NB291_289 := n7_; have NB290_291 := n8_; have NB291_290 := n9_; clear n0_ n1_ n2_ n3_ n4_ n5_ n6_ n7_ n8_ n9_; clear hb hbox hg; have hnb108 := NB289_290.out; have hnc108 := NB290_289.out; have hnb109 := NB289_291.out; have hnc109 := NB291_289.out; have hcz110_0 : w107.cell? ⟨gb289, 0, none⟩ = some (.int .i64 a0_0) := bc BK289 0; have hcz110_1 : w107.cell? ⟨gb289, 1, none⟩ = some (.bool a0_1) := bc BK289 1; have hcz110_2 : w107.cell? ⟨gb289, 2, none⟩ = some (.string a0_2) := bc BK289 2; have hfz110_0 := blk_frozen BK289.out 0; have hfz110_1 := blk_frozen BK289.out 1; have hfz110_2 := blk_frozen BK289.out 2) | ((with_reducible refine gate_callee (f := 17) rfl ?_); refine goesL_ (some 12) rfl rfl Tryd.func17 (by kernel_rfl) rfl #[.agg #[.int .i64 a0_0, .bool a0_1, .string a0_2]] rfl gl_ ?_; (with_reducible refine (impl_hearsOk.calls a0_0 a0_1 a0_2 false _ A3.out).mono ?_); rintro e w111 ⟨rfl, hb⟩; refine ⟨_, rfl, ?_⟩; have n0_ := m_ (blk_below (kN BK289.out) hb); have n1_ := m_ (blk_below (kN BK290.out) hb); have n2_ := m_ (blk_below (g := gb291) (o := .cells #[.int .i64 0, .bool false, .string (⟨#[]⟩ : ByteArray)] 28 (0, 0)) (kN BK291.out) hb); have n3_ := m_ (below_step (bN HB.out) hb); clear BK289; clear BK290; clear BK291; clear HB; have BK289 := n0_; have BK290 := n1_; have BK291 := n2_; have HB := n3_; clear n0_ n1_ n2_ n3_; (try clear hb); (try clear hb2); (try clear hk); (try clear hi); have hnb112 := NB291_290.out; have hnc112 := NB290_291.out; have hcz113_0 : w111.cell? ⟨gb291, 0, none⟩ = some (.int .i64 0) := bc BK291 0; have hcz113_1 : w111.cell? ⟨gb291, 1, none⟩ = some (.bool false) := bc BK291 1; have hcz113_2 : w111.cell? ⟨gb291, 2, none⟩ = some (.string (⟨#[]⟩ : ByteArray)) := bc BK291 2; have hfz113_0 := blk_frozen BK291.out 0; have hfz113_1 := blk_frozen BK291.out 1; have hfz113_2 := blk_frozen BK291.out 2))
  refine bodyPost_ret (results_ct rfl _ _ gb291 28 #[.int .i64 0, .bool false, .string (⟨#[]⟩ : ByteArray)] (0, 0) _ rfl (kP BK291.out) Tryd.underlying28 rfl (by kernel_rfl)) rfl ?_
  exact ⟨_, by first | rfl | (simp [errW_none, errW_some] <;> rfl) | (simp [*, errW_none, errW_some] <;> rfl), by first | exact Kd.R_nil _ _ _ _ _ | exact Kd.N_nil _ _ _ _ _ | exact Kd.V_nil _ _ _ _ _ | exact Kd.Q_nil _ _ _ _ _ | exact Kd.S_nil _ _ _ _ _, by repeat (first | (with_reducible first | exact HB.out | apply below_alloc | apply pw_below_drewN | apply below_drew1 | refine below_set ?_ GE289.out | refine below_set ?_ GE290.out | refine below_set ?_ GE291.out) | exact HB.out)⟩

/-! ### laws_eqHears: function 10 -/
def laws_eqHears.f (a0_0 : Int) (a0_1 : Bool) (a0_2 : ByteArray) (a1_0 : Int) (a1_1 : Bool) (a1_2 : ByteArray) : Option (Bool) := if a0_0 = a1_0 then (if (a0_1 != a1_1) = true then (some false) else (if a0_2.toList = a1_2.toList then (some true) else (some false))) else (some false)
set_option maxHeartbeats 8000000 in
set_option maxRecDepth 100000 in
theorem laws_eqHears.calls (a0_0 : Int) (a0_1 : Bool) (a0_2 : ByteArray) (a1_0 : Int) (a1_1 : Bool) (a1_2 : ByteArray) (r : Bool) (w : World) (h : laws_eqHears.f a0_0 a0_1 a0_2 a1_0 a1_1 a1_2 = some r) :
  Calls Tryd.prog 10 #[.agg #[.int .i64 a0_0, .bool a0_1, .string a0_2], .agg #[.int .i64 a1_0, .bool a1_1, .string a1_2]] w fun e w' => e = .returned (.bool r) ∧ Below w.heap.size w w' := by
 have hu28 := Tryd.underlying28
 have HB := m_ (Below.refl w.heap.size w)
 have H : (if a0_0 = a1_0 then (if (a0_1 != a1_1) = true then (some false) else (if a0_2.toList = a1_2.toList then (some true) else (some false))) else (some false)) = some r := h
 clear h
 by_cases c3 : a0_0 = a1_0
 ·rw [if_pos c3] at H
  have c3b0 : (a0_0 == a1_0) = true := beq_iff_eq.mpr c3
  have c3b1 : (a0_0 != a1_0) = false := bne_eq_false_iff_eq.mpr c3
  clear c3
  by_cases c4 : (a0_1 != a1_1) = true
  ·rw [if_pos c4] at H
   have c4b0 : (a0_1 != a1_1) = true := c4
   (try (have c4b1 : decide (a0_1 = a1_1) = false := by simpa using c4))
   (try (have c4b2 : (a0_1 == a1_1) = false := by simpa using c4))
   (try (have c4b3 : ¬ (a0_1 = a1_1) := by simpa using c4))
   clear c4
   obtain rfl := Option.some.inj H
   go_enter Tryd.func10, Tryd.ntmps10
   go_wp2_with (first | ((with_reducible refine gate_dst (N := 2) rfl ?_); refine box_event ?hg (N := 2) ?hd (cs := #[.int .i64 a0_0, .bool a0_1, .string a0_2]) (t := 28) ?hr ?_; (case hd => rfl); (case hg => rfl); (case hr => first | (go_simp; done) | (go_simp; rfl)); intro gb305 hg w5 hbox hb; have n0_ := m_ (below_step (bN HB.out) hb); have n1_ := m_ (hbox); have n2_ := m_ ((by rw [hg]; exact (below_size (bN HB.out)) : w.heap.size ≤ gb305)); have n3_ := m_ ((by rw [hg]; exact (below_size (bN HB.out)) : w.heap.size ≤ gb305)); clear HB; have HB := n0_; have BK305 := n1_; have GW305 := n2_; have GE305 := n3_; clear n0_ n1_ n2_ n3_; clear hb hbox hg) | ((with_reducible refine gate_dst (N := 3) rfl ?_); refine box_event ?hg (N := 3) ?hd (cs := #[.int .i64 a1_0, .bool a1_1, .string a1_2]) (t := 28) ?hr ?_; (case hd => rfl); (case hg => rfl); (case hr => first | (go_simp; done) | (go_simp; rfl)); intro gb306 hg w6 hbox hb; have n0_ := m_ (blk_below (kN BK305.out) hb); have n1_ := m_ (below_step (bN HB.out) hb); have n2_ := m_ (hbox); have n3_ := m_ ((by rw [hg]; exact (below_size (bN HB.out)) : w.heap.size ≤ gb306)); have n4_ := m_ ((by rw [hg]; exact (below_size (bN HB.out)) : w.heap.size ≤ gb306)); have n5_ := m_ (nL hg BK305.out); have n6_ := m_ (nG hg BK305.out); clear BK305; clear HB; have BK305 := n0_; have HB := n1_; have BK306 := n2_; have GW306 := n3_; have GE306 := n4_; have NB305_306 := n5_; have NB306_305 := n6_; clear n0_ n1_ n2_ n3_ n4_ n5_ n6_; clear hb hbox hg; have hnb7 := NB305_306.out; have hnc7 := NB306_305.out; have hcz8_0 : w6.cell? ⟨gb305, 0, none⟩ = some (.int .i64 a0_0) := bc BK305 0; have hcz8_1 : w6.cell? ⟨gb305, 1, none⟩ = some (.bool a0_1) := bc BK305 1; have hcz8_2 : w6.cell? ⟨gb305, 2, none⟩ = some (.string a0_2) := bc BK305 2; have hfz8_0 := blk_frozen BK305.out 0; have hfz8_1 := blk_frozen BK305.out 1; have hfz8_2 := blk_frozen BK305.out 2; have hcz9_0 : w6.cell? ⟨gb306, 0, none⟩ = some (.int .i64 a1_0) := bc BK306 0; have hcz9_1 : w6.cell? ⟨gb306, 1, none⟩ = some (.bool a1_1) := bc BK306 1; have hcz9_2 : w6.cell? ⟨gb306, 2, none⟩ = some (.string a1_2) := bc BK306 2; have hfz9_0 := blk_frozen BK306.out 0; have hfz9_1 := blk_frozen BK306.out 1; have hfz9_2 := blk_frozen BK306.out 2))
   go_ret
   exact ⟨by first | rfl | (simp [errW_none, errW_some] <;> rfl) | (simp [*, errW_none, errW_some] <;> rfl), by repeat (first | (with_reducible first | exact HB.out | apply below_alloc | apply pw_below_drewN | apply below_drew1 | refine below_set ?_ GE305.out | refine below_set ?_ GE306.out) | exact HB.out)⟩
  ·rw [if_neg c4] at H
   have c4b0 : (a0_1 != a1_1) = false := by simpa using c4
   (try (have c4b1 : decide (a0_1 = a1_1) = true := by simpa using c4))
   (try (have c4b2 : (a0_1 == a1_1) = true := by simpa using c4))
   clear c4
   by_cases c10 : a0_2.toList = a1_2.toList
   ·rw [if_pos c10] at H
    have c10b0 : (a0_2.toList == a1_2.toList) = true := beq_iff_eq.mpr c10
    have c10b1 : (a0_2.toList != a1_2.toList) = false := bne_eq_false_iff_eq.mpr c10
    clear c10
    obtain rfl := Option.some.inj H
    go_enter Tryd.func10, Tryd.ntmps10
    go_wp2_with (first | ((with_reducible refine gate_dst (N := 2) rfl ?_); refine box_event ?hg (N := 2) ?hd (cs := #[.int .i64 a0_0, .bool a0_1, .string a0_2]) (t := 28) ?hr ?_; (case hd => rfl); (case hg => rfl); (case hr => first | (go_simp; done) | (go_simp; rfl)); intro gb305 hg w11 hbox hb; have n0_ := m_ (below_step (bN HB.out) hb); have n1_ := m_ (hbox); have n2_ := m_ ((by rw [hg]; exact (below_size (bN HB.out)) : w.heap.size ≤ gb305)); have n3_ := m_ ((by rw [hg]; exact (below_size (bN HB.out)) : w.heap.size ≤ gb305)); clear HB; have HB := n0_; have BK305 := n1_; have GW305 := n2_; have GE305 := n3_; clear n0_ n1_ n2_ n3_; clear hb hbox hg) | ((with_reducible refine gate_dst (N := 3) rfl ?_); refine box_event ?hg (N := 3) ?hd (cs := #[.int .i64 a1_0, .bool a1_1, .string a1_2]) (t := 28) ?hr ?_; (case hd => rfl); (case hg => rfl); (case hr => first | (go_simp; done) | (go_simp; rfl)); intro gb306 hg w12 hbox hb; have n0_ := m_ (blk_below (kN BK305.out) hb); have n1_ := m_ (below_step (bN HB.out) hb); have n2_ := m_ (hbox); have n3_ := m_ ((by rw [hg]; exact (below_size (bN HB.out)) : w.heap.size ≤ gb306)); have n4_ := m_ ((by rw [hg]; exact (below_size (bN HB.out)) : w.heap.size ≤ gb306)); have n5_ := m_ (nL hg BK305.out); have n6_ := m_ (nG hg BK305.out); clear BK305; clear HB; have BK305 := n0_; have HB := n1_; have BK306 := n2_; have GW306 := n3_; have GE306 := n4_; have NB305_306 := n5_; have NB306_305 := n6_; clear n0_ n1_ n2_ n3_ n4_ n5_ n6_; clear hb hbox hg; have hnb13 := NB305_306.out; have hnc13 := NB306_305.out; have hcz14_0 : w12.cell? ⟨gb305, 0, none⟩ = some (.int .i64 a0_0) := bc BK305 0; have hcz14_1 : w12.cell? ⟨gb305, 1, none⟩ = some (.bool a0_1) := bc BK305 1; have hcz14_2 : w12.cell? ⟨gb305, 2, none⟩ = some (.string a0_2) := bc BK305 2; have hfz14_0 := blk_frozen BK305.out 0; have hfz14_1 := blk_frozen BK305.out 1; have hfz14_2 := blk_frozen BK305.out 2; have hcz15_0 : w12.cell? ⟨gb306, 0, none⟩ = some (.int .i64 a1_0) := bc BK306 0; have hcz15_1 : w12.cell? ⟨gb306, 1, none⟩ = some (.bool a1_1) := bc BK306 1; have hcz15_2 : w12.cell? ⟨gb306, 2, none⟩ = some (.string a1_2) := bc BK306 2; have hfz15_0 := blk_frozen BK306.out 0; have hfz15_1 := blk_frozen BK306.out 1; have hfz15_2 := blk_frozen BK306.out 2))
    go_ret
    exact ⟨by first | rfl | (simp [errW_none, errW_some] <;> rfl) | (simp [*, errW_none, errW_some] <;> rfl), by repeat (first | (with_reducible first | exact HB.out | apply below_alloc | apply pw_below_drewN | apply below_drew1 | refine below_set ?_ GE305.out | refine below_set ?_ GE306.out) | exact HB.out)⟩
   ·rw [if_neg c10] at H
    have c10b0 : (a0_2.toList == a1_2.toList) = false := beq_eq_false_iff_ne.mpr c10
    have c10b1 : (a0_2.toList != a1_2.toList) = true := bne_iff_ne.mpr c10
    obtain rfl := Option.some.inj H
    go_enter Tryd.func10, Tryd.ntmps10
    go_wp2_with (first | ((with_reducible refine gate_dst (N := 2) rfl ?_); refine box_event ?hg (N := 2) ?hd (cs := #[.int .i64 a0_0, .bool a0_1, .string a0_2]) (t := 28) ?hr ?_; (case hd => rfl); (case hg => rfl); (case hr => first | (go_simp; done) | (go_simp; rfl)); intro gb305 hg w16 hbox hb; have n0_ := m_ (below_step (bN HB.out) hb); have n1_ := m_ (hbox); have n2_ := m_ ((by rw [hg]; exact (below_size (bN HB.out)) : w.heap.size ≤ gb305)); have n3_ := m_ ((by rw [hg]; exact (below_size (bN HB.out)) : w.heap.size ≤ gb305)); clear HB; have HB := n0_; have BK305 := n1_; have GW305 := n2_; have GE305 := n3_; clear n0_ n1_ n2_ n3_; clear hb hbox hg) | ((with_reducible refine gate_dst (N := 3) rfl ?_); refine box_event ?hg (N := 3) ?hd (cs := #[.int .i64 a1_0, .bool a1_1, .string a1_2]) (t := 28) ?hr ?_; (case hd => rfl); (case hg => rfl); (case hr => first | (go_simp; done) | (go_simp; rfl)); intro gb306 hg w17 hbox hb; have n0_ := m_ (blk_below (kN BK305.out) hb); have n1_ := m_ (below_step (bN HB.out) hb); have n2_ := m_ (hbox); have n3_ := m_ ((by rw [hg]; exact (below_size (bN HB.out)) : w.heap.size ≤ gb306)); have n4_ := m_ ((by rw [hg]; exact (below_size (bN HB.out)) : w.heap.size ≤ gb306)); have n5_ := m_ (nL hg BK305.out); have n6_ := m_ (nG hg BK305.out); clear BK305; clear HB; have BK305 := n0_; have HB := n1_; have BK306 := n2_; have GW306 := n3_; have GE306 := n4_; have NB305_306 := n5_; have NB306_305 := n6_; clear n0_ n1_ n2_ n3_ n4_ n5_ n6_; clear hb hbox hg; have hnb18 := NB305_306.out; have hnc18 := NB306_305.out; have hcz19_0 : w17.cell? ⟨gb305, 0, none⟩ = some (.int .i64 a0_0) := bc BK305 0; have hcz19_1 : w17.cell? ⟨gb305, 1, none⟩ = some (.bool a0_1) := bc BK305 1; have hcz19_2 : w17.cell? ⟨gb305, 2, none⟩ = some (.string a0_2) := bc BK305 2; have hfz19_0 := blk_frozen BK305.out 0; have hfz19_1 := blk_frozen BK305.out 1; have hfz19_2 := blk_frozen BK305.out 2; have hcz20_0 : w17.cell? ⟨gb306, 0, none⟩ = some (.int .i64 a1_0) := bc BK306 0; have hcz20_1 : w17.cell? ⟨gb306, 1, none⟩ = some (.bool a1_1) := bc BK306 1; have hcz20_2 : w17.cell? ⟨gb306, 2, none⟩ = some (.string a1_2) := bc BK306 2; have hfz20_0 := blk_frozen BK306.out 0; have hfz20_1 := blk_frozen BK306.out 1; have hfz20_2 := blk_frozen BK306.out 2))
    go_ret
    exact ⟨by first | rfl | (simp [errW_none, errW_some] <;> rfl) | (simp [*, errW_none, errW_some] <;> rfl), by repeat (first | (with_reducible first | exact HB.out | apply below_alloc | apply pw_below_drewN | apply below_drew1 | refine below_set ?_ GE305.out | refine below_set ?_ GE306.out) | exact HB.out)⟩
 ·rw [if_neg c3] at H
  have c3b0 : (a0_0 == a1_0) = false := beq_eq_false_iff_ne.mpr c3
  have c3b1 : (a0_0 != a1_0) = true := bne_iff_ne.mpr c3
  obtain rfl := Option.some.inj H
  go_enter Tryd.func10, Tryd.ntmps10
  go_wp2_with (first | ((with_reducible refine gate_dst (N := 2) rfl ?_); refine box_event ?hg (N := 2) ?hd (cs := #[.int .i64 a0_0, .bool a0_1, .string a0_2]) (t := 28) ?hr ?_; (case hd => rfl); (case hg => rfl); (case hr => first | (go_simp; done) | (go_simp; rfl)); intro gb305 hg w21 hbox hb; have n0_ := m_ (below_step (bN HB.out) hb); have n1_ := m_ (hbox); have n2_ := m_ ((by rw [hg]; exact (below_size (bN HB.out)) : w.heap.size ≤ gb305)); have n3_ := m_ ((by rw [hg]; exact (below_size (bN HB.out)) : w.heap.size ≤ gb305)); clear HB; have HB := n0_; have BK305 := n1_; have GW305 := n2_; have GE305 := n3_; clear n0_ n1_ n2_ n3_; clear hb hbox hg) | ((with_reducible refine gate_dst (N := 3) rfl ?_); refine box_event ?hg (N := 3) ?hd (cs := #[.int .i64 a1_0, .bool a1_1, .string a1_2]) (t := 28) ?hr ?_; (case hd => rfl); (case hg => rfl); (case hr => first | (go_simp; done) | (go_simp; rfl)); intro gb306 hg w22 hbox hb; have n0_ := m_ (blk_below (kN BK305.out) hb); have n1_ := m_ (below_step (bN HB.out) hb); have n2_ := m_ (hbox); have n3_ := m_ ((by rw [hg]; exact (below_size (bN HB.out)) : w.heap.size ≤ gb306)); have n4_ := m_ ((by rw [hg]; exact (below_size (bN HB.out)) : w.heap.size ≤ gb306)); have n5_ := m_ (nL hg BK305.out); have n6_ := m_ (nG hg BK305.out); clear BK305; clear HB; have BK305 := n0_; have HB := n1_; have BK306 := n2_; have GW306 := n3_; have GE306 := n4_; have NB305_306 := n5_; have NB306_305 := n6_; clear n0_ n1_ n2_ n3_ n4_ n5_ n6_; clear hb hbox hg; have hnb23 := NB305_306.out; have hnc23 := NB306_305.out; have hcz24_0 : w22.cell? ⟨gb305, 0, none⟩ = some (.int .i64 a0_0) := bc BK305 0; have hcz24_1 : w22.cell? ⟨gb305, 1, none⟩ = some (.bool a0_1) := bc BK305 1; have hcz24_2 : w22.cell? ⟨gb305, 2, none⟩ = some (.string a0_2) := bc BK305 2; have hfz24_0 := blk_frozen BK305.out 0; have hfz24_1 := blk_frozen BK305.out 1; have hfz24_2 := blk_frozen BK305.out 2; have hcz25_0 : w22.cell? ⟨gb306, 0, none⟩ = some (.int .i64 a1_0) := bc BK306 0; have hcz25_1 : w22.cell? ⟨gb306, 1, none⟩ = some (.bool a1_1) := bc BK306 1; have hcz25_2 : w22.cell? ⟨gb306, 2, none⟩ = some (.string a1_2) := bc BK306 2; have hfz25_0 := blk_frozen BK306.out 0; have hfz25_1 := blk_frozen BK306.out 1; have hfz25_2 := blk_frozen BK306.out 2))
  go_ret
  exact ⟨by first | rfl | (simp [errW_none, errW_some] <;> rfl) | (simp [*, errW_none, errW_some] <;> rfl), by repeat (first | (with_reducible first | exact HB.out | apply below_alloc | apply pw_below_drewN | apply below_drew1 | refine below_set ?_ GE305.out | refine below_set ?_ GE306.out) | exact HB.out)⟩

/-! ### laws_eqStringS: function 11 -/
def laws_eqStringS.l0 : Nat → List ByteArray → List ByteArray → Int → Option (Bool)
 | 0, _, _, _ => none
 | k + 1, x0, x1, x5 => if x5 < (x0.length : Int) then (if 0 ≤ x5 then (if x5 < (x1.length : Int) then (if (rdOf ByteArray.empty x0 x5).toList = (rdOf ByteArray.empty x1 x5).toList then (laws_eqStringS.l0 k x0 x1 (wrap64 (x5 + 1))) else (some false)) else (none)) else (none)) else (some true)
def laws_eqStringS.f (k : Nat) (l0 : List ByteArray) (l1 : List ByteArray) : Option (Bool) := if (l0.length : Int) = (l1.length : Int) then (laws_eqStringS.l0 k l0 l1 0) else (some false)
theorem laws_eqStringS.mono_l : ∀ k, (∀ y0 y1 y2, LeO (laws_eqStringS.l0 k y0 y1 y2) (laws_eqStringS.l0 (k + 1) y0 y1 y2))
 | 0 => fun _ _ _ r h => by simp [laws_eqStringS.l0] at h
 | k + 1 => by
  have ih0 := laws_eqStringS.mono_l k
  ·intro y0 y1 y2
   unfold laws_eqStringS.l0
   repeat' first
   | (with_reducible exact ih0 _ _ _)
   | (with_reducible exact LeO.refl _)
   | (with_reducible exact LeO.none _)
   | (with_reducible refine LeO.ite ?_ ?_)
   | (with_reducible refine LeO.bind ?_ (fun _ => ?_))
   | exact ih0 _ _ _
   | exact LeO.none _
   | refine LeO.ite ?_ ?_
   | refine LeO.bind ?_ (fun _ => ?_)
theorem laws_eqStringS.mono : ∀ a0 a1 k, LeO (laws_eqStringS.f k a0 a1) (laws_eqStringS.f (k + 1) a0 a1) := by
 intro a0 a1 k
 have ih0 := laws_eqStringS.mono_l k
 unfold laws_eqStringS.f
 repeat' first
   | (with_reducible exact ih0 _ _ _)
   | (with_reducible exact LeO.refl _)
   | (with_reducible exact LeO.none _)
   | (with_reducible refine LeO.ite ?_ ?_)
   | (with_reducible refine LeO.bind ?_ (fun _ => ?_))
   | exact ih0 _ _ _
   | exact LeO.none _
   | refine LeO.ite ?_ ?_
   | refine LeO.bind ?_ (fun _ => ?_)
set_option maxHeartbeats 8000000 in
set_option maxRecDepth 100000 in
theorem laws_eqStringS.calls (k : Nat) (A0 : Option Addr) (c0 : Nat) (l0 : List ByteArray) (A1 : Option Addr) (c1 : Nat) (l1 : List ByteArray) (r : Bool) (w : World) (hr0 : Kd.C Kd.string w A0 l0.length l0) (hc0 : l0.length ≤ c0) (hr1 : Kd.C Kd.string w A1 l1.length l1) (hc1 : l1.length ≤ c1) (h : laws_eqStringS.f k l0 l1 = some r) :
  Calls Tryd.prog 11 #[.slice A0 l0.length c0, .slice A1 l1.length c1] w fun e w' => e = .returned (.bool r) ∧ Drawn0 w w' := by
 have HR0 := Aside0.mk hr0
 have HC0 := Aside0.mk hc0
 clear hr0 hc0
 have HR1 := Aside0.mk hr1
 have HC1 := Aside0.mk hc1
 clear hr1 hc1
 have H : (if (l0.length : Int) = (l1.length : Int) then (laws_eqStringS.l0 k l0 l1 0) else (some false)) = some r := h
 clear h
 by_cases c3 : (l0.length : Int) = (l1.length : Int)
 ·rw [if_pos c3] at H
  have c3b0 : ((l0.length : Int) == (l1.length : Int)) = true := beq_iff_eq.mpr c3
  have c3b1 : ((l0.length : Int) != (l1.length : Int)) = false := bne_eq_false_iff_eq.mpr c3
  have c3b2 : (l0.length == l1.length) = true := by first | simpa using c3 | (simp at c3 ⊢; omega)
  clear c3
  have H' := Aside0.mk H
  clear H
  go_enter Tryd.func11, Tryd.ntmps11
  go_wp2
  repeat (go_quiet (fail); try go_wp2)
  go_loopg [5] k (fun kq v5 w' => ∃ (x5_1 : Int), v5 = .int .i64 x5_1 ∧ Aside0 (laws_eqStringS.l0 kq l0 l1 x5_1 = some r) ∧ Aside0 (kq ≤ k) ∧ Drawn0 w w')
  case atStart => exact ⟨(0), (by first | rfl | (simp; done) | (simp [*]; done)), H', ⟨Nat.le_refl _⟩, by repeat (first | exact Drawn0.refl _ | apply Drawn0.step)⟩
  case round =>
   clear H'
   try clear c1
   try clear p2
   try clear c3
   try clear c3b0
   try clear c3b1
   try clear c3b2
   obtain ⟨x5_1, rfl, HA, HK1, ⟨m1, rfl⟩⟩ := hrel
   cases gk with
   | zero => exact absurd HA.out (by simp [laws_eqStringS.l0])
   | succ k1 =>
    have H := HA.out
    clear HA
    simp only [laws_eqStringS.l0] at H
    by_cases c4 : x5_1 < (l0.length : Int)
    ·rw [if_pos c4] at H
     have c4b0 : decide (x5_1 < (l0.length : Int)) = true := decide_eq_true c4
     clear c4
     by_cases c5 : 0 ≤ x5_1
     ·rw [if_pos c5] at H
      have c5b0 : decide (0 ≤ x5_1) = true := decide_eq_true c5
      clear c5
      by_cases c6 : x5_1 < (l1.length : Int)
      ·rw [if_pos c6] at H
       have c6b0 : decide (x5_1 < (l1.length : Int)) = true := decide_eq_true c6
       clear c6
       by_cases c7 : (rdOf ByteArray.empty l0 x5_1).toList = (rdOf ByteArray.empty l1 x5_1).toList
       ·rw [if_pos c7] at H
        have c7b0 : ((rdOf ByteArray.empty l0 x5_1).toList == (rdOf ByteArray.empty l1 x5_1).toList) = true := beq_iff_eq.mpr c7
        have c7b1 : ((rdOf ByteArray.empty l0 x5_1).toList != (rdOf ByteArray.empty l1 x5_1).toList) = false := bne_eq_false_iff_eq.mpr c7
        clear c7
        have H' := Aside0.mk H
        clear H
        have p307 : 0 ≤ (x5_1 : Int) := of_decide_eq_true (by first | (with_reducible assumption) | assumption)
        have q307 : x5_1 < (l0.length : Int) := of_decide_eq_true (by first | (with_reducible assumption) | assumption)
        obtain ⟨ad307, e307, hx307_0⟩ := Kd.at_string HR0.out x5_1 p307 q307
        cases e307
        replace p307 := eq_true p307
        replace q307 := eq_true q307
        have p308 : 0 ≤ (x5_1 : Int) := of_decide_eq_true (by first | (with_reducible assumption) | assumption)
        have q308 : x5_1 < (l1.length : Int) := of_decide_eq_true (by first | (with_reducible assumption) | assumption)
        obtain ⟨ad308, e308, hx308_0⟩ := Kd.at_string HR1.out x5_1 p308 q308
        cases e308
        replace p308 := eq_true p308
        replace q308 := eq_true q308
        go_wp2
        repeat (go_quiet (fail); try go_wp2)
        go_roundg k1
        case measure => have := HK1.out; omega
        case rel => exact ⟨(wrap64 (x5_1 + 1)), (by first | rfl | (simp; done) | (simp [*]; done)), H', ⟨by have := HK1.out; omega⟩, by repeat (first | exact Drawn0.refl _ | apply Drawn0.step)⟩
       ·rw [if_neg c7] at H
        have c7b0 : ((rdOf ByteArray.empty l0 x5_1).toList == (rdOf ByteArray.empty l1 x5_1).toList) = false := beq_eq_false_iff_ne.mpr c7
        have c7b1 : ((rdOf ByteArray.empty l0 x5_1).toList != (rdOf ByteArray.empty l1 x5_1).toList) = true := bne_iff_ne.mpr c7
        obtain rfl := Option.some.inj H
        have p307 : 0 ≤ (x5_1 : Int) := of_decide_eq_true (by first | (with_reducible assumption) | assumption)
        have q307 : x5_1 < (l0.length : Int) := of_decide_eq_true (by first | (with_reducible assumption) | assumption)
        obtain ⟨ad307, e307, hx307_0⟩ := Kd.at_string HR0.out x5_1 p307 q307
        cases e307
        replace p307 := eq_true p307
        replace q307 := eq_true q307
        have p308 : 0 ≤ (x5_1 : Int) := of_decide_eq_true (by first | (with_reducible assumption) | assumption)
        have q308 : x5_1 < (l1.length : Int) := of_decide_eq_true (by first | (with_reducible assumption) | assumption)
        obtain ⟨ad308, e308, hx308_0⟩ := Kd.at_string HR1.out x5_1 p308 q308
        cases e308
        replace p308 := eq_true p308
        replace q308 := eq_true q308
        go_wp2
        repeat (go_quiet (fail); try go_wp2)
        go_ret
        exact ⟨by first | rfl | (simp; done) | (simp [*]; done), by repeat (first | exact Drawn0.refl _ | apply Drawn0.step)⟩
      ·rw [if_neg c6] at H
       exact absurd H (by simp)
     ·rw [if_neg c5] at H
      exact absurd H (by simp)
    ·rw [if_neg c4] at H
     have c4b0 : decide (x5_1 < (l0.length : Int)) = false := decide_eq_false c4
     clear c4
     obtain rfl := Option.some.inj H
     go_wp2
     repeat (go_quiet (fail); try go_wp2)
     go_ret
     exact ⟨by first | rfl | (simp; done) | (simp [*]; done), by repeat (first | exact Drawn0.refl _ | apply Drawn0.step)⟩
 ·rw [if_neg c3] at H
  have c3b0 : ((l0.length : Int) == (l1.length : Int)) = false := beq_eq_false_iff_ne.mpr c3
  have c3b1 : ((l0.length : Int) != (l1.length : Int)) = true := bne_iff_ne.mpr c3
  have c3b2 : (l0.length == l1.length) = false := by first | simpa using c3 | (simp at c3 ⊢; omega)
  obtain rfl := Option.some.inj H
  go_enter Tryd.func11, Tryd.ntmps11
  go_wp2
  repeat (go_quiet (fail); try go_wp2)
  go_ret
  exact ⟨by first | rfl | (simp; done) | (simp [*]; done), by repeat (first | exact Drawn0.refl _ | apply Drawn0.step)⟩

/-! ### laws_markText: function 20 -/
def laws_markText.l0 : Nat → Int → ByteArray → Option (ByteArray)
 | 0, _, _ => none
 | k + 1, x0, x3 => if x0 > 0 then ((some (([(wrap64 (48 + (Int.tmod x0 10))) % 256] : List Int) : List Int)).bind fun y309 => (if (strOfNums y309).size + x3.size ≤ 9223372036854775807 then (laws_markText.l0 k (wrap64 (Int.tdiv x0 10)) ((strOfNums y309) ++ x3)) else (none))) else (if 1 + x3.size ≤ 9223372036854775807 then (some ((⟨#[109]⟩ : ByteArray) ++ x3)) else (none))
def laws_markText.f (k : Nat) (a0 : Int) : Option (ByteArray) := if a0 ≤ 0 then (some (⟨#[109, 48]⟩ : ByteArray)) else (laws_markText.l0 k a0 (⟨#[]⟩ : ByteArray))
theorem laws_markText.mono_l : ∀ k, (∀ y0 y1, LeO (laws_markText.l0 k y0 y1) (laws_markText.l0 (k + 1) y0 y1))
 | 0 => fun _ _ r h => by simp [laws_markText.l0] at h
 | k + 1 => by
  have ih0 := laws_markText.mono_l k
  ·intro y0 y1
   unfold laws_markText.l0
   repeat' first
   | (with_reducible exact ih0 _ _)
   | (with_reducible exact LeO.refl _)
   | (with_reducible exact LeO.none _)
   | (with_reducible refine LeO.ite ?_ ?_)
   | (with_reducible refine LeO.bind ?_ (fun _ => ?_))
   | exact ih0 _ _
   | exact LeO.none _
   | refine LeO.ite ?_ ?_
   | refine LeO.bind ?_ (fun _ => ?_)
theorem laws_markText.mono : ∀ a0 k, LeO (laws_markText.f k a0) (laws_markText.f (k + 1) a0) := by
 intro a0 k
 have ih0 := laws_markText.mono_l k
 unfold laws_markText.f
 repeat' first
   | (with_reducible exact ih0 _ _)
   | (with_reducible exact LeO.refl _)
   | (with_reducible exact LeO.none _)
   | (with_reducible refine LeO.ite ?_ ?_)
   | (with_reducible refine LeO.bind ?_ (fun _ => ?_))
   | exact ih0 _ _
   | exact LeO.none _
   | refine LeO.ite ?_ ?_
   | refine LeO.bind ?_ (fun _ => ?_)
set_option maxHeartbeats 8000000 in
set_option maxRecDepth 100000 in
theorem laws_markText.calls (k : Nat) (a0 : Int) (r : ByteArray) (w : World) (h : laws_markText.f k a0 = some r) :
  Calls Tryd.prog 20 #[.int .i64 a0] w fun e w' => e = .returned (.string r) ∧ Below w.heap.size w w' := by
 have HB := m_ (Below.refl w.heap.size w)
 have H : (if a0 ≤ 0 then (some (⟨#[109, 48]⟩ : ByteArray)) else (laws_markText.l0 k a0 (⟨#[]⟩ : ByteArray))) = some r := h
 clear h
 by_cases c2 : a0 ≤ 0
 ·rw [if_pos c2] at H
  have c2b0 : decide (a0 ≤ 0) = true := decide_eq_true c2
  clear c2
  obtain rfl := Option.some.inj H
  go_enter Tryd.func20, Tryd.ntmps20
  go_wp2
  go_ret
  exact ⟨by first | rfl | (simp [errW_none, errW_some] <;> rfl) | (simp [*, errW_none, errW_some] <;> rfl), by repeat (first | (with_reducible first | exact HB.out | apply below_alloc | apply pw_below_drewN | apply below_drew1) | exact HB.out)⟩
 ·rw [if_neg c2] at H
  have c2b0 : decide (a0 ≤ 0) = false := decide_eq_false c2
  clear c2
  have H' := Aside0.mk H
  clear H
  go_enter Tryd.func20, Tryd.ntmps20
  go_wp2
  go_loopg [0, 3] k (fun kq v0 v3 w' => ∃ (x0_1 : Int) (x3_1 : ByteArray), v0 = .int .i64 x0_1 ∧ v3 = .string x3_1 ∧ Aside0 (laws_markText.l0 kq x0_1 x3_1 = some r) ∧ Aside0 (kq ≤ k) ∧ Aside0 (Below w.heap.size w w'))
  case atStart => exact ⟨(a0), ((⟨#[]⟩ : ByteArray)), (by first | rfl | (simp; done) | (simp [*]; done)), (by first | rfl | (simp; done) | (simp [*]; done)), H', ⟨Nat.le_refl _⟩, ⟨by repeat (first | (with_reducible first | exact HB.out | apply below_alloc | apply pw_below_drewN | apply below_drew1) | exact HB.out)⟩⟩
  case round =>
   clear H'
   try clear c2
   try clear c2b0
   try clear p2
   obtain ⟨x0_1, x3_1, rfl, rfl, HA, HK1, HB⟩ := hrel
   cases gk with
   | zero => exact absurd HA.out (by simp [laws_markText.l0])
   | succ k1 =>
    have H := HA.out
    clear HA
    simp only [laws_markText.l0] at H
    by_cases c3 : x0_1 > 0
    ·rw [if_pos c3] at H
     have c3b0 : decide (0 < x0_1) = true := decide_eq_true c3
     clear c3
     obtain ⟨y309, hy309⟩ : ∃ y_ : List Int, y_ = (([(wrap64 (48 + (Int.tmod x0_1 10))) % 256] : List Int)) := ⟨_, rfl⟩
     replace H : (if (strOfNums y309).size + x3_1.size ≤ 9223372036854775807 then (laws_markText.l0 k1 (wrap64 (Int.tdiv x0_1 10)) ((strOfNums y309) ++ x3_1)) else (none)) = some r := by first | (rw [hy309]; with_reducible exact H) | (have H2_ := (Option.bind_some _ _).symm.trans H; rw [hy309]; with_reducible exact H2_) | (have H2_ := (Option.bind_some _ _).symm.trans H; with_reducible exact H2_) | with_reducible exact H | (rw [hy309]; exact H) | exact H
     have Ny309 := Aside0.mk hy309
     clear hy309
     by_cases c4 : (strOfNums y309).size + x3_1.size ≤ 9223372036854775807
     ·rw [if_pos c4] at H
      have c4b0 := eq_true c4
      have c4b1 : decide ((strOfNums y309).size + x3_1.size ≤ 9223372036854775807) = true := decide_eq_true c4
      try have c4b2 : (9223372036854775807 < (strOfNums y309).size + x3_1.size) = False := eq_false (Nat.not_lt.2 c4)
      have H' := Aside0.mk H
      clear H
      go_wp2_with (first | ((with_reducible refine gate_dst (N := 12) rfl ?_); refine Kd.R_lit (Kd.int .u8) _ 5 ?hg (N := 12) ?hd (xs := ([(wrap64 (48 + (Int.tmod x0_1 10))) % 256] : List Int)) (inner := [.int .u8 ((wrap64 (48 + (Int.tmod x0_1 10))) % 256)]) (ok := fun _ => True) (okp := fun _ => True) ?hr ?hp (fun _ hk => hk) trivial (Below.refl _ _) (Nat.le_refl _) (by simp) ?_; (case hd => rfl); (case hg => rfl); (case hr => first | (go_simp; done) | (go_simp; rfl)); (case hp => exact (Reps.one (show Kd.M (Kd.int .u8) _ _ _ ((wrap64 (48 + (Int.tmod x0_1 10))) % 256) [.int .u8 ((wrap64 (48 + (Int.tmod x0_1 10))) % 256)] from rfl) (Reps.none _ _))); intro v310 w5 ho6 hb hg_ hnew_; clear hg_ hnew_; (first | rw [← Ny309.out] at ho6 | (simp only [Int.reduceToNat] at ho6; rw [← Ny309.out] at ho6)); have n0_ := m_ (Kd.R_lower ho6 (below_size (bN HB.out))); have n1_ := m_ (below_step (bN HB.out) hb); clear HB; have HO311 := n0_; have HB := n1_; clear n0_ n1_; clear hb ho6; have hcv7 := own_string (P := Tryd.prog) Tryd.underlying61 Tryd.underlying5 Tryd.underlying9 (Kd.own_of_R HO311.out)))
      go_roundg k1
      case measure => have := HK1.out; omega
      case rel => exact ⟨(wrap64 (Int.tdiv x0_1 10)), ((strOfNums y309) ++ x3_1), (by first | rfl | (simp; done) | (simp [*]; done)), (by first | rfl | (simp; done) | (simp [*]; done)), H', ⟨by have := HK1.out; omega⟩, ⟨by repeat (first | (with_reducible first | exact HB.out | apply below_alloc | apply pw_below_drewN | apply below_drew1) | exact HB.out)⟩⟩
     ·rw [if_neg c4] at H
      exact absurd H (by simp)
    ·rw [if_neg c3] at H
     have c3b0 : decide (0 < x0_1) = false := decide_eq_false c3
     clear c3
     by_cases c8 : 1 + x3_1.size ≤ 9223372036854775807
     ·rw [if_pos c8] at H
      have c8b0 := eq_true c8
      have c8b1 : decide (1 + x3_1.size ≤ 9223372036854775807) = true := decide_eq_true c8
      try have c8b2 : (9223372036854775807 < 1 + x3_1.size) = False := eq_false (Nat.not_lt.2 c8)
      obtain rfl := Option.some.inj H
      go_wp2
      go_ret
      exact ⟨by first | rfl | (simp [errW_none, errW_some] <;> rfl) | (simp [*, errW_none, errW_some] <;> rfl), by repeat (first | (with_reducible first | exact HB.out | apply below_alloc | apply pw_below_drewN | apply below_drew1) | exact HB.out)⟩
     ·rw [if_neg c8] at H
      exact absurd H (by simp)

end Go.Proofs.YtbldbjfmibhffaaDoor.P
