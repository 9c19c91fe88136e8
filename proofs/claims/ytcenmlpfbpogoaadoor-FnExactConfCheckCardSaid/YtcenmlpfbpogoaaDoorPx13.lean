/- The machine side of these statements, function by function: what each Go function answers (as a Lean function), and that it does. Written by a program (mp.py) for this claim. -/
import Derived.Test.YtcenmlpfbpogoaaDoorPx0
import Derived.Test.YtcenmlpfbpogoaaDoorPx1
import Derived.Test.YtcenmlpfbpogoaaDoorPx2
import Derived.Test.YtcenmlpfbpogoaaDoorPx3
import Derived.Test.YtcenmlpfbpogoaaDoorPx8
import Derived.Test.YtcenmlpfbpogoaaDoorPx12
namespace Go.Proofs.YtcenmlpfbpogoaaDoor.P
open Go.RowKit Go.Proofs.YtcenmlpfbpogoaaDoorW.PrintWords Go.Proofs.YtcenmlpfbpogoaaDoorW.PrintLast Go.Proofs.YtcenmlpfbpogoaaDoorW.PrintMore
attribute [local go_sem] max2_int min2_int max_two min_two max_three min_three max_four min_four   -- for this text's walks alone
set_option linter.unusedVariables false
set_option linter.unusedSimpArgs false

/-! ### laws_FnExactConfCheck: function 7 -/
def laws_FnExactConfCheck.f (k : Nat) (a0_0 : Int) (a0_1 : Int) (l0_2 : List (List (S109))) (l0_3 : List Int) (l0_4 : List Int) (l0_5 : List Int) (l0_6 : List Int) (l0_7 : List Int) (l0_8 : List (S80)) (a0_9 : Int) : Option (Bool) := (laws_szConf.f k a0_0 a0_1 l0_2 l0_3 l0_4 l0_5 l0_6 l0_7 l0_8 a0_9 1048576).bind fun t283 => (if t283 < 0 then (some true) else ((laws_toConf.f k a0_0 a0_1 l0_2 l0_3 l0_4 l0_5 l0_6 l0_7 l0_8 a0_9).bind fun bt284 => ((spec_ConfCheck.f k bt284.1 bt284.2.1 bt284.2.2.1 bt284.2.2.2.1 bt284.2.2.2.2.1 bt284.2.2.2.2.2.1 bt284.2.2.2.2.2.2.1 bt284.2.2.2.2.2.2.2.1 bt284.2.2.2.2.2.2.2.2.1 bt284.2.2.2.2.2.2.2.2.2).bind fun t308 => ((laws_toConf.f k a0_0 a0_1 l0_2 l0_3 l0_4 l0_5 l0_6 l0_7 l0_8 a0_9).bind fun bt309 => ((impl_ConfCheck.f k bt309.1 bt309.2.1 bt309.2.2.1 bt309.2.2.2.1 bt309.2.2.2.2.1 bt309.2.2.2.2.2.1 bt309.2.2.2.2.2.2.1 bt309.2.2.2.2.2.2.2.1 bt309.2.2.2.2.2.2.2.2.1 bt309.2.2.2.2.2.2.2.2.2).bind fun t334 => (if t334 = t308 then ((laws_toConf.f k a0_0 a0_1 l0_2 l0_3 l0_4 l0_5 l0_6 l0_7 l0_8 a0_9).bind fun bt335 => ((laws_eqConf.f k bt309.1 bt309.2.1 bt309.2.2.1 bt309.2.2.2.1 bt309.2.2.2.2.1 bt309.2.2.2.2.2.1 bt309.2.2.2.2.2.2.1 bt309.2.2.2.2.2.2.2.1 bt309.2.2.2.2.2.2.2.2.1 bt309.2.2.2.2.2.2.2.2.2 bt335.1 bt335.2.1 bt335.2.2.1 bt335.2.2.2.1 bt335.2.2.2.2.1 bt335.2.2.2.2.2.1 bt335.2.2.2.2.2.2.1 bt335.2.2.2.2.2.2.2.1 bt335.2.2.2.2.2.2.2.2.1 bt335.2.2.2.2.2.2.2.2.2).bind fun t359 => (if t359 = true then (some true) else (none)))) else (none)))))))
theorem laws_FnExactConfCheck.mono : ∀ a0 a1 a2 a3 a4 a5 a6 a7 a8 a9 k, LeO (laws_FnExactConfCheck.f k a0 a1 a2 a3 a4 a5 a6 a7 a8 a9) (laws_FnExactConfCheck.f (k + 1) a0 a1 a2 a3 a4 a5 a6 a7 a8 a9) := by
 intro a0 a1 a2 a3 a4 a5 a6 a7 a8 a9 k
 unfold laws_FnExactConfCheck.f
 repeat' first
   | (with_reducible exact impl_ConfCheck.mono _ _ _ _ _ _ _ _ _ _ _)
   | (with_reducible exact laws_eqConf.mono _ _ _ _ _ _ _ _ _ _ _ _ _ _ _ _ _ _ _ _ _)
   | (with_reducible exact laws_szConf.mono _ _ _ _ _ _ _ _ _ _ _ _)
   | (with_reducible exact laws_toConf.mono _ _ _ _ _ _ _ _ _ _ _)
   | (with_reducible exact spec_ConfCheck.mono _ _ _ _ _ _ _ _ _ _ _)
   | (with_reducible exact LeO.refl _)
   | (with_reducible exact LeO.none _)
   | (with_reducible refine LeO.ite ?_ ?_)
   | (with_reducible refine LeO.bind ?_ (fun _ => ?_))
   | exact impl_ConfCheck.mono _ _ _ _ _ _ _ _ _ _ _
   | exact laws_eqConf.mono _ _ _ _ _ _ _ _ _ _ _ _ _ _ _ _ _ _ _ _ _
   | exact laws_szConf.mono _ _ _ _ _ _ _ _ _ _ _ _
   | exact laws_toConf.mono _ _ _ _ _ _ _ _ _ _ _
   | exact spec_ConfCheck.mono _ _ _ _ _ _ _ _ _ _ _
   | exact LeO.none _
   | refine LeO.ite ?_ ?_
   | refine LeO.bind ?_ (fun _ => ?_)
set_option maxHeartbeats 8000000 in
set_option maxRecDepth 100000 in
theorem laws_FnExactConfCheck.calls (k : Nat) (a0_0 : Int) (a0_1 : Int) (A0_2 : Option Addr) (c0_2 : Nat) (l0_2 : List (List (S109))) (A0_3 : Option Addr) (c0_3 : Nat) (l0_3 : List Int) (A0_4 : Option Addr) (c0_4 : Nat) (l0_4 : List Int) (A0_5 : Option Addr) (c0_5 : Nat) (l0_5 : List Int) (A0_6 : Option Addr) (c0_6 : Nat) (l0_6 : List Int) (A0_7 : Option Addr) (c0_7 : Nat) (l0_7 : List Int) (A0_8 : Option Addr) (c0_8 : Nat) (l0_8 : List (S80)) (a0_9 : Int) (r : Bool) (w : World) (hr0_2 : Kd.C (Kd.slice 109 k109) w A0_2 l0_2.length l0_2) (hc0_2 : l0_2.length ≤ c0_2) (hr0_3 : Kd.C (Kd.int .i64) w A0_3 l0_3.length l0_3) (hc0_3 : l0_3.length ≤ c0_3) (hr0_4 : Kd.C (Kd.int .i64) w A0_4 l0_4.length l0_4) (hc0_4 : l0_4.length ≤ c0_4) (hr0_5 : Kd.C (Kd.int .i64) w A0_5 l0_5.length l0_5) (hc0_5 : l0_5.length ≤ c0_5) (hr0_6 : Kd.C (Kd.int .i64) w A0_6 l0_6.length l0_6) (hc0_6 : l0_6.length ≤ c0_6) (hr0_7 : Kd.C (Kd.int .i64) w A0_7 l0_7.length l0_7) (hc0_7 : l0_7.length ≤ c0_7) (hr0_8 : Kd.C k80 w A0_8 l0_8.length l0_8) (hc0_8 : l0_8.length ≤ c0_8) (h : laws_FnExactConfCheck.f k a0_0 a0_1 l0_2 l0_3 l0_4 l0_5 l0_6 l0_7 l0_8 a0_9 = some r) (hG : GErr w) :
  Calls Tryd.prog 7 #[.agg #[.int .i64 a0_0, .int .i64 a0_1, .slice A0_2 l0_2.length c0_2, .slice A0_3 l0_3.length c0_3, .slice A0_4 l0_4.length c0_4, .slice A0_5 l0_5.length c0_5, .slice A0_6 l0_6.length c0_6, .slice A0_7 l0_7.length c0_7, .slice A0_8 l0_8.length c0_8, .int .i64 a0_9]] w fun e w' => e = .returned (.bool r) ∧ Below w.heap.size w w' := by
 have HG0 := Aside0.mk hG
 clear hG
 have hu26 := Tryd.underlying26
 have hu32 := Tryd.underlying32
 have HR0_2 := Aside0.mk hr0_2
 have HC0_2 := Aside0.mk hc0_2
 clear hr0_2 hc0_2
 have HR0_3 := Aside0.mk hr0_3
 have HC0_3 := Aside0.mk hc0_3
 clear hr0_3 hc0_3
 have HR0_4 := Aside0.mk hr0_4
 have HC0_4 := Aside0.mk hc0_4
 clear hr0_4 hc0_4
 have HR0_5 := Aside0.mk hr0_5
 have HC0_5 := Aside0.mk hc0_5
 clear hr0_5 hc0_5
 have HR0_6 := Aside0.mk hr0_6
 have HC0_6 := Aside0.mk hc0_6
 clear hr0_6 hc0_6
 have HR0_7 := Aside0.mk hr0_7
 have HC0_7 := Aside0.mk hc0_7
 clear hr0_7 hc0_7
 have HR0_8 := Aside0.mk hr0_8
 have HC0_8 := Aside0.mk hc0_8
 clear hr0_8 hc0_8
 have HB := m_ (Below.refl w.heap.size w)
 have H : ((laws_szConf.f k a0_0 a0_1 l0_2 l0_3 l0_4 l0_5 l0_6 l0_7 l0_8 a0_9 1048576).bind fun t283 => (if t283 < 0 then (some true) else ((laws_toConf.f k a0_0 a0_1 l0_2 l0_3 l0_4 l0_5 l0_6 l0_7 l0_8 a0_9).bind fun bt284 => ((spec_ConfCheck.f k bt284.1 bt284.2.1 bt284.2.2.1 bt284.2.2.2.1 bt284.2.2.2.2.1 bt284.2.2.2.2.2.1 bt284.2.2.2.2.2.2.1 bt284.2.2.2.2.2.2.2.1 bt284.2.2.2.2.2.2.2.2.1 bt284.2.2.2.2.2.2.2.2.2).bind fun t308 => ((laws_toConf.f k a0_0 a0_1 l0_2 l0_3 l0_4 l0_5 l0_6 l0_7 l0_8 a0_9).bind fun bt309 => ((impl_ConfCheck.f k bt309.1 bt309.2.1 bt309.2.2.1 bt309.2.2.2.1 bt309.2.2.2.2.1 bt309.2.2.2.2.2.1 bt309.2.2.2.2.2.2.1 bt309.2.2.2.2.2.2.2.1 bt309.2.2.2.2.2.2.2.2.1 bt309.2.2.2.2.2.2.2.2.2).bind fun t334 => (if t334 = t308 then ((laws_toConf.f k a0_0 a0_1 l0_2 l0_3 l0_4 l0_5 l0_6 l0_7 l0_8 a0_9).bind fun bt335 => ((laws_eqConf.f k bt309.1 bt309.2.1 bt309.2.2.1 bt309.2.2.2.1 bt309.2.2.2.2.1 bt309.2.2.2.2.2.1 bt309.2.2.2.2.2.2.1 bt309.2.2.2.2.2.2.2.1 bt309.2.2.2.2.2.2.2.2.1 bt309.2.2.2.2.2.2.2.2.2 bt335.1 bt335.2.1 bt335.2.2.1 bt335.2.2.2.1 bt335.2.2.2.2.1 bt335.2.2.2.2.2.1 bt335.2.2.2.2.2.2.1 bt335.2.2.2.2.2.2.2.1 bt335.2.2.2.2.2.2.2.2.1 bt335.2.2.2.2.2.2.2.2.2).bind fun t359 => (if t359 = true then (some true) else (none)))) else (none)))))))) = some r := h
 clear h
 replace H := Option.bind_eq_some_iff.mp H
 obtain ⟨t283, A20, H⟩ := H
 replace H : (if t283 < 0 then (some true) else ((laws_toConf.f k a0_0 a0_1 l0_2 l0_3 l0_4 l0_5 l0_6 l0_7 l0_8 a0_9).bind fun bt284 => ((spec_ConfCheck.f k bt284.1 bt284.2.1 bt284.2.2.1 bt284.2.2.2.1 bt284.2.2.2.2.1 bt284.2.2.2.2.2.1 bt284.2.2.2.2.2.2.1 bt284.2.2.2.2.2.2.2.1 bt284.2.2.2.2.2.2.2.2.1 bt284.2.2.2.2.2.2.2.2.2).bind fun t308 => ((laws_toConf.f k a0_0 a0_1 l0_2 l0_3 l0_4 l0_5 l0_6 l0_7 l0_8 a0_9).bind fun bt309 => ((impl_ConfCheck.f k bt309.1 bt309.2.1 bt309.2.2.1 bt309.2.2.2.1 bt309.2.2.2.2.1 bt309.2.2.2.2.2.1 bt309.2.2.2.2.2.2.1 bt309.2.2.2.2.2.2.2.1 bt309.2.2.2.2.2.2.2.2.1 bt309.2.2.2.2.2.2.2.2.2).bind fun t334 => (if t334 = t308 then ((laws_toConf.f k a0_0 a0_1 l0_2 l0_3 l0_4 l0_5 l0_6 l0_7 l0_8 a0_9).bind fun bt335 => ((laws_eqConf.f k bt309.1 bt309.2.1 bt309.2.2.1 bt309.2.2.2.1 bt309.2.2.2.2.1 bt309.2.2.2.2.2.1 bt309.2.2.2.2.2.2.1 bt309.2.2.2.2.2.2.2.1 bt309.2.2.2.2.2.2.2.2.1 bt309.2.2.2.2.2.2.2.2.2 bt335.1 bt335.2.1 bt335.2.2.1 bt335.2.2.2.1 bt335.2.2.2.2.1 bt335.2.2.2.2.2.1 bt335.2.2.2.2.2.2.1 bt335.2.2.2.2.2.2.2.1 bt335.2.2.2.2.2.2.2.2.1 bt335.2.2.2.2.2.2.2.2.2).bind fun t359 => (if t359 = true then (some true) else (none)))) else (none))))))) = some r := H
 have A2 := Aside0.mk A20
 clear A20
 by_cases c3 : t283 < 0
 ·rw [if_pos c3] at H
  have c3b0 : decide (t283 < 0) = true := decide_eq_true c3
  clear c3
  obtain rfl := Option.some.inj H
  go_enter Tryd.func7, Tryd.ntmps7
  go_wp2_with (first | ((with_reducible refine gate_dst (N := 1) rfl ?_); refine box_event ?hg (N := 1) ?hd (cs := #[.int .i64 a0_0, .int .i64 a0_1, .slice A0_2 l0_2.length c0_2, .slice A0_3 l0_3.length c0_3, .slice A0_4 l0_4.length c0_4, .slice A0_5 l0_5.length c0_5, .slice A0_6 l0_6.length c0_6, .slice A0_7 l0_7.length c0_7, .slice A0_8 l0_8.length c0_8, .int .i64 a0_9]) (t := 26) ?hr ?_; (case hd => rfl); (case hg => rfl); (case hr => first | (go_simp; done) | (go_simp; rfl)); intro gb282 hg w4 hbox hb; have n0_ := m_ (below_step (bN HB.out) hb); have n1_ := m_ (hbox); have n2_ := m_ ((by rw [hg]; exact (below_size (bN HB.out)) : w.heap.size ≤ gb282)); have n3_ := m_ ((by rw [hg]; exact (below_size (bN HB.out)) : w.heap.size ≤ gb282)); clear HB; have HB := n0_; have BK282 := n1_; have GW282 := n2_; have GE282 := n3_; clear n0_ n1_ n2_ n3_; clear hb hbox hg; have hcz5_0 : w4.cell? ⟨gb282, 0, none⟩ = some (.int .i64 a0_0) := bc BK282 0; have hcz5_1 : w4.cell? ⟨gb282, 1, none⟩ = some (.int .i64 a0_1) := bc BK282 1; have hcz5_2 : w4.cell? ⟨gb282, 2, none⟩ = some (.slice A0_2 l0_2.length c0_2) := bc BK282 2; have hcz5_3 : w4.cell? ⟨gb282, 3, none⟩ = some (.slice A0_3 l0_3.length c0_3) := bc BK282 3; have hcz5_4 : w4.cell? ⟨gb282, 4, none⟩ = some (.slice A0_4 l0_4.length c0_4) := bc BK282 4; have hcz5_5 : w4.cell? ⟨gb282, 5, none⟩ = some (.slice A0_5 l0_5.length c0_5) := bc BK282 5; have hcz5_6 : w4.cell? ⟨gb282, 6, none⟩ = some (.slice A0_6 l0_6.length c0_6) := bc BK282 6; have hcz5_7 : w4.cell? ⟨gb282, 7, none⟩ = some (.slice A0_7 l0_7.length c0_7) := bc BK282 7; have hcz5_8 : w4.cell? ⟨gb282, 8, none⟩ = some (.slice A0_8 l0_8.length c0_8) := bc BK282 8; have hcz5_9 : w4.cell? ⟨gb282, 9, none⟩ = some (.int .i64 a0_9) := bc BK282 9; have hfz5_0 := blk_frozen BK282.out 0; have hfz5_1 := blk_frozen BK282.out 1; have hfz5_2 := blk_frozen BK282.out 2; have hfz5_3 := blk_frozen BK282.out 3; have hfz5_4 := blk_frozen BK282.out 4; have hfz5_5 := blk_frozen BK282.out 5; have hfz5_6 := blk_frozen BK282.out 6; have hfz5_7 := blk_frozen BK282.out 7; have hfz5_8 := blk_frozen BK282.out 8; have hfz5_9 := blk_frozen BK282.out 9) | ((with_reducible refine gate_callee (f := 9) rfl ?_); refine goesL_ (some 9) rfl rfl Tryd.func9 (by kernel_rfl) rfl #[.agg #[.int .i64 a0_0, .int .i64 a0_1, .slice A0_2 l0_2.length c0_2, .slice A0_3 l0_3.length c0_3, .slice A0_4 l0_4.length c0_4, .slice A0_5 l0_5.length c0_5, .slice A0_6 l0_6.length c0_6, .slice A0_7 l0_7.length c0_7, .slice A0_8 l0_8.length c0_8, .int .i64 a0_9], .int .i64 1048576] rfl gl_ ?_; (with_reducible refine (laws_szConf.calls k a0_0 a0_1 _ _ l0_2 _ _ l0_3 _ _ l0_4 _ _ l0_5 _ _ l0_6 _ _ l0_7 _ _ l0_8 a0_9 1048576 t283 _ ?side1 ?side2 ?side3 ?side4 ?side5 ?side6 ?side7 ?side8 ?side9 ?side10 ?side11 ?side12 ?side13 ?side14 A2.out).mono ?_); (case side1 => exact cN (Kd.C_below HR0_2.out HB.out)); (case side2 => exact HC0_2.out); (case side3 => exact cN (Kd.C_below HR0_3.out HB.out)); (case side4 => exact HC0_3.out); (case side5 => exact cN (Kd.C_below HR0_4.out HB.out)); (case side6 => exact HC0_4.out); (case side7 => exact cN (Kd.C_below HR0_5.out HB.out)); (case side8 => exact HC0_5.out); (case side9 => exact cN (Kd.C_below HR0_6.out HB.out)); (case side10 => exact HC0_6.out); (case side11 => exact cN (Kd.C_below HR0_7.out HB.out)); (case side12 => exact HC0_7.out); (case side13 => exact cN (Kd.C_below HR0_8.out HB.out)); (case side14 => exact HC0_8.out); rintro e w6 ⟨rfl, hb⟩; refine ⟨_, rfl, ?_⟩; have n0_ := m_ (blk_below (kN BK282.out) hb); have n1_ := m_ (below_step (bN HB.out) hb); clear BK282; clear HB; have BK282 := n0_; have HB := n1_; clear n0_ n1_; (try clear hb); (try clear hb2); (try clear hk); (try clear hi)))
  go_ret
  exact ⟨by first | rfl | (simp [errW_none, errW_some] <;> rfl) | (simp [*, errW_none, errW_some] <;> rfl), by repeat (first | (with_reducible first | exact HB.out | apply below_alloc | apply pw_below_drewN | apply below_drew1 | refine below_set ?_ GE282.out) | exact HB.out)⟩
 ·rw [if_neg c3] at H
  have c3b0 : decide (t283 < 0) = false := decide_eq_false c3
  clear c3
  replace H := Option.bind_eq_some_iff.mp H
  obtain ⟨⟨t284, t285, t286, t289, t292, t295, t298, t301, t304, t307⟩, A70, H⟩ := H
  replace H : ((spec_ConfCheck.f k t284 t285 t286 t289 t292 t295 t298 t301 t304 t307).bind fun t308 => ((laws_toConf.f k a0_0 a0_1 l0_2 l0_3 l0_4 l0_5 l0_6 l0_7 l0_8 a0_9).bind fun bt309 => ((impl_ConfCheck.f k bt309.1 bt309.2.1 bt309.2.2.1 bt309.2.2.2.1 bt309.2.2.2.2.1 bt309.2.2.2.2.2.1 bt309.2.2.2.2.2.2.1 bt309.2.2.2.2.2.2.2.1 bt309.2.2.2.2.2.2.2.2.1 bt309.2.2.2.2.2.2.2.2.2).bind fun t334 => (if t334 = t308 then ((laws_toConf.f k a0_0 a0_1 l0_2 l0_3 l0_4 l0_5 l0_6 l0_7 l0_8 a0_9).bind fun bt335 => ((laws_eqConf.f k bt309.1 bt309.2.1 bt309.2.2.1 bt309.2.2.2.1 bt309.2.2.2.2.1 bt309.2.2.2.2.2.1 bt309.2.2.2.2.2.2.1 bt309.2.2.2.2.2.2.2.1 bt309.2.2.2.2.2.2.2.2.1 bt309.2.2.2.2.2.2.2.2.2 bt335.1 bt335.2.1 bt335.2.2.1 bt335.2.2.2.1 bt335.2.2.2.2.1 bt335.2.2.2.2.2.1 bt335.2.2.2.2.2.2.1 bt335.2.2.2.2.2.2.2.1 bt335.2.2.2.2.2.2.2.2.1 bt335.2.2.2.2.2.2.2.2.2).bind fun t359 => (if t359 = true then (some true) else (none)))) else (none))))) = some r := H
  have A7 := Aside0.mk A70
  clear A70
  replace H := Option.bind_eq_some_iff.mp H
  obtain ⟨t308, A80, H⟩ := H
  replace H : ((laws_toConf.f k a0_0 a0_1 l0_2 l0_3 l0_4 l0_5 l0_6 l0_7 l0_8 a0_9).bind fun bt309 => ((impl_ConfCheck.f k bt309.1 bt309.2.1 bt309.2.2.1 bt309.2.2.2.1 bt309.2.2.2.2.1 bt309.2.2.2.2.2.1 bt309.2.2.2.2.2.2.1 bt309.2.2.2.2.2.2.2.1 bt309.2.2.2.2.2.2.2.2.1 bt309.2.2.2.2.2.2.2.2.2).bind fun t334 => (if t334 = t308 then ((laws_toConf.f k a0_0 a0_1 l0_2 l0_3 l0_4 l0_5 l0_6 l0_7 l0_8 a0_9).bind fun bt335 => ((laws_eqConf.f k bt309.1 bt309.2.1 bt309.2.2.1 bt309.2.2.2.1 bt309.2.2.2.2.1 bt309.2.2.2.2.2.1 bt309.2.2.2.2.2.2.1 bt309.2.2.2.2.2.2.2.1 bt309.2.2.2.2.2.2.2.2.1 bt309.2.2.2.2.2.2.2.2.2 bt335.1 bt335.2.1 bt335.2.2.1 bt335.2.2.2.1 bt335.2.2.2.2.1 bt335.2.2.2.2.2.1 bt335.2.2.2.2.2.2.1 bt335.2.2.2.2.2.2.2.1 bt335.2.2.2.2.2.2.2.2.1 bt335.2.2.2.2.2.2.2.2.2).bind fun t359 => (if t359 = true then (some true) else (none)))) else (none)))) = some r := H
  have A8 := Aside0.mk A80
  clear A80
  replace H := Option.bind_eq_some_iff.mp H
  obtain ⟨⟨t309, t310, t311, t314, t317, t320, t323, t326, t329, t332⟩, A90, H⟩ := H
  replace H : ((impl_ConfCheck.f k t309 t310 t311 t314 t317 t320 t323 t326 t329 t332).bind fun t334 => (if t334 = t308 then ((laws_toConf.f k a0_0 a0_1 l0_2 l0_3 l0_4 l0_5 l0_6 l0_7 l0_8 a0_9).bind fun bt335 => ((laws_eqConf.f k t309 t310 t311 t314 t317 t320 t323 t326 t329 t332 bt335.1 bt335.2.1 bt335.2.2.1 bt335.2.2.2.1 bt335.2.2.2.2.1 bt335.2.2.2.2.2.1 bt335.2.2.2.2.2.2.1 bt335.2.2.2.2.2.2.2.1 bt335.2.2.2.2.2.2.2.2.1 bt335.2.2.2.2.2.2.2.2.2).bind fun t359 => (if t359 = true then (some true) else (none)))) else (none))) = some r := H
  have A9 := Aside0.mk A90
  clear A90
  replace H := Option.bind_eq_some_iff.mp H
  obtain ⟨t334, A100, H⟩ := H
  replace H : (if t334 = t308 then ((laws_toConf.f k a0_0 a0_1 l0_2 l0_3 l0_4 l0_5 l0_6 l0_7 l0_8 a0_9).bind fun bt335 => ((laws_eqConf.f k t309 t310 t311 t314 t317 t320 t323 t326 t329 t332 bt335.1 bt335.2.1 bt335.2.2.1 bt335.2.2.2.1 bt335.2.2.2.2.1 bt335.2.2.2.2.2.1 bt335.2.2.2.2.2.2.1 bt335.2.2.2.2.2.2.2.1 bt335.2.2.2.2.2.2.2.2.1 bt335.2.2.2.2.2.2.2.2.2).bind fun t359 => (if t359 = true then (some true) else (none)))) else (none)) = some r := H
  have A10 := Aside0.mk A100
  clear A100
  by_cases c11 : t334 = t308
  ·rw [if_pos c11] at H
   have c11b0 : (t334 == t308) = true := beq_iff_eq.mpr c11
   have c11b1 : (t334 != t308) = false := bne_eq_false_iff_eq.mpr c11
   clear c11
   replace H := Option.bind_eq_some_iff.mp H
   obtain ⟨⟨t335, t336, t337, t340, t343, t346, t349, t352, t355, t358⟩, A120, H⟩ := H
   replace H : ((laws_eqConf.f k t309 t310 t311 t314 t317 t320 t323 t326 t329 t332 t335 t336 t337 t340 t343 t346 t349 t352 t355 t358).bind fun t359 => (if t359 = true then (some true) else (none))) = some r := H
   have A12 := Aside0.mk A120
   clear A120
   replace H := Option.bind_eq_some_iff.mp H
   obtain ⟨t359, A130, H⟩ := H
   replace H : (if t359 = true then (some true) else (none)) = some r := H
   have A13 := Aside0.mk A130
   clear A130
   by_cases c14 : t359 = true
   ·subst c14
    have H1 : (some true) = some r := by rw [if_pos rfl] at H; exact H
    clear H
    have H := H1
    clear H1
    obtain rfl := Option.some.inj H
    go_enter Tryd.func7, Tryd.ntmps7
    try go_wp2_with (first | ((with_reducible refine gate_dst (N := 1) rfl ?_); refine box_event ?hg (N := 1) ?hd (cs := #[.int .i64 a0_0, .int .i64 a0_1, .slice A0_2 l0_2.length c0_2, .slice A0_3 l0_3.length c0_3, .slice A0_4 l0_4.length c0_4, .slice A0_5 l0_5.length c0_5, .slice A0_6 l0_6.length c0_6, .slice A0_7 l0_7.length c0_7, .slice A0_8 l0_8.length c0_8, .int .i64 a0_9]) (t := 26) ?hr ?_; (case hd => rfl); (case hg => rfl); (case hr => first | (go_simp; done) | (go_simp; rfl)); intro gb282 hg w15 hbox hb; have n0_ := m_ (below_step (bN HB.out) hb); have n1_ := m_ (hbox); have n2_ := m_ ((by rw [hg]; exact (below_size (bN HB.out)) : w.heap.size ≤ gb282)); have n3_ := m_ ((by rw [hg]; exact (below_size (bN HB.out)) : w.heap.size ≤ gb282)); clear HB; have HB := n0_; have BK282 := n1_; have GW282 := n2_; have GE282 := n3_; clear n0_ n1_ n2_ n3_; clear hb hbox hg; have hcz16_0 : w15.cell? ⟨gb282, 0, none⟩ = some (.int .i64 a0_0) := bc BK282 0; have hcz16_1 : w15.cell? ⟨gb282, 1, none⟩ = some (.int .i64 a0_1) := bc BK282 1; have hcz16_2 : w15.cell? ⟨gb282, 2, none⟩ = some (.slice A0_2 l0_2.length c0_2) := bc BK282 2; have hcz16_3 : w15.cell? ⟨gb282, 3, none⟩ = some (.slice A0_3 l0_3.length c0_3) := bc BK282 3; have hcz16_4 : w15.cell? ⟨gb282, 4, none⟩ = some (.slice A0_4 l0_4.length c0_4) := bc BK282 4; have hcz16_5 : w15.cell? ⟨gb282, 5, none⟩ = some (.slice A0_5 l0_5.length c0_5) := bc BK282 5; have hcz16_6 : w15.cell? ⟨gb282, 6, none⟩ = some (.slice A0_6 l0_6.length c0_6) := bc BK282 6; have hcz16_7 : w15.cell? ⟨gb282, 7, none⟩ = some (.slice A0_7 l0_7.length c0_7) := bc BK282 7; have hcz16_8 : w15.cell? ⟨gb282, 8, none⟩ = some (.slice A0_8 l0_8.length c0_8) := bc BK282 8; have hcz16_9 : w15.cell? ⟨gb282, 9, none⟩ = some (.int .i64 a0_9) := bc BK282 9; have hfz16_0 := blk_frozen BK282.out 0; have hfz16_1 := blk_frozen BK282.out 1; have hfz16_2 := blk_frozen BK282.out 2; have hfz16_3 := blk_frozen BK282.out 3; have hfz16_4 := blk_frozen BK282.out 4; have hfz16_5 := blk_frozen BK282.out 5; have hfz16_6 := blk_frozen BK282.out 6; have hfz16_7 := blk_frozen BK282.out 7; have hfz16_8 := blk_frozen BK282.out 8; have hfz16_9 := blk_frozen BK282.out 9) | ((with_reducible refine gate_callee (f := 9) rfl ?_); refine goesL_ (some 9) rfl rfl Tryd.func9 (by kernel_rfl) rfl #[.agg #[.int .i64 a0_0, .int .i64 a0_1, .slice A0_2 l0_2.length c0_2, .slice A0_3 l0_3.length c0_3, .slice A0_4 l0_4.length c0_4, .slice A0_5 l0_5.length c0_5, .slice A0_6 l0_6.length c0_6, .slice A0_7 l0_7.length c0_7, .slice A0_8 l0_8.length c0_8, .int .i64 a0_9], .int .i64 1048576] rfl gl_ ?_; (with_reducible refine (laws_szConf.calls k a0_0 a0_1 _ _ l0_2 _ _ l0_3 _ _ l0_4 _ _ l0_5 _ _ l0_6 _ _ l0_7 _ _ l0_8 a0_9 1048576 t283 _ ?side1 ?side2 ?side3 ?side4 ?side5 ?side6 ?side7 ?side8 ?side9 ?side10 ?side11 ?side12 ?side13 ?side14 A2.out).mono ?_); (case side1 => exact cN (Kd.C_below HR0_2.out HB.out)); (case side2 => exact HC0_2.out); (case side3 => exact cN (Kd.C_below HR0_3.out HB.out)); (case side4 => exact HC0_3.out); (case side5 => exact cN (Kd.C_below HR0_4.out HB.out)); (case side6 => exact HC0_4.out); (case side7 => exact cN (Kd.C_below HR0_5.out HB.out)); (case side8 => exact HC0_5.out); (case side9 => exact cN (Kd.C_below HR0_6.out HB.out)); (case side10 => exact HC0_6.out); (case side11 => exact cN (Kd.C_below HR0_7.out HB.out)); (case side12 => exact HC0_7.out); (case side13 => exact cN (Kd.C_below HR0_8.out HB.out)); (case side14 => exact HC0_8.out); rintro e w17 ⟨rfl, hb⟩; refine ⟨_, rfl, ?_⟩; have n0_ := m_ (blk_below (kN BK282.out) hb); have n1_ := m_ (below_step (bN HB.out) hb); clear BK282; clear HB; have BK282 := n0_; have HB := n1_; clear n0_ n1_; (try clear hb); (try clear hb2); (try clear hk); (try clear hi); have hcz18_0 : w17.cell? ⟨gb282, 0, none⟩ = some (.int .i64 a0_0) := bc BK282 0; have hcz18_1 : w17.cell? ⟨gb282, 1, none⟩ = some (.int .i64 a0_1) := bc BK282 1; have hcz18_2 : w17.cell? ⟨gb282, 2, none⟩ = some (.slice A0_2 l0_2.length c0_2) := bc BK282 2; have hcz18_3 : w17.cell? ⟨gb282, 3, none⟩ = some (.slice A0_3 l0_3.length c0_3) := bc BK282 3; have hcz18_4 : w17.cell? ⟨gb282, 4, none⟩ = some (.slice A0_4 l0_4.length c0_4) := bc BK282 4; have hcz18_5 : w17.cell? ⟨gb282, 5, none⟩ = some (.slice A0_5 l0_5.length c0_5) := bc BK282 5; have hcz18_6 : w17.cell? ⟨gb282, 6, none⟩ = some (.slice A0_6 l0_6.length c0_6) := bc BK282 6; have hcz18_7 : w17.cell? ⟨gb282, 7, none⟩ = some (.slice A0_7 l0_7.length c0_7) := bc BK282 7; have hcz18_8 : w17.cell? ⟨gb282, 8, none⟩ = some (.slice A0_8 l0_8.length c0_8) := bc BK282 8; have hcz18_9 : w17.cell? ⟨gb282, 9, none⟩ = some (.int .i64 a0_9) := bc BK282 9; have hfz18_0 := blk_frozen BK282.out 0; have hfz18_1 := blk_frozen BK282.out 1; have hfz18_2 := blk_frozen BK282.out 2; have hfz18_3 := blk_frozen BK282.out 3; have hfz18_4 := blk_frozen BK282.out 4; have hfz18_5 := blk_frozen BK282.out 5; have hfz18_6 := blk_frozen BK282.out 6; have hfz18_7 := blk_frozen BK282.out 7; have hfz18_8 := blk_frozen BK282.out 8; have hfz18_9 := blk_frozen BK282.out 9) | ((with_reducible refine gate_callee (f := 11) rfl ?_); refine goesL_ (some 13) rfl rfl Tryd.func11 (by kernel_rfl) rfl #[.agg #[.int .i64 a0_0, .int .i64 a0_1, .slice A0_2 l0_2.length c0_2, .slice A0_3 l0_3.length c0_3, .slice A0_4 l0_4.length c0_4, .slice A0_5 l0_5.length c0_5, .slice A0_6 l0_6.length c0_6, .slice A0_7 l0_7.length c0_7, .slice A0_8 l0_8.length c0_8, .int .i64 a0_9]] rfl gl_ ?_; (with_reducible refine (laws_toConf.calls k a0_0 a0_1 _ _ l0_2 _ _ l0_3 _ _ l0_4 _ _ l0_5 _ _ l0_6 _ _ l0_7 _ _ l0_8 a0_9 t284 t285 t286 t289 t292 t295 t298 t301 t304 t307 _ ?side1 ?side2 ?side3 ?side4 ?side5 ?side6 ?side7 ?side8 ?side9 ?side10 ?side11 ?side12 ?side13 ?side14 A7.out).mono ?_); (case side1 => exact cN (Kd.C_below HR0_2.out HB.out)); (case side2 => exact HC0_2.out); (case side3 => exact cN (Kd.C_below HR0_3.out HB.out)); (case side4 => exact HC0_3.out); (case side5 => exact cN (Kd.C_below HR0_4.out HB.out)); (case side6 => exact HC0_4.out); (case side7 => exact cN (Kd.C_below HR0_5.out HB.out)); (case side8 => exact HC0_5.out); (case side9 => exact cN (Kd.C_below HR0_6.out HB.out)); (case side10 => exact HC0_6.out); (case side11 => exact cN (Kd.C_below HR0_7.out HB.out)); (case side12 => exact HC0_7.out); (case side13 => exact cN (Kd.C_below HR0_8.out HB.out)); (case side14 => exact HC0_8.out); rintro e w19 ⟨v287, v290, v293, v296, v299, v302, v305, rfl, ho0, ho1, ho2, ho3, ho4, ho5, ho6, hb⟩; refine ⟨_, rfl, ?_⟩; have n0_ := m_ (Kd.S_lower ho0 (below_size (bN HB.out))); have n1_ := m_ (Kd.R_lower ho1 (below_size (bN HB.out))); have n2_ := m_ (Kd.R_lower ho2 (below_size (bN HB.out))); have n3_ := m_ (Kd.R_lower ho3 (below_size (bN HB.out))); have n4_ := m_ (Kd.R_lower ho4 (below_size (bN HB.out))); have n5_ := m_ (Kd.R_lower ho5 (below_size (bN HB.out))); have n6_ := m_ (Kd.R_lower ho6 (below_size (bN HB.out))); have n7_ := m_ (blk_below (kN BK282.out) hb); have n8_ := m_ (below_step (bN HB.out) hb); clear BK282; clear HB; have HO288 := n0_; have HO291 := n1_; have HO294 := n2_; have HO297 := n3_; have HO300 := n4_; have HO303 := n5_; have HO306 := n6_; have BK282 := n7_; have HB := n8_; clear n0_ n1_ n2_ n3_ n4_ n5_ n6_ n7_ n8_; (try clear hb); (try clear hb2); (try clear hk); (try clear hi); (try clear ho0); (try clear ho1); (try clear ho2); (try clear ho3); (try clear ho4); (try clear ho5); (try clear ho6); obtain ⟨Ao20, co20, eo20⟩ := Kd.S_slice HO288.out; subst eo20; obtain ⟨Ao21, co21, eo21⟩ := Kd.R_slice HO291.out; subst eo21; obtain ⟨Ao22, co22, eo22⟩ := Kd.R_slice HO294.out; subst eo22; obtain ⟨Ao23, co23, eo23⟩ := Kd.R_slice HO297.out; subst eo23; obtain ⟨Ao24, co24, eo24⟩ := Kd.R_slice HO300.out; subst eo24; obtain ⟨Ao25, co25, eo25⟩ := Kd.R_slice HO303.out; subst eo25; obtain ⟨Ao26, co26, eo26⟩ := Kd.R_slice HO306.out; subst eo26) | ((with_reducible refine gate_callee (f := 16) rfl ?_); refine goesL_ (some 14) rfl rfl Tryd.func16 (by kernel_rfl) rfl #[.agg #[.int .i64 t284, .int .i64 t285, .slice Ao20 t286.length co20, .slice Ao21 t289.length co21, .slice Ao22 t292.length co22, .slice Ao23 t295.length co23, .slice Ao24 t298.length co24, .slice Ao25 t301.length co25, .slice Ao26 t304.length co26, .int .i64 t307]] rfl gl_ ?_; (with_reducible refine (spec_ConfCheck.calls k t284 t285 _ _ t286 _ _ t289 _ _ t292 _ _ t295 _ _ t298 _ _ t301 _ _ t304 t307 t308 _ ?side1 ?side2 ?side3 ?side4 ?side5 ?side6 ?side7 ?side8 ?side9 ?side10 ?side11 ?side12 ?side13 ?side14 A8.out).mono ?_); (case side1 => exact cN (Kd.S_reads' HO288.out).2.2); (case side2 => exact (Kd.S_reads' HO288.out).2.1); (case side3 => exact cN (Kd.R_reads' HO291.out).2.2); (case side4 => exact (Kd.R_reads' HO291.out).2.1); (case side5 => exact cN (Kd.R_reads' HO294.out).2.2); (case side6 => exact (Kd.R_reads' HO294.out).2.1); (case side7 => exact cN (Kd.R_reads' HO297.out).2.2); (case side8 => exact (Kd.R_reads' HO297.out).2.1); (case side9 => exact cN (Kd.R_reads' HO300.out).2.2); (case side10 => exact (Kd.R_reads' HO300.out).2.1); (case side11 => exact cN (Kd.R_reads' HO303.out).2.2); (case side12 => exact (Kd.R_reads' HO303.out).2.1); (case side13 => exact cN (Kd.R_reads' HO306.out).2.2); (case side14 => exact (Kd.R_reads' HO306.out).2.1); rintro e w27 ⟨rfl, hb⟩; refine ⟨_, rfl, ?_⟩; have n0_ := m_ (Kd.S_below (by (with_reducible repeat (first | apply Kd.S_alloc | apply Kd.S_drewN | apply Kd.S_drew)); exact HO288.out) hb); have n1_ := m_ (Kd.R_below (rN HO291.out) hb); have n2_ := m_ (Kd.R_below (rN HO294.out) hb); have n3_ := m_ (Kd.R_below (rN HO297.out) hb); have n4_ := m_ (Kd.R_below (rN HO300.out) hb); have n5_ := m_ (Kd.R_below (rN HO303.out) hb); have n6_ := m_ (Kd.R_below (rN HO306.out) hb); have n7_ := m_ (blk_below (kN BK282.out) hb); have n8_ := m_ (below_step (bN HB.out) hb); clear HO288; clear HO291; clear HO294; clear HO297; clear HO300; clear HO303; clear HO306; clear BK282; clear HB; have HO288 := n0_; have HO291 := n1_; have HO294 := n2_; have HO297 := n3_; have HO300 := n4_; have HO303 := n5_; have HO306 := n6_; have BK282 := n7_; have HB := n8_; clear n0_ n1_ n2_ n3_ n4_ n5_ n6_ n7_ n8_; (try clear hb); (try clear hb2); (try clear hk); (try clear hi); have hcz28_0 : w27.cell? ⟨gb282, 0, none⟩ = some (.int .i64 a0_0) := bc BK282 0; have hcz28_1 : w27.cell? ⟨gb282, 1, none⟩ = some (.int .i64 a0_1) := bc BK282 1; have hcz28_2 : w27.cell? ⟨gb282, 2, none⟩ = some (.slice A0_2 l0_2.length c0_2) := bc BK282 2; have hcz28_3 : w27.cell? ⟨gb282, 3, none⟩ = some (.slice A0_3 l0_3.length c0_3) := bc BK282 3; have hcz28_4 : w27.cell? ⟨gb282, 4, none⟩ = some (.slice A0_4 l0_4.length c0_4) := bc BK282 4; have hcz28_5 : w27.cell? ⟨gb282, 5, none⟩ = some (.slice A0_5 l0_5.length c0_5) := bc BK282 5; have hcz28_6 : w27.cell? ⟨gb282, 6, none⟩ = some (.slice A0_6 l0_6.length c0_6) := bc BK282 6; have hcz28_7 : w27.cell? ⟨gb282, 7, none⟩ = some (.slice A0_7 l0_7.length c0_7) := bc BK282 7; have hcz28_8 : w27.cell? ⟨gb282, 8, none⟩ = some (.slice A0_8 l0_8.length c0_8) := bc BK282 8; have hcz28_9 : w27.cell? ⟨gb282, 9, none⟩ = some (.int .i64 a0_9) := bc BK282 9; have hfz28_0 := blk_frozen BK282.out 0; have hfz28_1 := blk_frozen BK282.out 1; have hfz28_2 := blk_frozen BK282.out 2; have hfz28_3 := blk_frozen BK282.out 3; have hfz28_4 := blk_frozen BK282.out 4; have hfz28_5 := blk_frozen BK282.out 5; have hfz28_6 := blk_frozen BK282.out 6; have hfz28_7 := blk_frozen BK282.out 7; have hfz28_8 := blk_frozen BK282.out 8; have hfz28_9 := blk_frozen BK282.out 9) | ((with_reducible refine gate_callee (f := 11) rfl ?_); refine goesL_ (some 16) rfl rfl Tryd.func11 (by kernel_rfl) rfl #[.agg #[.int .i64 a0_0, .int .i64 a0_1, .slice A0_2 l0_2.length c0_2, .slice A0_3 l0_3.length c0_3, .slice A0_4 l0_4.length c0_4, .slice A0_5 l0_5.length c0_5, .slice A0_6 l0_6.length c0_6, .slice A0_7 l0_7.length c0_7, .slice A0_8 l0_8.length c0_8, .int .i64 a0_9]] rfl gl_ ?_; (with_reducible refine (laws_toConf.calls k a0_0 a0_1 _ _ l0_2 _ _ l0_3 _ _ l0_4 _ _ l0_5 _ _ l0_6 _ _ l0_7 _ _ l0_8 a0_9 t309 t310 t311 t314 t317 t320 t323 t326 t329 t332 _ ?side1 ?side2 ?side3 ?side4 ?side5 ?side6 ?side7 ?side8 ?side9 ?side10 ?side11 ?side12 ?side13 ?side14 A9.out).mono ?_); (case side1 => exact cN (Kd.C_below HR0_2.out HB.out)); (case side2 => exact HC0_2.out); (case side3 => exact cN (Kd.C_below HR0_3.out HB.out)); (case side4 => exact HC0_3.out); (case side5 => exact cN (Kd.C_below HR0_4.out HB.out)); (case side6 => exact HC0_4.out); (case side7 => exact cN (Kd.C_below HR0_5.out HB.out)); (case side8 => exact HC0_5.out); (case side9 => exact cN (Kd.C_below HR0_6.out HB.out)); (case side10 => exact HC0_6.out); (case side11 => exact cN (Kd.C_below HR0_7.out HB.out)); (case side12 => exact HC0_7.out); (case side13 => exact cN (Kd.C_below HR0_8.out HB.out)); (case side14 => exact HC0_8.out); rintro e w29 ⟨v312, v315, v318, v321, v324, v327, v330, rfl, ho0, ho1, ho2, ho3, ho4, ho5, ho6, hb⟩; refine ⟨_, rfl, ?_⟩; have n0_ := m_ (Kd.S_elder' (by (with_reducible repeat (first | apply Kd.S_alloc | apply Kd.S_drewN | apply Kd.S_drew)); exact HO288.out) (Kd.S_base ho0) hb); have n1_ := m_ (Kd.R_mono (Kd.R_told (Kd.R_told (Kd.R_told (Kd.R_told (Kd.R_told (Kd.R_old (rN HO291.out) hb) (Kd.R_base ho1)) (Kd.R_base ho2)) (Kd.R_base ho3)) (Kd.R_base ho4)) (Kd.R_base ho5)) (fun _ h_ => h_.1)); have n2_ := m_ (Kd.R_mono (Kd.R_told (Kd.R_told (Kd.R_told (Kd.R_told (Kd.R_told (Kd.R_old (rN HO294.out) hb) (Kd.R_base ho1)) (Kd.R_base ho2)) (Kd.R_base ho3)) (Kd.R_base ho4)) (Kd.R_base ho5)) (fun _ h_ => h_.1)); have n3_ := m_ (Kd.R_mono (Kd.R_told (Kd.R_told (Kd.R_told (Kd.R_told (Kd.R_told (Kd.R_old (rN HO297.out) hb) (Kd.R_base ho1)) (Kd.R_base ho2)) (Kd.R_base ho3)) (Kd.R_base ho4)) (Kd.R_base ho5)) (fun _ h_ => h_.1)); have n4_ := m_ (Kd.R_mono (Kd.R_told (Kd.R_told (Kd.R_told (Kd.R_told (Kd.R_told (Kd.R_old (rN HO300.out) hb) (Kd.R_base ho1)) (Kd.R_base ho2)) (Kd.R_base ho3)) (Kd.R_base ho4)) (Kd.R_base ho5)) (fun _ h_ => h_.1)); have n5_ := m_ (Kd.R_mono (Kd.R_told (Kd.R_told (Kd.R_told (Kd.R_told (Kd.R_told (Kd.R_old (rN HO303.out) hb) (Kd.R_base ho1)) (Kd.R_base ho2)) (Kd.R_base ho3)) (Kd.R_base ho4)) (Kd.R_base ho5)) (fun _ h_ => h_.1)); have n6_ := m_ (Kd.R_elder' (rN HO306.out) (Kd.R_base ho6) hb); have n7_ := m_ (Kd.S_lower (Kd.S_new' ho0 (Kd.S_lt (by (with_reducible repeat (first | apply Kd.S_alloc | apply Kd.S_drewN | apply Kd.S_drew)); exact HO288.out))) (below_size (bN HB.out))); have n8_ := m_ (Kd.R_lower (Kd.R_new' (Kd.R_new' (Kd.R_new' (Kd.R_new' (Kd.R_new' ho1 (Kd.R_lt (rN HO291.out))) (Kd.R_lt (rN HO294.out))) (Kd.R_lt (rN HO297.out))) (Kd.R_lt (rN HO300.out))) (Kd.R_lt (rN HO303.out))) (below_size (bN HB.out))); have n9_ := m_ (Kd.R_lower (Kd.R_new' (Kd.R_new' (Kd.R_new' (Kd.R_new' (Kd.R_new' ho2 (Kd.R_lt (rN HO291.out))) (Kd.R_lt (rN HO294.out))) (Kd.R_lt (rN HO297.out))) (Kd.R_lt (rN HO300.out))) (Kd.R_lt (rN HO303.out))) (below_size (bN HB.out))); have n10_ := m_ (Kd.R_lower (Kd.R_new' (Kd.R_new' (Kd.R_new' (Kd.R_new' (Kd.R_new' ho3 (Kd.R_lt (rN HO291.out))) (Kd.R_lt (rN HO294.out))) (Kd.R_lt (rN HO297.out))) (Kd.R_lt (rN HO300.out))) (Kd.R_lt (rN HO303.out))) (below_size (bN HB.out))); have n11_ := m_ (Kd.R_lower (Kd.R_new' (Kd.R_new' (Kd.R_new' (Kd.R_new' (Kd.R_new' ho4 (Kd.R_lt (rN HO291.out))) (Kd.R_lt (rN HO294.out))) (Kd.R_lt (rN HO297.out))) (Kd.R_lt (rN HO300.out))) (Kd.R_lt (rN HO303.out))) (below_size (bN HB.out))); have n12_ := m_ (Kd.R_lower (Kd.R_new' (Kd.R_new' (Kd.R_new' (Kd.R_new' (Kd.R_new' ho5 (Kd.R_lt (rN HO291.out))) (Kd.R_lt (rN HO294.out))) (Kd.R_lt (rN HO297.out))) (Kd.R_lt (rN HO300.out))) (Kd.R_lt (rN HO303.out))) (below_size (bN HB.out))); have n13_ := m_ (Kd.R_lower (Kd.R_new' ho6 (Kd.R_lt (rN HO306.out))) (below_size (bN HB.out))); have n14_ := m_ (blk_below (kN BK282.out) hb); have n15_ := m_ (below_step (bN HB.out) hb); clear HO288; clear HO291; clear HO294; clear HO297; clear HO300; clear HO303; clear HO306; clear BK282; clear HB; have HO288 := n0_; have HO291 := n1_; have HO294 := n2_; have HO297 := n3_; have HO300 := n4_; have HO303 := n5_; have HO306 := n6_; have HO313 := n7_; have HO316 := n8_; have HO319 := n9_; have HO322 := n10_; have HO325 := n11_; have HO328 := n12_; have HO331 := n13_; have BK282 := n14_; have HB := n15_; clear n0_ n1_ n2_ n3_ n4_ n5_ n6_ n7_ n8_ n9_ n10_ n11_ n12_ n13_ n14_ n15_; (try clear hb); (try clear hb2); (try clear hk); (try clear hi); (try clear ho0); (try clear ho1); (try clear ho2); (try clear ho3); (try clear ho4); (try clear ho5); (try clear ho6)) | ((with_reducible refine gate_dst (N := 5) rfl ?_); refine box_event ?hg (N := 5) ?hd (cs := #[.int .i64 0, .int .i64 0, .slice none 0 0, .slice none 0 0, .slice none 0 0, .slice none 0 0, .slice none 0 0, .slice none 0 0, .slice none 0 0, .int .i64 0]) (t := 32) ?hr ?_; (case hd => rfl); (case hg => rfl); (case hr => first | (go_simp; done) | (go_simp; rfl)); intro gb333 hg w30 hbox hb; have n0_ := m_ (Kd.S_below (by (with_reducible repeat (first | apply Kd.S_alloc | apply Kd.S_drewN | apply Kd.S_drew)); exact HO288.out) hb); have n1_ := m_ (Kd.R_below (rN HO291.out) hb); have n2_ := m_ (Kd.R_below (rN HO294.out) hb); have n3_ := m_ (Kd.R_below (rN HO297.out) hb); have n4_ := m_ (Kd.R_below (rN HO300.out) hb); have n5_ := m_ (Kd.R_below (rN HO303.out) hb); have n6_ := m_ (Kd.R_below (rN HO306.out) hb); have n7_ := m_ (Kd.S_below (by (with_reducible repeat (first | apply Kd.S_alloc | apply Kd.S_drewN | apply Kd.S_drew)); exact HO313.out) hb); have n8_ := m_ (Kd.R_below (rN HO316.out) hb); have n9_ := m_ (Kd.R_below (rN HO319.out) hb); have n10_ := m_ (Kd.R_below (rN HO322.out) hb); have n11_ := m_ (Kd.R_below (rN HO325.out) hb); have n12_ := m_ (Kd.R_below (rN HO328.out) hb); have n13_ := m_ (Kd.R_below (rN HO331.out) hb); have n14_ := m_ (blk_below (kN BK282.out) hb); have n15_ := m_ (below_step (bN HB.out) hb); have n16_ := m_ (hbox); have n17_ := m_ ((by rw [hg]; exact (below_size (bN HB.out)) : w.heap.size ≤ gb333)); have n18_ := m_ ((by rw [hg]; exact (below_size (bN HB.out)) : w.heap.size ≤ gb333)); have n19_ := m_ (nL hg BK282.out); have n20_ := m_ (nG hg BK282.out); clear HO288; clear HO291; clear HO294; clear HO297; clear HO300; clear HO303; clear HO306; clear HO313; clear HO316; clear HO319; clear HO322; clear HO325; clear HO328; clear HO331; clear BK282; clear HB; have HO288 := n0_; have HO291 := n1_; have HO294 := n2_; have HO297 := n3_; have HO300 := n4_; have HO303 := n5_; have HO306 := n6_; have HO313 := n7_; have HO316 := n8_; have HO319 := n9_; have HO322 := n10_; have HO325 := n11_; have HO328 := n12_; have HO331 := n13_; have BK282 := n14_; have HB := n15_; have BK333 := n16_; have GW333 := n17_; have GE333 := n18_; have NB282_333 := n19_; have NB333_282 := n20_; clear n0_ n1_ n2_ n3_ n4_ n5_ n6_ n7_ n8_ n9_ n10_ n11_ n12_ n13_ n14_ n15_ n16_ n17_ n18_ n19_ n20_; clear hb hbox hg; have hnb31 := NB333_282.out; have hnc31 := NB282_333.out; have hcz32_0 : w30.cell? ⟨gb333, 0, none⟩ = some (.int .i64 0) := bc BK333 0; have hcz32_1 : w30.cell? ⟨gb333, 1, none⟩ = some (.int .i64 0) := bc BK333 1; have hcz32_2 : w30.cell? ⟨gb333, 2, none⟩ = some (.slice none 0 0) := bc BK333 2; have hcz32_3 : w30.cell? ⟨gb333, 3, none⟩ = some (.slice none 0 0) := bc BK333 3; have hcz32_4 : w30.cell? ⟨gb333, 4, none⟩ = some (.slice none 0 0) := bc BK333 4; have hcz32_5 : w30.cell? ⟨gb333, 5, none⟩ = some (.slice none 0 0) := bc BK333 5; have hcz32_6 : w30.cell? ⟨gb333, 6, none⟩ = some (.slice none 0 0) := bc BK333 6; have hcz32_7 : w30.cell? ⟨gb333, 7, none⟩ = some (.slice none 0 0) := bc BK333 7; have hcz32_8 : w30.cell? ⟨gb333, 8, none⟩ = some (.slice none 0 0) := bc BK333 8; have hcz32_9 : w30.cell? ⟨gb333, 9, none⟩ = some (.int .i64 0) := bc BK333 9; have hfz32_0 := blk_frozen BK333.out 0; have hfz32_1 := blk_frozen BK333.out 1; have hfz32_2 := blk_frozen BK333.out 2; have hfz32_3 := blk_frozen BK333.out 3; have hfz32_4 := blk_frozen BK333.out 4; have hfz32_5 := blk_frozen BK333.out 5; have hfz32_6 := blk_frozen BK333.out 6; have hfz32_7 := blk_frozen BK333.out 7; have hfz32_8 := blk_frozen BK333.out 8; have hfz32_9 := blk_frozen BK333.out 9; obtain ⟨Ao33, co33, eo33⟩ := Kd.S_slice HO313.out; subst eo33; obtain ⟨Ao34, co34, eo34⟩ := Kd.R_slice HO316.out; subst eo34; obtain ⟨Ao35, co35, eo35⟩ := Kd.R_slice HO319.out; subst eo35; obtain ⟨Ao36, co36, eo36⟩ := Kd.R_slice HO322.out; subst eo36; obtain ⟨Ao37, co37, eo37⟩ := Kd.R_slice HO325.out; subst eo37; obtain ⟨Ao38, co38, eo38⟩ := Kd.R_slice HO328.out; subst eo38; obtain ⟨Ao39, co39, eo39⟩ := Kd.R_slice HO331.out; subst eo39) | ((with_reducible refine gate_callee (f := 15) rfl ?_); refine goesL_ (some 18) rfl rfl Tryd.func15 (by kernel_rfl) rfl #[.agg #[.int .i64 t309, .int .i64 t310, .slice Ao33 t311.length co33, .slice Ao34 t314.length co34, .slice Ao35 t317.length co35, .slice Ao36 t320.length co36, .slice Ao37 t323.length co37, .slice Ao38 t326.length co38, .slice Ao39 t329.length co39, .int .i64 t332]] rfl gl_ ?_; (with_reducible refine (impl_ConfCheck.calls k t309 t310 _ _ t311 _ _ t314 _ _ t317 _ _ t320 _ _ t323 _ _ t326 _ _ t329 t332 t334 _ ?side1 ?side2 ?side3 ?side4 ?side5 ?side6 ?side7 ?side8 ?side9 ?side10 ?side11 ?side12 ?side13 ?side14 A10.out ?sideG).mono ?_); (case sideG => exact GErr.below (bN HB.out) HG0.out); (case side1 => refine (Kd.S_reads' (e := 75) (base := w.heap.size) (ok := fun k_ => (True ∧ nb Ao20 t286.length co20 k_)) (n := t311.length) (c := co33) ?_).2.2; exact (by (with_reducible repeat (first | apply Kd.S_alloc | apply Kd.S_drewN | apply Kd.S_drew)); exact (Kd.S_mono (Kd.S_far (p := ⟨gb333, 9, none⟩) (Kd.S_far (p := ⟨gb333, 8, none⟩) (Kd.S_far (p := ⟨gb333, 7, none⟩) (Kd.S_far (p := ⟨gb333, 6, none⟩) (Kd.S_far (p := ⟨gb333, 5, none⟩) (Kd.S_far (p := ⟨gb333, 4, none⟩) (Kd.S_far (p := ⟨gb333, 3, none⟩) (Kd.S_far (p := ⟨gb333, 2, none⟩) (Kd.S_far (p := ⟨gb333, 1, none⟩) (Kd.S_far (p := ⟨gb333, 0, none⟩) (Kd.S_types HO313.out BK333.out (by decide)) (fun _ hk => hk.2) (.int .i64 t309)) (fun _ hk => hk.2) (.int .i64 t310)) (fun _ hk => hk.2) (.slice Ao33 t311.length co33)) (fun _ hk => hk.2) (.slice Ao34 t314.length co34)) (fun _ hk => hk.2) (.slice Ao35 t317.length co35)) (fun _ hk => hk.2) (.slice Ao36 t320.length co36)) (fun _ hk => hk.2) (.slice Ao37 t323.length co37)) (fun _ hk => hk.2) (.slice Ao38 t326.length co38)) (fun _ hk => hk.2) (.slice Ao39 t329.length co39)) (fun _ hk => hk.2) (.int .i64 t332)) (fun _ h_ => h_.1)))); (case side2 => exact (Kd.S_reads' HO313.out).2.1); (case side3 => refine (Kd.R_reads' (e := 3) (base := w.heap.size) (ok := fun k_ => ((((((nb Ao35 t317.length co35 k_ ∧ (nb Ao36 t320.length co36 k_ ∧ (nb Ao37 t323.length co37 k_ ∧ nb Ao38 t326.length co38 k_))) ∧ nb Ao21 t289.length co21 k_) ∧ nb Ao22 t292.length co22 k_) ∧ nb Ao23 t295.length co23 k_) ∧ nb Ao24 t298.length co24 k_) ∧ nb Ao25 t301.length co25 k_)) (n := t314.length) (c := co34) ?_).2.2; exact (frN (Kd.R_types HO316.out BK333.out (by decide)))); (case side4 => exact (Kd.R_reads' HO316.out).2.1); (case side5 => refine (Kd.R_reads' (e := 3) (base := w.heap.size) (ok := fun k_ => ((((((nb Ao34 t314.length co34 k_ ∧ (nb Ao36 t320.length co36 k_ ∧ (nb Ao37 t323.length co37 k_ ∧ nb Ao38 t326.length co38 k_))) ∧ nb Ao21 t289.length co21 k_) ∧ nb Ao22 t292.length co22 k_) ∧ nb Ao23 t295.length co23 k_) ∧ nb Ao24 t298.length co24 k_) ∧ nb Ao25 t301.length co25 k_)) (n := t317.length) (c := co35) ?_).2.2; exact (frN (Kd.R_types HO319.out BK333.out (by decide)))); (case side6 => exact (Kd.R_reads' HO319.out).2.1); (case side7 => refine (Kd.R_reads' (e := 3) (base := w.heap.size) (ok := fun k_ => ((((((nb Ao34 t314.length co34 k_ ∧ (nb Ao35 t317.length co35 k_ ∧ (nb Ao37 t323.length co37 k_ ∧ nb Ao38 t326.length co38 k_))) ∧ nb Ao21 t289.length co21 k_) ∧ nb Ao22 t292.length co22 k_) ∧ nb Ao23 t295.length co23 k_) ∧ nb Ao24 t298.length co24 k_) ∧ nb Ao25 t301.length co25 k_)) (n := t320.length) (c := co36) ?_).2.2; exact (frN (Kd.R_types HO322.out BK333.out (by decide)))); (case side8 => exact (Kd.R_reads' HO322.out).2.1); (case side9 => refine (Kd.R_reads' (e := 3) (base := w.heap.size) (ok := fun k_ => ((((((nb Ao34 t314.length co34 k_ ∧ (nb Ao35 t317.length co35 k_ ∧ (nb Ao36 t320.length co36 k_ ∧ nb Ao38 t326.length co38 k_))) ∧ nb Ao21 t289.length co21 k_) ∧ nb Ao22 t292.length co22 k_) ∧ nb Ao23 t295.length co23 k_) ∧ nb Ao24 t298.length co24 k_) ∧ nb Ao25 t301.length co25 k_)) (n := t323.length) (c := co37) ?_).2.2; exact (frN (Kd.R_types HO325.out BK333.out (by decide)))); (case side10 => exact (Kd.R_reads' HO325.out).2.1); (case side11 => refine (Kd.R_reads' (e := 3) (base := w.heap.size) (ok := fun k_ => ((((((nb Ao34 t314.length co34 k_ ∧ (nb Ao35 t317.length co35 k_ ∧ (nb Ao36 t320.length co36 k_ ∧ nb Ao37 t323.length co37 k_))) ∧ nb Ao21 t289.length co21 k_) ∧ nb Ao22 t292.length co22 k_) ∧ nb Ao23 t295.length co23 k_) ∧ nb Ao24 t298.length co24 k_) ∧ nb Ao25 t301.length co25 k_)) (n := t326.length) (c := co38) ?_).2.2; exact (frN (Kd.R_types HO328.out BK333.out (by decide)))); (case side12 => exact (Kd.R_reads' HO328.out).2.1); (case side13 => refine (Kd.R_reads' (e := 78) (base := w.heap.size) (ok := fun k_ => (True ∧ nb Ao26 t304.length co26 k_)) (n := t329.length) (c := co39) ?_).2.2; exact (frN (Kd.R_types HO331.out BK333.out (by decide)))); (case side14 => exact (Kd.R_reads' HO331.out).2.1); rintro e w40 ⟨rfl, hb⟩; refine ⟨_, rfl, ?_⟩; have n0_ := m_ (Kd.S_below (by (with_reducible repeat (first | apply Kd.S_alloc | apply Kd.S_drewN | apply Kd.S_drew)); exact (Kd.S_mono (Kd.S_far (p := ⟨gb333, 9, none⟩) (Kd.S_far (p := ⟨gb333, 8, none⟩) (Kd.S_far (p := ⟨gb333, 7, none⟩) (Kd.S_far (p := ⟨gb333, 6, none⟩) (Kd.S_far (p := ⟨gb333, 5, none⟩) (Kd.S_far (p := ⟨gb333, 4, none⟩) (Kd.S_far (p := ⟨gb333, 3, none⟩) (Kd.S_far (p := ⟨gb333, 2, none⟩) (Kd.S_far (p := ⟨gb333, 1, none⟩) (Kd.S_far (p := ⟨gb333, 0, none⟩) (Kd.S_types HO288.out BK333.out (by decide)) (fun _ hk => hk.2) (.int .i64 t309)) (fun _ hk => hk.2) (.int .i64 t310)) (fun _ hk => hk.2) (.slice Ao33 t311.length co33)) (fun _ hk => hk.2) (.slice Ao34 t314.length co34)) (fun _ hk => hk.2) (.slice Ao35 t317.length co35)) (fun _ hk => hk.2) (.slice Ao36 t320.length co36)) (fun _ hk => hk.2) (.slice Ao37 t323.length co37)) (fun _ hk => hk.2) (.slice Ao38 t326.length co38)) (fun _ hk => hk.2) (.slice Ao39 t329.length co39)) (fun _ hk => hk.2) (.int .i64 t332)) (fun _ h_ => h_.1))) hb); have n1_ := m_ (Kd.R_below (frN (Kd.R_types HO291.out BK333.out (by decide))) hb); have n2_ := m_ (Kd.R_below (frN (Kd.R_types HO294.out BK333.out (by decide))) hb); have n3_ := m_ (Kd.R_below (frN (Kd.R_types HO297.out BK333.out (by decide))) hb); have n4_ := m_ (Kd.R_below (frN (Kd.R_types HO300.out BK333.out (by decide))) hb); have n5_ := m_ (Kd.R_below (frN (Kd.R_types HO303.out BK333.out (by decide))) hb); have n6_ := m_ (Kd.R_below (frN (Kd.R_types HO306.out BK333.out (by decide))) hb); have n7_ := m_ (Kd.S_below (by (with_reducible repeat (first | apply Kd.S_alloc | apply Kd.S_drewN | apply Kd.S_drew)); exact (Kd.S_mono (Kd.S_far (p := ⟨gb333, 9, none⟩) (Kd.S_far (p := ⟨gb333, 8, none⟩) (Kd.S_far (p := ⟨gb333, 7, none⟩) (Kd.S_far (p := ⟨gb333, 6, none⟩) (Kd.S_far (p := ⟨gb333, 5, none⟩) (Kd.S_far (p := ⟨gb333, 4, none⟩) (Kd.S_far (p := ⟨gb333, 3, none⟩) (Kd.S_far (p := ⟨gb333, 2, none⟩) (Kd.S_far (p := ⟨gb333, 1, none⟩) (Kd.S_far (p := ⟨gb333, 0, none⟩) (Kd.S_types HO313.out BK333.out (by decide)) (fun _ hk => hk.2) (.int .i64 t309)) (fun _ hk => hk.2) (.int .i64 t310)) (fun _ hk => hk.2) (.slice Ao33 t311.length co33)) (fun _ hk => hk.2) (.slice Ao34 t314.length co34)) (fun _ hk => hk.2) (.slice Ao35 t317.length co35)) (fun _ hk => hk.2) (.slice Ao36 t320.length co36)) (fun _ hk => hk.2) (.slice Ao37 t323.length co37)) (fun _ hk => hk.2) (.slice Ao38 t326.length co38)) (fun _ hk => hk.2) (.slice Ao39 t329.length co39)) (fun _ hk => hk.2) (.int .i64 t332)) (fun _ h_ => h_.1))) hb); have n8_ := m_ (Kd.R_below (frN (Kd.R_types HO316.out BK333.out (by decide))) hb); have n9_ := m_ (Kd.R_below (frN (Kd.R_types HO319.out BK333.out (by decide))) hb); have n10_ := m_ (Kd.R_below (frN (Kd.R_types HO322.out BK333.out (by decide))) hb); have n11_ := m_ (Kd.R_below (frN (Kd.R_types HO325.out BK333.out (by decide))) hb); have n12_ := m_ (Kd.R_below (frN (Kd.R_types HO328.out BK333.out (by decide))) hb); have n13_ := m_ (Kd.R_below (frN (Kd.R_types HO331.out BK333.out (by decide))) hb); have n14_ := m_ (blk_below (g := gb282) (o := .cells #[.int .i64 a0_0, .int .i64 a0_1, .slice A0_2 l0_2.length c0_2, .slice A0_3 l0_3.length c0_3, .slice A0_4 l0_4.length c0_4, .slice A0_5 l0_5.length c0_5, .slice A0_6 l0_6.length c0_6, .slice A0_7 l0_7.length c0_7, .slice A0_8 l0_8.length c0_8, .int .i64 a0_9] 26 (0, 0)) (kF BK282.out NB282_333.out) hb); have n15_ := m_ (blk_below (g := gb333) (o := .cells #[.int .i64 t309, .int .i64 t310, .slice Ao33 t311.length co33, .slice Ao34 t314.length co34, .slice Ao35 t317.length co35, .slice Ao36 t320.length co36, .slice Ao37 t323.length co37, .slice Ao38 t326.length co38, .slice Ao39 t329.length co39, .int .i64 t332] 32 (0, 0)) (kP BK333.out) hb); have n16_ := m_ (below_step (bN HB.out) hb); clear HO288; clear HO291; clear HO294; clear HO297; clear HO300; clear HO303; clear HO306; clear HO313; clear HO316; clear HO319; clear HO322; clear HO325; clear HO328; clear HO331; clear BK282; clear BK333; clear HB; have HO288 := n0_; have HO291 := n1_; have HO294 := n2_; have HO297 := n3_; have HO300 := n4_; have HO303 := n5_; have HO306 := n6_; have HO313 := n7_; have HO316 := n8_; have HO319 := n9_; have HO322 := n10_; have HO325 := n11_; have HO328 := n12_; have HO331 := n13_; have BK282 := n14_; have BK333 := n15_; have HB := n16_; clear n0_ n1_ n2_ n3_ n4_ n5_ n6_ n7_ n8_ n9_ n10_ n11_ n12_ n13_ n14_ n15_ n16_; (try clear hb); (try clear hb2); (try clear hk); (try clear hi)))
    have n0_ := m_ (Kd.S_drew HO288.out)
    have n1_ := m_ (Kd.R_drew HO291.out)
    have n2_ := m_ (Kd.R_drew HO294.out)
    have n3_ := m_ (Kd.R_drew HO297.out)
    have n4_ := m_ (Kd.R_drew HO300.out)
    have n5_ := m_ (Kd.R_drew HO303.out)
    have n6_ := m_ (Kd.R_drew HO306.out)
    have n7_ := m_ (Kd.S_drew HO313.out)
    have n8_ := m_ (Kd.R_drew HO316.out)
    have n9_ := m_ (Kd.R_drew HO319.out)
    have n10_ := m_ (Kd.R_drew HO322.out)
    have n11_ := m_ (Kd.R_drew HO325.out)
    have n12_ := m_ (Kd.R_drew HO328.out)
    have n13_ := m_ (Kd.R_drew HO331.out)
    have n14_ := m_ (blk_drew BK282.out)
    have n15_ := m_ (blk_drew BK333.out)
    have n16_ := m_ (below_drew1 HB.out)
    clear HO288
    clear HO291
    clear HO294
    clear HO297
    clear HO300
    clear HO303
    clear HO306
    clear HO313
    clear HO316
    clear HO319
    clear HO322
    clear HO325
    clear HO328
    clear HO331
    clear BK282
    clear BK333
    clear HB
    have HO288 := n0_
    have HO291 := n1_
    have HO294 := n2_
    have HO297 := n3_
    have HO300 := n4_
    have HO303 := n5_
    have HO306 := n6_
    have HO313 := n7_
    have HO316 := n8_
    have HO319 := n9_
    have HO322 := n10_
    have HO325 := n11_
    have HO328 := n12_
    have HO331 := n13_
    have BK282 := n14_
    have BK333 := n15_
    have HB := n16_
    clear n0_ n1_ n2_ n3_ n4_ n5_ n6_ n7_ n8_ n9_ n10_ n11_ n12_ n13_ n14_ n15_ n16_
    refine start_ (n := 5) (S := fun w' => w'.cell? ⟨gb333, 0, none⟩ = some (.int .i64 t309) ∧ w'.cell? ⟨gb333, 1, none⟩ = some (.int .i64 t310) ∧ w'.cell? ⟨gb333, 2, none⟩ = some (.slice Ao33 t311.length co33) ∧ w'.cell? ⟨gb333, 3, none⟩ = some (.slice Ao34 t314.length co34) ∧ w'.cell? ⟨gb333, 4, none⟩ = some (.slice Ao35 t317.length co35) ∧ w'.cell? ⟨gb333, 5, none⟩ = some (.slice Ao36 t320.length co36) ∧ w'.cell? ⟨gb333, 6, none⟩ = some (.slice Ao37 t323.length co37) ∧ w'.cell? ⟨gb333, 7, none⟩ = some (.slice Ao38 t326.length co38) ∧ w'.cell? ⟨gb333, 8, none⟩ = some (.slice Ao39 t329.length co39) ∧ w'.cell? ⟨gb333, 9, none⟩ = some (.int .i64 t332) ∧ w'.cell? ⟨gb282, 0, none⟩ = some (.int .i64 a0_0) ∧ w'.cell? ⟨gb282, 1, none⟩ = some (.int .i64 a0_1) ∧ w'.cell? ⟨gb282, 2, none⟩ = some (.slice A0_2 l0_2.length c0_2) ∧ w'.cell? ⟨gb282, 3, none⟩ = some (.slice A0_3 l0_3.length c0_3) ∧ w'.cell? ⟨gb282, 4, none⟩ = some (.slice A0_4 l0_4.length c0_4) ∧ w'.cell? ⟨gb282, 5, none⟩ = some (.slice A0_5 l0_5.length c0_5) ∧ w'.cell? ⟨gb282, 6, none⟩ = some (.slice A0_6 l0_6.length c0_6) ∧ w'.cell? ⟨gb282, 7, none⟩ = some (.slice A0_7 l0_7.length c0_7) ∧ w'.cell? ⟨gb282, 8, none⟩ = some (.slice A0_8 l0_8.length c0_8) ∧ w'.cell? ⟨gb282, 9, none⟩ = some (.int .i64 a0_9)) (ds := []) #[false, false, false, false, false] (by kernel_rfl) rfl rfl ⟨bc BK333 0, bc BK333 1, bc BK333 2, bc BK333 3, bc BK333 4, bc BK333 5, bc BK333 6, bc BK333 7, bc BK333 8, bc BK333 9, bc BK282 0, bc BK282 1, bc BK282 2, bc BK282 3, bc BK282 4, bc BK282 5, bc BK282 6, bc BK282 7, bc BK282 8, bc BK282 9⟩ (fun hHeld => ?_)
    generalize w40.drew = w41 at HO288 HO291 HO294 HO297 HO300 HO303 HO306 HO313 HO316 HO319 HO322 HO325 HO328 HO331 BK282 BK333 HB hHeld ⊢
    refine take_ (i := 0) (N := some 22) (v := ?_) (a' := ?_) #[true, false, false, false, false] rfl rfl (by kernel_rfl) (fun _ _ _ h => h) (Or.inl ⟨by rfl, ?_⟩) hHeld ?_ ?_
    rotate_left
    ·rintro w' ⟨s0, s1, s2, s3, s4, s5, s6, s7, s8, s9, s10, s11, s12, s13, s14, s15, s16, s17, s18, s19⟩
     go_simp
     with_reducible rfl
    rotate_left
    ·simp only [Act.put, List.setIfInBounds_toArray, List.set_cons_zero, List.set_cons_succ, i64_w, i32_w]
     rfl
    refine take_ (i := 1) (N := some 23) (v := ?_) (a' := ?_) #[true, true, false, false, false] rfl rfl (by kernel_rfl) (fun _ _ _ h => h) (Or.inl ⟨by rfl, ?_⟩) hHeld ?_ ?_
    rotate_left
    ·rintro w' ⟨s0, s1, s2, s3, s4, s5, s6, s7, s8, s9, s10, s11, s12, s13, s14, s15, s16, s17, s18, s19⟩
     go_simp
     with_reducible rfl
    rotate_left
    ·simp only [Act.put, List.setIfInBounds_toArray, List.set_cons_zero, List.set_cons_succ, i64_w, i32_w]
     rfl
    refine one_ (i := 2) (N := some 24) #[true, true, true, false, false] rfl rfl (by kernel_rfl) (by decide) (fun K hK => ?_)
    refine goes_ Tryd.func11 (by kernel_rfl) rfl #[.agg #[.int .i64 a0_0, .int .i64 a0_1, .slice A0_2 l0_2.length c0_2, .slice A0_3 l0_3.length c0_3, .slice A0_4 l0_4.length c0_4, .slice A0_5 l0_5.length c0_5, .slice A0_6 l0_6.length c0_6, .slice A0_7 l0_7.length c0_7, .slice A0_8 l0_8.length c0_8, .int .i64 a0_9]] (by rfl) rfl rfl gl_ ?_
    with_reducible refine (laws_toConf.calls k a0_0 a0_1 _ _ l0_2 _ _ l0_3 _ _ l0_4 _ _ l0_5 _ _ l0_6 _ _ l0_7 _ _ l0_8 a0_9 t335 t336 t337 t340 t343 t346 t349 t352 t355 t358 _ ?side1 ?side2 ?side3 ?side4 ?side5 ?side6 ?side7 ?side8 ?side9 ?side10 ?side11 ?side12 ?side13 ?side14 A12.out).mono ?_
    (case side1 => exact cN (Kd.C_below HR0_2.out HB.out))
    (case side2 => exact HC0_2.out)
    (case side3 => exact cN (Kd.C_below HR0_3.out HB.out))
    (case side4 => exact HC0_3.out)
    (case side5 => exact cN (Kd.C_below HR0_4.out HB.out))
    (case side6 => exact HC0_4.out)
    (case side7 => exact cN (Kd.C_below HR0_5.out HB.out))
    (case side8 => exact HC0_5.out)
    (case side9 => exact cN (Kd.C_below HR0_6.out HB.out))
    (case side10 => exact HC0_6.out)
    (case side11 => exact cN (Kd.C_below HR0_7.out HB.out))
    (case side12 => exact HC0_7.out)
    (case side13 => exact cN (Kd.C_below HR0_8.out HB.out))
    (case side14 => exact HC0_8.out)
    rintro e w42 ⟨v338, v341, v344, v347, v350, v353, v356, rfl, ho0, ho1, ho2, ho3, ho4, ho5, ho6, hb⟩
    refine ⟨_, rfl, ?_⟩
    have n0_ := m_ (Kd.S_elder' (by (with_reducible repeat (first | apply Kd.S_alloc | apply Kd.S_drewN | apply Kd.S_drew)); exact HO288.out) (Kd.S_base ho0) hb)
    have n1_ := m_ (Kd.R_mono (Kd.R_told (Kd.R_told (Kd.R_told (Kd.R_told (Kd.R_told (Kd.R_old (rN HO291.out) hb) (Kd.R_base ho1)) (Kd.R_base ho2)) (Kd.R_base ho3)) (Kd.R_base ho4)) (Kd.R_base ho5)) (fun _ h_ => h_.1))
    have n2_ := m_ (Kd.R_mono (Kd.R_told (Kd.R_told (Kd.R_told (Kd.R_told (Kd.R_told (Kd.R_old (rN HO294.out) hb) (Kd.R_base ho1)) (Kd.R_base ho2)) (Kd.R_base ho3)) (Kd.R_base ho4)) (Kd.R_base ho5)) (fun _ h_ => h_.1))
    have n3_ := m_ (Kd.R_mono (Kd.R_told (Kd.R_told (Kd.R_told (Kd.R_told (Kd.R_told (Kd.R_old (rN HO297.out) hb) (Kd.R_base ho1)) (Kd.R_base ho2)) (Kd.R_base ho3)) (Kd.R_base ho4)) (Kd.R_base ho5)) (fun _ h_ => h_.1))
    have n4_ := m_ (Kd.R_mono (Kd.R_told (Kd.R_told (Kd.R_told (Kd.R_told (Kd.R_told (Kd.R_old (rN HO300.out) hb) (Kd.R_base ho1)) (Kd.R_base ho2)) (Kd.R_base ho3)) (Kd.R_base ho4)) (Kd.R_base ho5)) (fun _ h_ => h_.1))
    have n5_ := m_ (Kd.R_mono (Kd.R_told (Kd.R_told (Kd.R_told (Kd.R_told (Kd.R_told (Kd.R_old (rN HO303.out) hb) (Kd.R_base ho1)) (Kd.R_base ho2)) (Kd.R_base ho3)) (Kd.R_base ho4)) (Kd.R_base ho5)) (fun _ h_ => h_.1))
    have n6_ := m_ (Kd.R_elder' (rN HO306.out) (Kd.R_base ho6) hb)
    have n7_ := m_ (Kd.S_elder' (by (with_reducible repeat (first | apply Kd.S_alloc | apply Kd.S_drewN | apply Kd.S_drew)); exact HO313.out) (Kd.S_base ho0) hb)
    have n8_ := m_ (Kd.R_mono (Kd.R_told (Kd.R_told (Kd.R_told (Kd.R_told (Kd.R_told (Kd.R_old (rN HO316.out) hb) (Kd.R_base ho1)) (Kd.R_base ho2)) (Kd.R_base ho3)) (Kd.R_base ho4)) (Kd.R_base ho5)) (fun _ h_ => h_.1))
    have n9_ := m_ (Kd.R_mono (Kd.R_told (Kd.R_told (Kd.R_told (Kd.R_told (Kd.R_told (Kd.R_old (rN HO319.out) hb) (Kd.R_base ho1)) (Kd.R_base ho2)) (Kd.R_base ho3)) (Kd.R_base ho4)) (Kd.R_base ho5)) (fun _ h_ => h_.1))
    have n10_ := m_ (Kd.R_mono (Kd.R_told (Kd.R_told (Kd.R_told (Kd.R_told (Kd.R_told (Kd.R_old (rN HO322.out) hb) (Kd.R_base ho1)) (Kd.R_base ho2)) (Kd.R_base ho3)) (Kd.R_base ho4)) (Kd.R_base ho5)) (fun _ h_ => h_.1))
    have n11_ := m_ (Kd.R_mono (Kd.R_told (Kd.R_told (Kd.R_told (Kd.R_told (Kd.R_told (Kd.R_old (rN HO325.out) hb) (Kd.R_base ho1)) (Kd.R_base ho2)) (Kd.R_base ho3)) (Kd.R_base ho4)) (Kd.R_base ho5)) (fun _ h_ => h_.1))
    have n12_ := m_ (Kd.R_mono (Kd.R_told (Kd.R_told (Kd.R_told (Kd.R_told (Kd.R_told (Kd.R_old (rN HO328.out) hb) (Kd.R_base ho1)) (Kd.R_base ho2)) (Kd.R_base ho3)) (Kd.R_base ho4)) (Kd.R_base ho5)) (fun _ h_ => h_.1))
    have n13_ := m_ (Kd.R_elder' (rN HO331.out) (Kd.R_base ho6) hb)
    have n14_ := m_ (Kd.S_lower (Kd.S_new' (Kd.S_new' ho0 (Kd.S_lt (by (with_reducible repeat (first | apply Kd.S_alloc | apply Kd.S_drewN | apply Kd.S_drew)); exact HO288.out))) (Kd.S_lt (by (with_reducible repeat (first | apply Kd.S_alloc | apply Kd.S_drewN | apply Kd.S_drew)); exact HO313.out))) (below_size (bN HB.out)))
    have n15_ := m_ (Kd.R_lower (Kd.R_new' (Kd.R_new' (Kd.R_new' (Kd.R_new' (Kd.R_new' (Kd.R_new' (Kd.R_new' (Kd.R_new' (Kd.R_new' (Kd.R_new' ho1 (Kd.R_lt (rN HO291.out))) (Kd.R_lt (rN HO294.out))) (Kd.R_lt (rN HO297.out))) (Kd.R_lt (rN HO300.out))) (Kd.R_lt (rN HO303.out))) (Kd.R_lt (rN HO316.out))) (Kd.R_lt (rN HO319.out))) (Kd.R_lt (rN HO322.out))) (Kd.R_lt (rN HO325.out))) (Kd.R_lt (rN HO328.out))) (below_size (bN HB.out)))
    have n16_ := m_ (Kd.R_lower (Kd.R_new' (Kd.R_new' (Kd.R_new' (Kd.R_new' (Kd.R_new' (Kd.R_new' (Kd.R_new' (Kd.R_new' (Kd.R_new' (Kd.R_new' ho2 (Kd.R_lt (rN HO291.out))) (Kd.R_lt (rN HO294.out))) (Kd.R_lt (rN HO297.out))) (Kd.R_lt (rN HO300.out))) (Kd.R_lt (rN HO303.out))) (Kd.R_lt (rN HO316.out))) (Kd.R_lt (rN HO319.out))) (Kd.R_lt (rN HO322.out))) (Kd.R_lt (rN HO325.out))) (Kd.R_lt (rN HO328.out))) (below_size (bN HB.out)))
    have n17_ := m_ (Kd.R_lower (Kd.R_new' (Kd.R_new' (Kd.R_new' (Kd.R_new' (Kd.R_new' (Kd.R_new' (Kd.R_new' (Kd.R_new' (Kd.R_new' (Kd.R_new' ho3 (Kd.R_lt (rN HO291.out))) (Kd.R_lt (rN HO294.out))) (Kd.R_lt (rN HO297.out))) (Kd.R_lt (rN HO300.out))) (Kd.R_lt (rN HO303.out))) (Kd.R_lt (rN HO316.out))) (Kd.R_lt (rN HO319.out))) (Kd.R_lt (rN HO322.out))) (Kd.R_lt (rN HO325.out))) (Kd.R_lt (rN HO328.out))) (below_size (bN HB.out)))
    have n18_ := m_ (Kd.R_lower (Kd.R_new' (Kd.R_new' (Kd.R_new' (Kd.R_new' (Kd.R_new' (Kd.R_new' (Kd.R_new' (Kd.R_new' (Kd.R_new' (Kd.R_new' ho4 (Kd.R_lt (rN HO291.out))) (Kd.R_lt (rN HO294.out))) (Kd.R_lt (rN HO297.out))) (Kd.R_lt (rN HO300.out))) (Kd.R_lt (rN HO303.out))) (Kd.R_lt (rN HO316.out))) (Kd.R_lt (rN HO319.out))) (Kd.R_lt (rN HO322.out))) (Kd.R_lt (rN HO325.out))) (Kd.R_lt (rN HO328.out))) (below_size (bN HB.out)))
    have n19_ := m_ (Kd.R_lower (Kd.R_new' (Kd.R_new' (Kd.R_new' (Kd.R_new' (Kd.R_new' (Kd.R_new' (Kd.R_new' (Kd.R_new' (Kd.R_new' (Kd.R_new' ho5 (Kd.R_lt (rN HO291.out))) (Kd.R_lt (rN HO294.out))) (Kd.R_lt (rN HO297.out))) (Kd.R_lt (rN HO300.out))) (Kd.R_lt (rN HO303.out))) (Kd.R_lt (rN HO316.out))) (Kd.R_lt (rN HO319.out))) (Kd.R_lt (rN HO322.out))) (Kd.R_lt (rN HO325.out))) (Kd.R_lt (rN HO328.out))) (below_size (bN HB.out)))
    have n20_ := m_ (Kd.R_lower (Kd.R_new' (Kd.R_new' ho6 (Kd.R_lt (rN HO306.out))) (Kd.R_lt (rN HO331.out))) (below_size (bN HB.out)))
    have n21_ := m_ (blk_below (kN BK282.out) hb)
    have n22_ := m_ (blk_below (kN BK333.out) hb)
    have n23_ := m_ (below_step (bN HB.out) hb)
    clear HO288
    clear HO291
    clear HO294
    clear HO297
    clear HO300
    clear HO303
    clear HO306
    clear HO313
    clear HO316
    clear HO319
    clear HO322
    clear HO325
    clear HO328
    clear HO331
    clear BK282
    clear BK333
    clear HB
    have HO288 := n0_
    have HO291 := n1_
    have HO294 := n2_
    have HO297 := n3_
    have HO300 := n4_
    have HO303 := n5_
    have HO306 := n6_
    have HO313 := n7_
    have HO316 := n8_
    have HO319 := n9_
    have HO322 := n10_
    have HO325 := n11_
    have HO328 := n12_
    have HO331 := n13_
    have HO339 := n14_
    have HO342 := n15_
    have HO345 := n16_
    have HO348 := n17_
    have HO351 := n18_
    have HO354 := n19_
    have HO357 := n20_
    have BK282 := n21_
    have BK333 := n22_
    have HB := n23_
    clear n0_ n1_ n2_ n3_ n4_ n5_ n6_ n7_ n8_ n9_ n10_ n11_ n12_ n13_ n14_ n15_ n16_ n17_ n18_ n19_ n20_ n21_ n22_ n23_
    (try clear hb)
    (try clear hb2)
    (try clear hk)
    (try clear hi)
    (try clear ho0)
    (try clear ho1)
    (try clear ho2)
    (try clear ho3)
    (try clear ho4)
    (try clear ho5)
    (try clear ho6)
    obtain ⟨Ao43, co43, eo43⟩ := Kd.S_slice HO339.out
    (first | subst eo43 | (injection eo43 with f1_ f2_ f3_; have f4_ := f1_.symm; have f5_ := f3_.symm; clear f1_ f2_ f3_; subst f4_; subst f5_))
    obtain ⟨Ao44, co44, eo44⟩ := Kd.R_slice HO342.out
    (first | subst eo44 | (injection eo44 with f1_ f2_ f3_; have f4_ := f1_.symm; have f5_ := f3_.symm; clear f1_ f2_ f3_; subst f4_; subst f5_))
    obtain ⟨Ao45, co45, eo45⟩ := Kd.R_slice HO345.out
    (first | subst eo45 | (injection eo45 with f1_ f2_ f3_; have f4_ := f1_.symm; have f5_ := f3_.symm; clear f1_ f2_ f3_; subst f4_; subst f5_))
    obtain ⟨Ao46, co46, eo46⟩ := Kd.R_slice HO348.out
    (first | subst eo46 | (injection eo46 with f1_ f2_ f3_; have f4_ := f1_.symm; have f5_ := f3_.symm; clear f1_ f2_ f3_; subst f4_; subst f5_))
    obtain ⟨Ao47, co47, eo47⟩ := Kd.R_slice HO351.out
    (first | subst eo47 | (injection eo47 with f1_ f2_ f3_; have f4_ := f1_.symm; have f5_ := f3_.symm; clear f1_ f2_ f3_; subst f4_; subst f5_))
    obtain ⟨Ao48, co48, eo48⟩ := Kd.R_slice HO354.out
    (first | subst eo48 | (injection eo48 with f1_ f2_ f3_; have f4_ := f1_.symm; have f5_ := f3_.symm; clear f1_ f2_ f3_; subst f4_; subst f5_))
    obtain ⟨Ao49, co49, eo49⟩ := Kd.R_slice HO357.out
    (first | subst eo49 | (injection eo49 with f1_ f2_ f3_; have f4_ := f1_.symm; have f5_ := f3_.symm; clear f1_ f2_ f3_; subst f4_; subst f5_))
    refine hK.out _ _ ⟨bc BK333 0, bc BK333 1, bc BK333 2, bc BK333 3, bc BK333 4, bc BK333 5, bc BK333 6, bc BK333 7, bc BK333 8, bc BK333 9, bc BK282 0, bc BK282 1, bc BK282 2, bc BK282 3, bc BK282 4, bc BK282 5, bc BK282 6, bc BK282 7, bc BK282 8, bc BK282 9⟩ (fun hHeld => ?_)
    clear hK K
    refine np (h := ?_)
    refine one_ (i := 3) (N := some 25) #[true, true, true, true, false] rfl rfl (by kernel_rfl) (by decide) (fun K hK => ?_)
    refine goes_ Tryd.func13 (by kernel_rfl) rfl #[.agg #[.int .i64 t309, .int .i64 t310, .slice Ao33 t311.length co33, .slice Ao34 t314.length co34, .slice Ao35 t317.length co35, .slice Ao36 t320.length co36, .slice Ao37 t323.length co37, .slice Ao38 t326.length co38, .slice Ao39 t329.length co39, .int .i64 t332], .agg #[.int .i64 t335, .int .i64 t336, .slice Ao43 t337.length co43, .slice Ao44 t340.length co44, .slice Ao45 t343.length co45, .slice Ao46 t346.length co46, .slice Ao47 t349.length co47, .slice Ao48 t352.length co48, .slice Ao49 t355.length co49, .int .i64 t358]] (by rfl) rfl rfl gl_ ?_
    with_reducible refine (laws_eqConf.calls k t309 t310 _ _ t311 _ _ t314 _ _ t317 _ _ t320 _ _ t323 _ _ t326 _ _ t329 t332 t335 t336 _ _ t337 _ _ t340 _ _ t343 _ _ t346 _ _ t349 _ _ t352 _ _ t355 t358 true _ ?side1 ?side2 ?side3 ?side4 ?side5 ?side6 ?side7 ?side8 ?side9 ?side10 ?side11 ?side12 ?side13 ?side14 ?side15 ?side16 ?side17 ?side18 ?side19 ?side20 ?side21 ?side22 ?side23 ?side24 ?side25 ?side26 ?side27 ?side28 A13.out).mono ?_
    (case side1 => exact cN (Kd.S_reads' HO313.out).2.2)
    (case side2 => exact (Kd.S_reads' HO313.out).2.1)
    (case side3 => exact cN (Kd.R_reads' HO316.out).2.2)
    (case side4 => exact (Kd.R_reads' HO316.out).2.1)
    (case side5 => exact cN (Kd.R_reads' HO319.out).2.2)
    (case side6 => exact (Kd.R_reads' HO319.out).2.1)
    (case side7 => exact cN (Kd.R_reads' HO322.out).2.2)
    (case side8 => exact (Kd.R_reads' HO322.out).2.1)
    (case side9 => exact cN (Kd.R_reads' HO325.out).2.2)
    (case side10 => exact (Kd.R_reads' HO325.out).2.1)
    (case side11 => exact cN (Kd.R_reads' HO328.out).2.2)
    (case side12 => exact (Kd.R_reads' HO328.out).2.1)
    (case side13 => exact cN (Kd.R_reads' HO331.out).2.2)
    (case side14 => exact (Kd.R_reads' HO331.out).2.1)
    (case side15 => exact cN (Kd.S_reads' HO339.out).2.2)
    (case side16 => exact (Kd.S_reads' HO339.out).2.1)
    (case side17 => exact cN (Kd.R_reads' HO342.out).2.2)
    (case side18 => exact (Kd.R_reads' HO342.out).2.1)
    (case side19 => exact cN (Kd.R_reads' HO345.out).2.2)
    (case side20 => exact (Kd.R_reads' HO345.out).2.1)
    (case side21 => exact cN (Kd.R_reads' HO348.out).2.2)
    (case side22 => exact (Kd.R_reads' HO348.out).2.1)
    (case side23 => exact cN (Kd.R_reads' HO351.out).2.2)
    (case side24 => exact (Kd.R_reads' HO351.out).2.1)
    (case side25 => exact cN (Kd.R_reads' HO354.out).2.2)
    (case side26 => exact (Kd.R_reads' HO354.out).2.1)
    (case side27 => exact cN (Kd.R_reads' HO357.out).2.2)
    (case side28 => exact (Kd.R_reads' HO357.out).2.1)
    rintro e w50 ⟨rfl, hb⟩
    refine ⟨_, rfl, ?_⟩
    have n0_ := m_ (Kd.S_below (by (with_reducible repeat (first | apply Kd.S_alloc | apply Kd.S_drewN | apply Kd.S_drew)); exact HO288.out) hb)
    have n1_ := m_ (Kd.R_below (rN HO291.out) hb)
    have n2_ := m_ (Kd.R_below (rN HO294.out) hb)
    have n3_ := m_ (Kd.R_below (rN HO297.out) hb)
    have n4_ := m_ (Kd.R_below (rN HO300.out) hb)
    have n5_ := m_ (Kd.R_below (rN HO303.out) hb)
    have n6_ := m_ (Kd.R_below (rN HO306.out) hb)
    have n7_ := m_ (Kd.S_below (by (with_reducible repeat (first | apply Kd.S_alloc | apply Kd.S_drewN | apply Kd.S_drew)); exact HO313.out) hb)
    have n8_ := m_ (Kd.R_below (rN HO316.out) hb)
    have n9_ := m_ (Kd.R_below (rN HO319.out) hb)
    have n10_ := m_ (Kd.R_below (rN HO322.out) hb)
    have n11_ := m_ (Kd.R_below (rN HO325.out) hb)
    have n12_ := m_ (Kd.R_below (rN HO328.out) hb)
    have n13_ := m_ (Kd.R_below (rN HO331.out) hb)
    have n14_ := m_ (Kd.S_below (by (with_reducible repeat (first | apply Kd.S_alloc | apply Kd.S_drewN | apply Kd.S_drew)); exact HO339.out) hb)
    have n15_ := m_ (Kd.R_below (rN HO342.out) hb)
    have n16_ := m_ (Kd.R_below (rN HO345.out) hb)
    have n17_ := m_ (Kd.R_below (rN HO348.out) hb)
    have n18_ := m_ (Kd.R_below (rN HO351.out) hb)
    have n19_ := m_ (Kd.R_below (rN HO354.out) hb)
    have n20_ := m_ (Kd.R_below (rN HO357.out) hb)
    have n21_ := m_ (blk_below (kN BK282.out) hb)
    have n22_ := m_ (blk_below (kN BK333.out) hb)
    have n23_ := m_ (below_step (bN HB.out) hb)
    clear HO288
    clear HO291
    clear HO294
    clear HO297
    clear HO300
    clear HO303
    clear HO306
    clear HO313
    clear HO316
    clear HO319
    clear HO322
    clear HO325
    clear HO328
    clear HO331
    clear HO339
    clear HO342
    clear HO345
    clear HO348
    clear HO351
    clear HO354
    clear HO357
    clear BK282
    clear BK333
    clear HB
    have HO288 := n0_
    have HO291 := n1_
    have HO294 := n2_
    have HO297 := n3_
    have HO300 := n4_
    have HO303 := n5_
    have HO306 := n6_
    have HO313 := n7_
    have HO316 := n8_
    have HO319 := n9_
    have HO322 := n10_
    have HO325 := n11_
    have HO328 := n12_
    have HO331 := n13_
    have HO339 := n14_
    have HO342 := n15_
    have HO345 := n16_
    have HO348 := n17_
    have HO351 := n18_
    have HO354 := n19_
    have HO357 := n20_
    have BK282 := n21_
    have BK333 := n22_
    have HB := n23_
    clear n0_ n1_ n2_ n3_ n4_ n5_ n6_ n7_ n8_ n9_ n10_ n11_ n12_ n13_ n14_ n15_ n16_ n17_ n18_ n19_ n20_ n21_ n22_ n23_
    (try clear hb)
    (try clear hb2)
    (try clear hk)
    (try clear hi)
    refine hK.out _ _ ⟨bc BK333 0, bc BK333 1, bc BK333 2, bc BK333 3, bc BK333 4, bc BK333 5, bc BK333 6, bc BK333 7, bc BK333 8, bc BK333 9, bc BK282 0, bc BK282 1, bc BK282 2, bc BK282 3, bc BK282 4, bc BK282 5, bc BK282 6, bc BK282 7, bc BK282 8, bc BK282 9⟩ (fun hHeld => ?_)
    clear hK K
    refine np (h := ?_)
    refine pure_ (i := 4) (N := some 26) (v := ?_) (a' := ?_) #[true, true, true, true, true] rfl rfl (by kernel_rfl) (fun _ _ _ h => h) (Or.inl ⟨by rfl, ?_⟩) ?_ ?_
    rotate_left
    ·intro w'
     go_simp
     with_reducible rfl
    rotate_left
    ·simp only [Act.put, List.setIfInBounds_toArray, List.set_cons_zero, List.set_cons_succ, i64_w, i32_w]
     rfl
    refine done_ (by kernel_rfl) ?_
    try go_wp2
    go_ret
    exact ⟨by first | rfl | (simp [errW_none, errW_some] <;> rfl) | (simp [*, errW_none, errW_some] <;> rfl), by repeat (first | (with_reducible first | exact HB.out | apply below_alloc | apply pw_below_drewN | apply below_drew1 | refine below_set ?_ GE282.out | refine below_set ?_ GE333.out) | exact HB.out)⟩
   ·replace c14 := Bool.eq_false_iff.mpr c14
    subst c14
    have H1 : (none) = some r := by rw [if_neg (show ¬ (false = true) by decide)] at H; exact H
    exact absurd H1 (by simp)
  ·rw [if_neg c11] at H
   exact absurd H (by simp)

end Go.Proofs.YtcenmlpfbpogoaaDoor.P
