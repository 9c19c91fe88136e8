/- The machine side of these statements, function by function: what each Go function answers (as a Lean function), and that it does. Written by a program (mp.py) for this claim. -/
import Derived.Test.YtcenmlpfbpogoaaDoorPx0
import Derived.Test.YtcenmlpfbpogoaaDoorPx1
import Derived.Test.YtcenmlpfbpogoaaDoorPx2
import Derived.Test.YtcenmlpfbpogoaaDoorPx3
import Derived.Test.YtcenmlpfbpogoaaDoorPx8
import Derived.Test.YtcenmlpfbpogoaaDoorPx16
namespace Go.Proofs.YtcenmlpfbpogoaaDoor.P
open Go.RowKit Go.Proofs.YtcenmlpfbpogoaaDoorW.PrintWords Go.Proofs.YtcenmlpfbpogoaaDoorW.PrintLast Go.Proofs.YtcenmlpfbpogoaaDoorW.PrintMore
attribute [local go_sem] max2_int min2_int max_two min_two max_three min_three max_four min_four   -- for this text's walks alone
set_option linter.unusedVariables false
set_option linter.unusedSimpArgs false

/-! ### laws_FnExactConfTurn: function 3 -/
def laws_FnExactConfTurn.f (k : Nat) (a0_0 : Int) (a0_1 : Int) (l0_2 : List (List (S109))) (l0_3 : List Int) (l0_4 : List Int) (l0_5 : List Int) (l0_6 : List Int) (l0_7 : List Int) (l0_8 : List (S80)) (a0_9 : Int) (a1 : Int) (a2 : Int) : Option (Bool) := (laws_szConf.f k a0_0 a0_1 l0_2 l0_3 l0_4 l0_5 l0_6 l0_7 l0_8 a0_9 1048576).bind fun t460 => (if t460 < 0 then (some true) else ((laws_toConf.f k a0_0 a0_1 l0_2 l0_3 l0_4 l0_5 l0_6 l0_7 l0_8 a0_9).bind fun bt461 => ((spec_ConfTurn.f k bt461.1 bt461.2.1 bt461.2.2.1 bt461.2.2.2.1 bt461.2.2.2.2.1 bt461.2.2.2.2.2.1 bt461.2.2.2.2.2.2.1 bt461.2.2.2.2.2.2.2.1 bt461.2.2.2.2.2.2.2.2.1 bt461.2.2.2.2.2.2.2.2.2 a1 a2).bind fun t485 => ((laws_toConf.f k a0_0 a0_1 l0_2 l0_3 l0_4 l0_5 l0_6 l0_7 l0_8 a0_9).bind fun bt486 => ((impl_ConfTurn.f k bt486.1 bt486.2.1 bt486.2.2.1 bt486.2.2.2.1 bt486.2.2.2.2.1 bt486.2.2.2.2.2.1 bt486.2.2.2.2.2.2.1 bt486.2.2.2.2.2.2.2.1 bt486.2.2.2.2.2.2.2.2.1 bt486.2.2.2.2.2.2.2.2.2 a1 a2).bind fun t511 => (if t511 = t485 then ((laws_toConf.f k a0_0 a0_1 l0_2 l0_3 l0_4 l0_5 l0_6 l0_7 l0_8 a0_9).bind fun bt512 => ((laws_eqConf.f k bt486.1 bt486.2.1 bt486.2.2.1 bt486.2.2.2.1 bt486.2.2.2.2.1 bt486.2.2.2.2.2.1 bt486.2.2.2.2.2.2.1 bt486.2.2.2.2.2.2.2.1 bt486.2.2.2.2.2.2.2.2.1 bt486.2.2.2.2.2.2.2.2.2 bt512.1 bt512.2.1 bt512.2.2.1 bt512.2.2.2.1 bt512.2.2.2.2.1 bt512.2.2.2.2.2.1 bt512.2.2.2.2.2.2.1 bt512.2.2.2.2.2.2.2.1 bt512.2.2.2.2.2.2.2.2.1 bt512.2.2.2.2.2.2.2.2.2).bind fun t536 => (if t536 = true then (some true) else (none)))) else (none)))))))
theorem laws_FnExactConfTurn.mono : ∀ a0 a1 a2 a3 a4 a5 a6 a7 a8 a9 a10 a11 k, LeO (laws_FnExactConfTurn.f k a0 a1 a2 a3 a4 a5 a6 a7 a8 a9 a10 a11) (laws_FnExactConfTurn.f (k + 1) a0 a1 a2 a3 a4 a5 a6 a7 a8 a9 a10 a11) := by
 intro a0 a1 a2 a3 a4 a5 a6 a7 a8 a9 a10 a11 k
 unfold laws_FnExactConfTurn.f
 repeat' first
   | (with_reducible exact impl_ConfTurn.mono _ _ _ _ _ _ _ _ _ _ _ _ _)
   | (with_reducible exact laws_eqConf.mono _ _ _ _ _ _ _ _ _ _ _ _ _ _ _ _ _ _ _ _ _)
   | (with_reducible exact laws_szConf.mono _ _ _ _ _ _ _ _ _ _ _ _)
   | (with_reducible exact laws_toConf.mono _ _ _ _ _ _ _ _ _ _ _)
   | (with_reducible exact spec_ConfTurn.mono _ _ _ _ _ _ _ _ _ _ _ _ _)
   | (with_reducible exact LeO.refl _)
   | (with_reducible exact LeO.none _)
   | (with_reducible refine LeO.ite ?_ ?_)
   | (with_reducible refine LeO.bind ?_ (fun _ => ?_))
   | exact impl_ConfTurn.mono _ _ _ _ _ _ _ _ _ _ _ _ _
   | exact laws_eqConf.mono _ _ _ _ _ _ _ _ _ _ _ _ _ _ _ _ _ _ _ _ _
   | exact laws_szConf.mono _ _ _ _ _ _ _ _ _ _ _ _
   | exact laws_toConf.mono _ _ _ _ _ _ _ _ _ _ _
   | exact spec_ConfTurn.mono _ _ _ _ _ _ _ _ _ _ _ _ _
   | exact LeO.none _
   | refine LeO.ite ?_ ?_
   | refine LeO.bind ?_ (fun _ => ?_)
set_option maxHeartbeats 8000000 in
set_option maxRecDepth 100000 in
theorem laws_FnExactConfTurn.calls (k : Nat) (a0_0 : Int) (a0_1 : Int) (A0_2 : Option Addr) (c0_2 : Nat) (l0_2 : List (List (S109))) (A0_3 : Option Addr) (c0_3 : Nat) (l0_3 : List Int) (A0_4 : Option Addr) (c0_4 : Nat) (l0_4 : List Int) (A0_5 : Option Addr) (c0_5 : Nat) (l0_5 : List Int) (A0_6 : Option Addr) (c0_6 : Nat) (l0_6 : List Int) (A0_7 : Option Addr) (c0_7 : Nat) (l0_7 : List Int) (A0_8 : Option Addr) (c0_8 : Nat) (l0_8 : List (S80)) (a0_9 : Int) (a1 : Int) (a2 : Int) (r : Bool) (w : World) (hr0_2 : Kd.C (Kd.slice 109 k109) w A0_2 l0_2.length l0_2) (hc0_2 : l0_2.length ≤ c0_2) (hr0_3 : Kd.C (Kd.int .i64) w A0_3 l0_3.length l0_3) (hc0_3 : l0_3.length ≤ c0_3) (hr0_4 : Kd.C (Kd.int .i64) w A0_4 l0_4.length l0_4) (hc0_4 : l0_4.length ≤ c0_4) (hr0_5 : Kd.C (Kd.int .i64) w A0_5 l0_5.length l0_5) (hc0_5 : l0_5.length ≤ c0_5) (hr0_6 : Kd.C (Kd.int .i64) w A0_6 l0_6.length l0_6) (hc0_6 : l0_6.length ≤ c0_6) (hr0_7 : Kd.C (Kd.int .i64) w A0_7 l0_7.length l0_7) (hc0_7 : l0_7.length ≤ c0_7) (hr0_8 : Kd.C k80 w A0_8 l0_8.length l0_8) (hc0_8 : l0_8.length ≤ c0_8) (h : laws_FnExactConfTurn.f k a0_0 a0_1 l0_2 l0_3 l0_4 l0_5 l0_6 l0_7 l0_8 a0_9 a1 a2 = some r) (hG : GErr w) :
  Calls Tryd.prog 3 #[.agg #[.int .i64 a0_0, .int .i64 a0_1, .slice A0_2 l0_2.length c0_2, .slice A0_3 l0_3.length c0_3, .slice A0_4 l0_4.length c0_4, .slice A0_5 l0_5.length c0_5, .slice A0_6 l0_6.length c0_6, .slice A0_7 l0_7.length c0_7, .slice A0_8 l0_8.length c0_8, .int .i64 a0_9], .int .i64 a1, .int .i64 a2] w fun e w' => e = .returned (.bool r) ∧ Below w.heap.size w w' := by
 have HG0 := Aside0.mk hG
 clear hG
 have hu26 := Tryd.underlying26
 have hu32 := Tryd.underlying32
 have HR0_2 := Aside0.mk hr0_2
 have HC0_2 := Aside0.mk hc0_2
 clear hr0_2 hc0_2
 have HR0_3 := Aside0.mk hr0_3
 have HC0_3 := Aside0.mk hc0_3
 clear hr0_3 hc0_3
 have HR0_4 := Aside0.mk hr0_4
 have HC0_4 := Aside0.mk hc0_4
 clear hr0_4 hc0_4
 have HR0_5 := Aside0.mk hr0_5
 have HC0_5 := Aside0.mk hc0_5
 clear hr0_5 hc0_5
 have HR0_6 := Aside0.mk hr0_6
 have HC0_6 := Aside0.mk hc0_6
 clear hr0_6 hc0_6
 have HR0_7 := Aside0.mk hr0_7
 have HC0_7 := Aside0.mk hc0_7
 clear hr0_7 hc0_7
 have HR0_8 := Aside0.mk hr0_8
 have HC0_8 := Aside0.mk hc0_8
 clear hr0_8 hc0_8
 have HB := m_ (Below.refl w.heap.size w)
 have H : ((laws_szConf.f k a0_0 a0_1 l0_2 l0_3 l0_4 l0_5 l0_6 l0_7 l0_8 a0_9 1048576).bind fun t460 => (if t460 < 0 then (some true) else ((laws_toConf.f k a0_0 a0_1 l0_2 l0_3 l0_4 l0_5 l0_6 l0_7 l0_8 a0_9).bind fun bt461 => ((spec_ConfTurn.f k bt461.1 bt461.2.1 bt461.2.2.1 bt461.2.2.2.1 bt461.2.2.2.2.1 bt461.2.2.2.2.2.1 bt461.2.2.2.2.2.2.1 bt461.2.2.2.2.2.2.2.1 bt461.2.2.2.2.2.2.2.2.1 bt461.2.2.2.2.2.2.2.2.2 a1 a2).bind fun t485 => ((laws_toConf.f k a0_0 a0_1 l0_2 l0_3 l0_4 l0_5 l0_6 l0_7 l0_8 a0_9).bind fun bt486 => ((impl_ConfTurn.f k bt486.1 bt486.2.1 bt486.2.2.1 bt486.2.2.2.1 bt486.2.2.2.2.1 bt486.2.2.2.2.2.1 bt486.2.2.2.2.2.2.1 bt486.2.2.2.2.2.2.2.1 bt486.2.2.2.2.2.2.2.2.1 bt486.2.2.2.2.2.2.2.2.2 a1 a2).bind fun t511 => (if t511 = t485 then ((laws_toConf.f k a0_0 a0_1 l0_2 l0_3 l0_4 l0_5 l0_6 l0_7 l0_8 a0_9).bind fun bt512 => ((laws_eqConf.f k bt486.1 bt486.2.1 bt486.2.2.1 bt486.2.2.2.1 bt486.2.2.2.2.1 bt486.2.2.2.2.2.1 bt486.2.2.2.2.2.2.1 bt486.2.2.2.2.2.2.2.1 bt486.2.2.2.2.2.2.2.2.1 bt486.2.2.2.2.2.2.2.2.2 bt512.1 bt512.2.1 bt512.2.2.1 bt512.2.2.2.1 bt512.2.2.2.2.1 bt512.2.2.2.2.2.1 bt512.2.2.2.2.2.2.1 bt512.2.2.2.2.2.2.2.1 bt512.2.2.2.2.2.2.2.2.1 bt512.2.2.2.2.2.2.2.2.2).bind fun t536 => (if t536 = true then (some true) else (none)))) else (none)))))))) = some r := h
 clear h
 replace H := Option.bind_eq_some_iff.mp H
 obtain ⟨t460, A40, H⟩ := H
 replace H : (if t460 < 0 then (some true) else ((laws_toConf.f k a0_0 a0_1 l0_2 l0_3 l0_4 l0_5 l0_6 l0_7 l0_8 a0_9).bind fun bt461 => ((spec_ConfTurn.f k bt461.1 bt461.2.1 bt461.2.2.1 bt461.2.2.2.1 bt461.2.2.2.2.1 bt461.2.2.2.2.2.1 bt461.2.2.2.2.2.2.1 bt461.2.2.2.2.2.2.2.1 bt461.2.2.2.2.2.2.2.2.1 bt461.2.2.2.2.2.2.2.2.2 a1 a2).bind fun t485 => ((laws_toConf.f k a0_0 a0_1 l0_2 l0_3 l0_4 l0_5 l0_6 l0_7 l0_8 a0_9).bind fun bt486 => ((impl_ConfTurn.f k bt486.1 bt486.2.1 bt486.2.2.1 bt486.2.2.2.1 bt486.2.2.2.2.1 bt486.2.2.2.2.2.1 bt486.2.2.2.2.2.2.1 bt486.2.2.2.2.2.2.2.1 bt486.2.2.2.2.2.2.2.2.1 bt486.2.2.2.2.2.2.2.2.2 a1 a2).bind fun t511 => (if t511 = t485 then ((laws_toConf.f k a0_0 a0_1 l0_2 l0_3 l0_4 l0_5 l0_6 l0_7 l0_8 a0_9).bind fun bt512 => ((laws_eqConf.f k bt486.1 bt486.2.1 bt486.2.2.1 bt486.2.2.2.1 bt486.2.2.2.2.1 bt486.2.2.2.2.2.1 bt486.2.2.2.2.2.2.1 bt486.2.2.2.2.2.2.2.1 bt486.2.2.2.2.2.2.2.2.1 bt486.2.2.2.2.2.2.2.2.2 bt512.1 bt512.2.1 bt512.2.2.1 bt512.2.2.2.1 bt512.2.2.2.2.1 bt512.2.2.2.2.2.1 bt512.2.2.2.2.2.2.1 bt512.2.2.2.2.2.2.2.1 bt512.2.2.2.2.2.2.2.2.1 bt512.2.2.2.2.2.2.2.2.2).bind fun t536 => (if t536 = true then (some true) else (none)))) else (none))))))) = some r := H
 have A4 := Aside0.mk A40
 clear A40
 by_cases c5 : t460 < 0
 ·rw [if_pos c5] at H
  have c5b0 : decide (t460 < 0) = true := decide_eq_true c5
  clear c5
  obtain rfl := Option.some.inj H
  go_enter Tryd.func3, Tryd.ntmps3
  go_wp2_with (first | ((with_reducible refine gate_dst (N := 3) rfl ?_); refine box_event ?hg (N := 3) ?hd (cs := #[.int .i64 a0_0, .int .i64 a0_1, .slice A0_2 l0_2.length c0_2, .slice A0_3 l0_3.length c0_3, .slice A0_4 l0_4.length c0_4, .slice A0_5 l0_5.length c0_5, .slice A0_6 l0_6.length c0_6, .slice A0_7 l0_7.length c0_7, .slice A0_8 l0_8.length c0_8, .int .i64 a0_9]) (t := 26) ?hr ?_; (case hd => rfl); (case hg => rfl); (case hr => first | (go_simp; done) | (go_simp; rfl)); intro gb459 hg w6 hbox hb; have n0_ := m_ (below_step (bN HB.out) hb); have n1_ := m_ (hbox); have n2_ := m_ ((by rw [hg]; exact (below_size (bN HB.out)) : w.heap.size ≤ gb459)); have n3_ := m_ ((by rw [hg]; exact (below_size (bN HB.out)) : w.heap.size ≤ gb459)); clear HB; have HB := n0_; have BK459 := n1_; have GW459 := n2_; have GE459 := n3_; clear n0_ n1_ n2_ n3_; clear hb hbox hg; have hcz7_0 : w6.cell? ⟨gb459, 0, none⟩ = some (.int .i64 a0_0) := bc BK459 0; have hcz7_1 : w6.cell? ⟨gb459, 1, none⟩ = some (.int .i64 a0_1) := bc BK459 1; have hcz7_2 : w6.cell? ⟨gb459, 2, none⟩ = some (.slice A0_2 l0_2.length c0_2) := bc BK459 2; have hcz7_3 : w6.cell? ⟨gb459, 3, none⟩ = some (.slice A0_3 l0_3.length c0_3) := bc BK459 3; have hcz7_4 : w6.cell? ⟨gb459, 4, none⟩ = some (.slice A0_4 l0_4.length c0_4) := bc BK459 4; have hcz7_5 : w6.cell? ⟨gb459, 5, none⟩ = some (.slice A0_5 l0_5.length c0_5) := bc BK459 5; have hcz7_6 : w6.cell? ⟨gb459, 6, none⟩ = some (.slice A0_6 l0_6.length c0_6) := bc BK459 6; have hcz7_7 : w6.cell? ⟨gb459, 7, none⟩ = some (.slice A0_7 l0_7.length c0_7) := bc BK459 7; have hcz7_8 : w6.cell? ⟨gb459, 8, none⟩ = some (.slice A0_8 l0_8.length c0_8) := bc BK459 8; have hcz7_9 : w6.cell? ⟨gb459, 9, none⟩ = some (.int .i64 a0_9) := bc BK459 9; have hfz7_0 := blk_frozen BK459.out 0; have hfz7_1 := blk_frozen BK459.out 1; have hfz7_2 := blk_frozen BK459.out 2; have hfz7_3 := blk_frozen BK459.out 3; have hfz7_4 := blk_frozen BK459.out 4; have hfz7_5 := blk_frozen BK459.out 5; have hfz7_6 := blk_frozen BK459.out 6; have hfz7_7 := blk_frozen BK459.out 7; have hfz7_8 := blk_frozen BK459.out 8; have hfz7_9 := blk_frozen BK459.out 9) | ((with_reducible refine gate_callee (f := 9) rfl ?_); refine goesL_ (some 13) rfl rfl Tryd.func9 (by kernel_rfl) rfl #[.agg #[.int .i64 a0_0, .int .i64 a0_1, .slice A0_2 l0_2.length c0_2, .slice A0_3 l0_3.length c0_3, .slice A0_4 l0_4.length c0_4, .slice A0_5 l0_5.length c0_5, .slice A0_6 l0_6.length c0_6, .slice A0_7 l0_7.length c0_7, .slice A0_8 l0_8.length c0_8, .int .i64 a0_9], .int .i64 1048576] rfl gl_ ?_; (with_reducible refine (laws_szConf.calls k a0_0 a0_1 _ _ l0_2 _ _ l0_3 _ _ l0_4 _ _ l0_5 _ _ l0_6 _ _ l0_7 _ _ l0_8 a0_9 1048576 t460 _ ?side1 ?side2 ?side3 ?side4 ?side5 ?side6 ?side7 ?side8 ?side9 ?side10 ?side11 ?side12 ?side13 ?side14 A4.out).mono ?_); (case side1 => exact cN (Kd.C_below HR0_2.out HB.out)); (case side2 => exact HC0_2.out); (case side3 => exact cN (Kd.C_below HR0_3.out HB.out)); (case side4 => exact HC0_3.out); (case side5 => exact cN (Kd.C_below HR0_4.out HB.out)); (case side6 => exact HC0_4.out); (case side7 => exact cN (Kd.C_below HR0_5.out HB.out)); (case side8 => exact HC0_5.out); (case side9 => exact cN (Kd.C_below HR0_6.out HB.out)); (case side10 => exact HC0_6.out); (case side11 => exact cN (Kd.C_below HR0_7.out HB.out)); (case side12 => exact HC0_7.out); (case side13 => exact cN (Kd.C_below HR0_8.out HB.out)); (case side14 => exact HC0_8.out); rintro e w8 ⟨rfl, hb⟩; refine ⟨_, rfl, ?_⟩; have n0_ := m_ (blk_below (kN BK459.out) hb); have n1_ := m_ (below_step (bN HB.out) hb); clear BK459; clear HB; have BK459 := n0_; have HB := n1_; clear n0_ n1_; (try clear hb); (try clear hb2); (try clear hk); (try clear hi)))
  go_ret
  exact ⟨by first | rfl | (simp [errW_none, errW_some] <;> rfl) | (simp [*, errW_none, errW_some] <;> rfl), by repeat (first | (with_reducible first | exact HB.out | apply below_alloc | apply pw_below_drewN | apply below_drew1 | refine below_set ?_ GE459.out) | exact HB.out)⟩
 ·rw [if_neg c5] at H
  have c5b0 : decide (t460 < 0) = false := decide_eq_false c5
  clear c5
  replace H := Option.bind_eq_some_iff.mp H
  obtain ⟨⟨t461, t462, t463, t466, t469, t472, t475, t478, t481, t484⟩, A90, H⟩ := H
  replace H : ((spec_ConfTurn.f k t461 t462 t463 t466 t469 t472 t475 t478 t481 t484 a1 a2).bind fun t485 => ((laws_toConf.f k a0_0 a0_1 l0_2 l0_3 l0_4 l0_5 l0_6 l0_7 l0_8 a0_9).bind fun bt486 => ((impl_ConfTurn.f k bt486.1 bt486.2.1 bt486.2.2.1 bt486.2.2.2.1 bt486.2.2.2.2.1 bt486.2.2.2.2.2.1 bt486.2.2.2.2.2.2.1 bt486.2.2.2.2.2.2.2.1 bt486.2.2.2.2.2.2.2.2.1 bt486.2.2.2.2.2.2.2.2.2 a1 a2).bind fun t511 => (if t511 = t485 then ((laws_toConf.f k a0_0 a0_1 l0_2 l0_3 l0_4 l0_5 l0_6 l0_7 l0_8 a0_9).bind fun bt512 => ((laws_eqConf.f k bt486.1 bt486.2.1 bt486.2.2.1 bt486.2.2.2.1 bt486.2.2.2.2.1 bt486.2.2.2.2.2.1 bt486.2.2.2.2.2.2.1 bt486.2.2.2.2.2.2.2.1 bt486.2.2.2.2.2.2.2.2.1 bt486.2.2.2.2.2.2.2.2.2 bt512.1 bt512.2.1 bt512.2.2.1 bt512.2.2.2.1 bt512.2.2.2.2.1 bt512.2.2.2.2.2.1 bt512.2.2.2.2.2.2.1 bt512.2.2.2.2.2.2.2.1 bt512.2.2.2.2.2.2.2.2.1 bt512.2.2.2.2.2.2.2.2.2).bind fun t536 => (if t536 = true then (some true) else (none)))) else (none))))) = some r := H
  have A9 := Aside0.mk A90
  clear A90
  replace H := Option.bind_eq_some_iff.mp H
  obtain ⟨t485, A100, H⟩ := H
  replace H : ((laws_toConf.f k a0_0 a0_1 l0_2 l0_3 l0_4 l0_5 l0_6 l0_7 l0_8 a0_9).bind fun bt486 => ((impl_ConfTurn.f k bt486.1 bt486.2.1 bt486.2.2.1 bt486.2.2.2.1 bt486.2.2.2.2.1 bt486.2.2.2.2.2.1 bt486.2.2.2.2.2.2.1 bt486.2.2.2.2.2.2.2.1 bt486.2.2.2.2.2.2.2.2.1 bt486.2.2.2.2.2.2.2.2.2 a1 a2).bind fun t511 => (if t511 = t485 then ((laws_toConf.f k a0_0 a0_1 l0_2 l0_3 l0_4 l0_5 l0_6 l0_7 l0_8 a0_9).bind fun bt512 => ((laws_eqConf.f k bt486.1 bt486.2.1 bt486.2.2.1 bt486.2.2.2.1 bt486.2.2.2.2.1 bt486.2.2.2.2.2.1 bt486.2.2.2.2.2.2.1 bt486.2.2.2.2.2.2.2.1 bt486.2.2.2.2.2.2.2.2.1 bt486.2.2.2.2.2.2.2.2.2 bt512.1 bt512.2.1 bt512.2.2.1 bt512.2.2.2.1 bt512.2.2.2.2.1 bt512.2.2.2.2.2.1 bt512.2.2.2.2.2.2.1 bt512.2.2.2.2.2.2.2.1 bt512.2.2.2.2.2.2.2.2.1 bt512.2.2.2.2.2.2.2.2.2).bind fun t536 => (if t536 = true then (some true) else (none)))) else (none)))) = some r := H
  have A10 := Aside0.mk A100
  clear A100
  replace H := Option.bind_eq_some_iff.mp H
  obtain ⟨⟨t486, t487, t488, t491, t494, t497, t500, t503, t506, t509⟩, A110, H⟩ := H
  replace H : ((impl_ConfTurn.f k t486 t487 t488 t491 t494 t497 t500 t503 t506 t509 a1 a2).bind fun t511 => (if t511 = t485 then ((laws_toConf.f k a0_0 a0_1 l0_2 l0_3 l0_4 l0_5 l0_6 l0_7 l0_8 a0_9).bind fun bt512 => ((laws_eqConf.f k t486 t487 t488 t491 t494 t497 t500 t503 t506 t509 bt512.1 bt512.2.1 bt512.2.2.1 bt512.2.2.2.1 bt512.2.2.2.2.1 bt512.2.2.2.2.2.1 bt512.2.2.2.2.2.2.1 bt512.2.2.2.2.2.2.2.1 bt512.2.2.2.2.2.2.2.2.1 bt512.2.2.2.2.2.2.2.2.2).bind fun t536 => (if t536 = true then (some true) else (none)))) else (none))) = some r := H
  have A11 := Aside0.mk A110
  clear A110
  replace H := Option.bind_eq_some_iff.mp H
  obtain ⟨t511, A120, H⟩ := H
  replace H : (if t511 = t485 then ((laws_toConf.f k a0_0 a0_1 l0_2 l0_3 l0_4 l0_5 l0_6 l0_7 l0_8 a0_9).bind fun bt512 => ((laws_eqConf.f k t486 t487 t488 t491 t494 t497 t500 t503 t506 t509 bt512.1 bt512.2.1 bt512.2.2.1 bt512.2.2.2.1 bt512.2.2.2.2.1 bt512.2.2.2.2.2.1 bt512.2.2.2.2.2.2.1 bt512.2.2.2.2.2.2.2.1 bt512.2.2.2.2.2.2.2.2.1 bt512.2.2.2.2.2.2.2.2.2).bind fun t536 => (if t536 = true then (some true) else (none)))) else (none)) = some r := H
  have A12 := Aside0.mk A120
  clear A120
  by_cases c13 : t511 = t485
  ·rw [if_pos c13] at H
   have c13b0 : (t511 == t485) = true := beq_iff_eq.mpr c13
   have c13b1 : (t511 != t485) = false := bne_eq_false_iff_eq.mpr c13
   clear c13
   replace H := Option.bind_eq_some_iff.mp H
   obtain ⟨⟨t512, t513, t514, t517, t520, t523, t526, t529, t532, t535⟩, A140, H⟩ := H
   replace H : ((laws_eqConf.f k t486 t487 t488 t491 t494 t497 t500 t503 t506 t509 t512 t513 t514 t517 t520 t523 t526 t529 t532 t535).bind fun t536 => (if t536 = true then (some true) else (none))) = some r := H
   have A14 := Aside0.mk A140
   clear A140
   replace H := Option.bind_eq_some_iff.mp H
   obtain ⟨t536, A150, H⟩ := H
   replace H : (if t536 = true then (some true) else (none)) = some r := H
   have A15 := Aside0.mk A150
   clear A150
   by_cases c16 : t536 = true
   ·subst c16
    have H1 : (some true) = some r := by rw [if_pos rfl] at H; exact H
    clear H
    have H := H1
    clear H1
    obtain rfl := Option.some.inj H
    go_enter Tryd.func3, Tryd.ntmps3
    try go_wp2_with (first | ((with_reducible refine gate_dst (N := 3) rfl ?_); refine box_event ?hg (N := 3) ?hd (cs := #[.int .i64 a0_0, .int .i64 a0_1, .slice A0_2 l0_2.length c0_2, .slice A0_3 l0_3.length c0_3, .slice A0_4 l0_4.length c0_4, .slice A0_5 l0_5.length c0_5, .slice A0_6 l0_6.length c0_6, .slice A0_7 l0_7.length c0_7, .slice A0_8 l0_8.length c0_8, .int .i64 a0_9]) (t := 26) ?hr ?_; (case hd => rfl); (case hg => rfl); (case hr => first | (go_simp; done) | (go_simp; rfl)); intro gb459 hg w17 hbox hb; have n0_ := m_ (below_step (bN HB.out) hb); have n1_ := m_ (hbox); have n2_ := m_ ((by rw [hg]; exact (below_size (bN HB.out)) : w.heap.size ≤ gb459)); have n3_ := m_ ((by rw [hg]; exact (below_size (bN HB.out)) : w.heap.size ≤ gb459)); clear HB; have HB := n0_; have BK459 := n1_; have GW459 := n2_; have GE459 := n3_; clear n0_ n1_ n2_ n3_; clear hb hbox hg; have hcz18_0 : w17.cell? ⟨gb459, 0, none⟩ = some (.int .i64 a0_0) := bc BK459 0; have hcz18_1 : w17.cell? ⟨gb459, 1, none⟩ = some (.int .i64 a0_1) := bc BK459 1; have hcz18_2 : w17.cell? ⟨gb459, 2, none⟩ = some (.slice A0_2 l0_2.length c0_2) := bc BK459 2; have hcz18_3 : w17.cell? ⟨gb459, 3, none⟩ = some (.slice A0_3 l0_3.length c0_3) := bc BK459 3; have hcz18_4 : w17.cell? ⟨gb459, 4, none⟩ = some (.slice A0_4 l0_4.length c0_4) := bc BK459 4; have hcz18_5 : w17.cell? ⟨gb459, 5, none⟩ = some (.slice A0_5 l0_5.length c0_5) := bc BK459 5; have hcz18_6 : w17.cell? ⟨gb459, 6, none⟩ = some (.slice A0_6 l0_6.length c0_6) := bc BK459 6; have hcz18_7 : w17.cell? ⟨gb459, 7, none⟩ = some (.slice A0_7 l0_7.length c0_7) := bc BK459 7; have hcz18_8 : w17.cell? ⟨gb459, 8, none⟩ = some (.slice A0_8 l0_8.length c0_8) := bc BK459 8; have hcz18_9 : w17.cell? ⟨gb459, 9, none⟩ = some (.int .i64 a0_9) := bc BK459 9; have hfz18_0 := blk_frozen BK459.out 0; have hfz18_1 := blk_frozen BK459.out 1; have hfz18_2 := blk_frozen BK459.out 2; have hfz18_3 := blk_frozen BK459.out 3; have hfz18_4 := blk_frozen BK459.out 4; have hfz18_5 := blk_frozen BK459.out 5; have hfz18_6 := blk_frozen BK459.out 6; have hfz18_7 := blk_frozen BK459.out 7; have hfz18_8 := blk_frozen BK459.out 8; have hfz18_9 := blk_frozen BK459.out 9) | ((with_reducible refine gate_callee (f := 9) rfl ?_); refine goesL_ (some 13) rfl rfl Tryd.func9 (by kernel_rfl) rfl #[.agg #[.int .i64 a0_0, .int .i64 a0_1, .slice A0_2 l0_2.length c0_2, .slice A0_3 l0_3.length c0_3, .slice A0_4 l0_4.length c0_4, .slice A0_5 l0_5.length c0_5, .slice A0_6 l0_6.length c0_6, .slice A0_7 l0_7.length c0_7, .slice A0_8 l0_8.length c0_8, .int .i64 a0_9], .int .i64 1048576] rfl gl_ ?_; (with_reducible refine (laws_szConf.calls k a0_0 a0_1 _ _ l0_2 _ _ l0_3 _ _ l0_4 _ _ l0_5 _ _ l0_6 _ _ l0_7 _ _ l0_8 a0_9 1048576 t460 _ ?side1 ?side2 ?side3 ?side4 ?side5 ?side6 ?side7 ?side8 ?side9 ?side10 ?side11 ?side12 ?side13 ?side14 A4.out).mono ?_); (case side1 => exact cN (Kd.C_below HR0_2.out HB.out)); (case side2 => exact HC0_2.out); (case side3 => exact cN (Kd.C_below HR0_3.out HB.out)); (case side4 => exact HC0_3.out); (case side5 => exact cN (Kd.C_below HR0_4.out HB.out)); (case side6 => exact HC0_4.out); (case side7 => exact cN (Kd.C_below HR0_5.out HB.out)); (case side8 => exact HC0_5.out); (case side9 => exact cN (Kd.C_below HR0_6.out HB.out)); (case side10 => exact HC0_6.out); (case side11 => exact cN (Kd.C_below HR0_7.out HB.out)); (case side12 => exact HC0_7.out); (case side13 => exact cN (Kd.C_below HR0_8.out HB.out)); (case side14 => exact HC0_8.out); rintro e w19 ⟨rfl, hb⟩; refine ⟨_, rfl, ?_⟩; have n0_ := m_ (blk_below (kN BK459.out) hb); have n1_ := m_ (below_step (bN HB.out) hb); clear BK459; clear HB; have BK459 := n0_; have HB := n1_; clear n0_ n1_; (try clear hb); (try clear hb2); (try clear hk); (try clear hi); have hcz20_0 : w19.cell? ⟨gb459, 0, none⟩ = some (.int .i64 a0_0) := bc BK459 0; have hcz20_1 : w19.cell? ⟨gb459, 1, none⟩ = some (.int .i64 a0_1) := bc BK459 1; have hcz20_2 : w19.cell? ⟨gb459, 2, none⟩ = some (.slice A0_2 l0_2.length c0_2) := bc BK459 2; have hcz20_3 : w19.cell? ⟨gb459, 3, none⟩ = some (.slice A0_3 l0_3.length c0_3) := bc BK459 3; have hcz20_4 : w19.cell? ⟨gb459, 4, none⟩ = some (.slice A0_4 l0_4.length c0_4) := bc BK459 4; have hcz20_5 : w19.cell? ⟨gb459, 5, none⟩ = some (.slice A0_5 l0_5.length c0_5) := bc BK459 5; have hcz20_6 : w19.cell? ⟨gb459, 6, none⟩ = some (.slice A0_6 l0_6.length c0_6) := bc BK459 6; have hcz20_7 : w19.cell? ⟨gb459, 7, none⟩ = some (.slice A0_7 l0_7.length c0_7) := bc BK459 7; have hcz20_8 : w19.cell? ⟨gb459, 8, none⟩ = some (.slice A0_8 l0_8.length c0_8) := bc BK459 8; have hcz20_9 : w19.cell? ⟨gb459, 9, none⟩ = some (.int .i64 a0_9) := bc BK459 9; have hfz20_0 := blk_frozen BK459.out 0; have hfz20_1 := blk_frozen BK459.out 1; have hfz20_2 := blk_frozen BK459.out 2; have hfz20_3 := blk_frozen BK459.out 3; have hfz20_4 := blk_frozen BK459.out 4; have hfz20_5 := blk_frozen BK459.out 5; have hfz20_6 := blk_frozen BK459.out 6; have hfz20_7 := blk_frozen BK459.out 7; have hfz20_8 := blk_frozen BK459.out 8; have hfz20_9 := blk_frozen BK459.out 9) | ((with_reducible refine gate_callee (f := 11) rfl ?_); refine goesL_ (some 17) rfl rfl Tryd.func11 (by kernel_rfl) rfl #[.agg #[.int .i64 a0_0, .int .i64 a0_1, .slice A0_2 l0_2.length c0_2, .slice A0_3 l0_3.length c0_3, .slice A0_4 l0_4.length c0_4, .slice A0_5 l0_5.length c0_5, .slice A0_6 l0_6.length c0_6, .slice A0_7 l0_7.length c0_7, .slice A0_8 l0_8.length c0_8, .int .i64 a0_9]] rfl gl_ ?_; (with_reducible refine (laws_toConf.calls k a0_0 a0_1 _ _ l0_2 _ _ l0_3 _ _ l0_4 _ _ l0_5 _ _ l0_6 _ _ l0_7 _ _ l0_8 a0_9 t461 t462 t463 t466 t469 t472 t475 t478 t481 t484 _ ?side1 ?side2 ?side3 ?side4 ?side5 ?side6 ?side7 ?side8 ?side9 ?side10 ?side11 ?side12 ?side13 ?side14 A9.out).mono ?_); (case side1 => exact cN (Kd.C_below HR0_2.out HB.out)); (case side2 => exact HC0_2.out); (case side3 => exact cN (Kd.C_below HR0_3.out HB.out)); (case side4 => exact HC0_3.out); (case side5 => exact cN (Kd.C_below HR0_4.out HB.out)); (case side6 => exact HC0_4.out); (case side7 => exact cN (Kd.C_below HR0_5.out HB.out)); (case side8 => exact HC0_5.out); (case side9 => exact cN (Kd.C_below HR0_6.out HB.out)); (case side10 => exact HC0_6.out); (case side11 => exact cN (Kd.C_below HR0_7.out HB.out)); (case side12 => exact HC0_7.out); (case side13 => exact cN (Kd.C_below HR0_8.out HB.out)); (case side14 => exact HC0_8.out); rintro e w21 ⟨v464, v467, v470, v473, v476, v479, v482, rfl, ho0, ho1, ho2, ho3, ho4, ho5, ho6, hb⟩; refine ⟨_, rfl, ?_⟩; have n0_ := m_ (Kd.S_lower ho0 (below_size (bN HB.out))); have n1_ := m_ (Kd.R_lower ho1 (below_size (bN HB.out))); have n2_ := m_ (Kd.R_lower ho2 (below_size (bN HB.out))); have n3_ := m_ (Kd.R_lower ho3 (below_size (bN HB.out))); have n4_ := m_ (Kd.R_lower ho4 (below_size (bN HB.out))); have n5_ := m_ (Kd.R_lower ho5 (below_size (bN HB.out))); have n6_ := m_ (Kd.R_lower ho6 (below_size (bN HB.out))); have n7_ := m_ (blk_below (kN BK459.out) hb); have n8_ := m_ (below_step (bN HB.out) hb); clear BK459; clear HB; have HO465 := n0_; have HO468 := n1_; have HO471 := n2_; have HO474 := n3_; have HO477 := n4_; have HO480 := n5_; have HO483 := n6_; have BK459 := n7_; have HB := n8_; clear n0_ n1_ n2_ n3_ n4_ n5_ n6_ n7_ n8_; (try clear hb); (try clear hb2); (try clear hk); (try clear hi); (try clear ho0); (try clear ho1); (try clear ho2); (try clear ho3); (try clear ho4); (try clear ho5); (try clear ho6); obtain ⟨Ao22, co22, eo22⟩ := Kd.S_slice HO465.out; subst eo22; obtain ⟨Ao23, co23, eo23⟩ := Kd.R_slice HO468.out; subst eo23; obtain ⟨Ao24, co24, eo24⟩ := Kd.R_slice HO471.out; subst eo24; obtain ⟨Ao25, co25, eo25⟩ := Kd.R_slice HO474.out; subst eo25; obtain ⟨Ao26, co26, eo26⟩ := Kd.R_slice HO477.out; subst eo26; obtain ⟨Ao27, co27, eo27⟩ := Kd.R_slice HO480.out; subst eo27; obtain ⟨Ao28, co28, eo28⟩ := Kd.R_slice HO483.out; subst eo28) | ((with_reducible refine gate_callee (f := 10) rfl ?_); refine goesL_ (some 20) rfl rfl Tryd.func10 (by kernel_rfl) rfl #[.agg #[.int .i64 t461, .int .i64 t462, .slice Ao22 t463.length co22, .slice Ao23 t466.length co23, .slice Ao24 t469.length co24, .slice Ao25 t472.length co25, .slice Ao26 t475.length co26, .slice Ao27 t478.length co27, .slice Ao28 t481.length co28, .int .i64 t484], .int .i64 a1, .int .i64 a2] rfl gl_ ?_; (with_reducible refine (spec_ConfTurn.calls k t461 t462 _ _ t463 _ _ t466 _ _ t469 _ _ t472 _ _ t475 _ _ t478 _ _ t481 t484 a1 a2 t485 _ ?side1 ?side2 ?side3 ?side4 ?side5 ?side6 ?side7 ?side8 ?side9 ?side10 ?side11 ?side12 ?side13 ?side14 A10.out).mono ?_); (case side1 => exact cN (Kd.S_reads' HO465.out).2.2); (case side2 => exact (Kd.S_reads' HO465.out).2.1); (case side3 => exact cN (Kd.R_reads' HO468.out).2.2); (case side4 => exact (Kd.R_reads' HO468.out).2.1); (case side5 => exact cN (Kd.R_reads' HO471.out).2.2); (case side6 => exact (Kd.R_reads' HO471.out).2.1); (case side7 => exact cN (Kd.R_reads' HO474.out).2.2); (case side8 => exact (Kd.R_reads' HO474.out).2.1); (case side9 => exact cN (Kd.R_reads' HO477.out).2.2); (case side10 => exact (Kd.R_reads' HO477.out).2.1); (case side11 => exact cN (Kd.R_reads' HO480.out).2.2); (case side12 => exact (Kd.R_reads' HO480.out).2.1); (case side13 => exact cN (Kd.R_reads' HO483.out).2.2); (case side14 => exact (Kd.R_reads' HO483.out).2.1); rintro e w29 ⟨rfl, hb⟩; refine ⟨_, rfl, ?_⟩; have n0_ := m_ (Kd.S_below (by (with_reducible repeat (first | apply Kd.S_alloc | apply Kd.S_drewN | apply Kd.S_drew)); exact HO465.out) hb); have n1_ := m_ (Kd.R_below (rN HO468.out) hb); have n2_ := m_ (Kd.R_below (rN HO471.out) hb); have n3_ := m_ (Kd.R_below (rN HO474.out) hb); have n4_ := m_ (Kd.R_below (rN HO477.out) hb); have n5_ := m_ (Kd.R_below (rN HO480.out) hb); have n6_ := m_ (Kd.R_below (rN HO483.out) hb); have n7_ := m_ (blk_below (kN BK459.out) hb); have n8_ := m_ (below_step (bN HB.out) hb); clear HO465; clear HO468; clear HO471; clear HO474; clear HO477; clear HO480; clear HO483; clear BK459; clear HB; have HO465 := n0_; have HO468 := n1_; have HO471 := n2_; have HO474 := n3_; have HO477 := n4_; have HO480 := n5_; have HO483 := n6_; have BK459 := n7_; have HB := n8_; clear n0_ n1_ n2_ n3_ n4_ n5_ n6_ n7_ n8_; (try clear hb); (try clear hb2); (try clear hk); (try clear hi); have hcz30_0 : w29.cell? ⟨gb459, 0, none⟩ = some (.int .i64 a0_0) := bc BK459 0; have hcz30_1 : w29.cell? ⟨gb459, 1, none⟩ = some (.int .i64 a0_1) := bc BK459 1; have hcz30_2 : w29.cell? ⟨gb459, 2, none⟩ = some (.slice A0_2 l0_2.length c0_2) := bc BK459 2; have hcz30_3 : w29.cell? ⟨gb459, 3, none⟩ = some (.slice A0_3 l0_3.length c0_3) := bc BK459 3; have hcz30_4 : w29.cell? ⟨gb459, 4, none⟩ = some (.slice A0_4 l0_4.length c0_4) := bc BK459 4; have hcz30_5 : w29.cell? ⟨gb459, 5, none⟩ = some (.slice A0_5 l0_5.length c0_5) := bc BK459 5; have hcz30_6 : w29.cell? ⟨gb459, 6, none⟩ = some (.slice A0_6 l0_6.length c0_6) := bc BK459 6; have hcz30_7 : w29.cell? ⟨gb459, 7, none⟩ = some (.slice A0_7 l0_7.length c0_7) := bc BK459 7; have hcz30_8 : w29.cell? ⟨gb459, 8, none⟩ = some (.slice A0_8 l0_8.length c0_8) := bc BK459 8; have hcz30_9 : w29.cell? ⟨gb459, 9, none⟩ = some (.int .i64 a0_9) := bc BK459 9; have hfz30_0 := blk_frozen BK459.out 0; have hfz30_1 := blk_frozen BK459.out 1; have hfz30_2 := blk_frozen BK459.out 2; have hfz30_3 := blk_frozen BK459.out 3; have hfz30_4 := blk_frozen BK459.out 4; have hfz30_5 := blk_frozen BK459.out 5; have hfz30_6 := blk_frozen BK459.out 6; have hfz30_7 := blk_frozen BK459.out 7; have hfz30_8 := blk_frozen BK459.out 8; have hfz30_9 := blk_frozen BK459.out 9) | ((with_reducible refine gate_callee (f := 11) rfl ?_); refine goesL_ (some 22) rfl rfl Tryd.func11 (by kernel_rfl) rfl #[.agg #[.int .i64 a0_0, .int .i64 a0_1, .slice A0_2 l0_2.length c0_2, .slice A0_3 l0_3.length c0_3, .slice A0_4 l0_4.length c0_4, .slice A0_5 l0_5.length c0_5, .slice A0_6 l0_6.length c0_6, .slice A0_7 l0_7.length c0_7, .slice A0_8 l0_8.length c0_8, .int .i64 a0_9]] rfl gl_ ?_; (with_reducible refine (laws_toConf.calls k a0_0 a0_1 _ _ l0_2 _ _ l0_3 _ _ l0_4 _ _ l0_5 _ _ l0_6 _ _ l0_7 _ _ l0_8 a0_9 t486 t487 t488 t491 t494 t497 t500 t503 t506 t509 _ ?side1 ?side2 ?side3 ?side4 ?side5 ?side6 ?side7 ?side8 ?side9 ?side10 ?side11 ?side12 ?side13 ?side14 A11.out).mono ?_); (case side1 => exact cN (Kd.C_below HR0_2.out HB.out)); (case side2 => exact HC0_2.out); (case side3 => exact cN (Kd.C_below HR0_3.out HB.out)); (case side4 => exact HC0_3.out); (case side5 => exact cN (Kd.C_below HR0_4.out HB.out)); (case side6 => exact HC0_4.out); (case side7 => exact cN (Kd.C_below HR0_5.out HB.out)); (case side8 => exact HC0_5.out); (case side9 => exact cN (Kd.C_below HR0_6.out HB.out)); (case side10 => exact HC0_6.out); (case side11 => exact cN (Kd.C_below HR0_7.out HB.out)); (case side12 => exact HC0_7.out); (case side13 => exact cN (Kd.C_below HR0_8.out HB.out)); (case side14 => exact HC0_8.out); rintro e w31 ⟨v489, v492, v495, v498, v501, v504, v507, rfl, ho0, ho1, ho2, ho3, ho4, ho5, ho6, hb⟩; refine ⟨_, rfl, ?_⟩; have n0_ := m_ (Kd.S_elder' (by (with_reducible repeat (first | apply Kd.S_alloc | apply Kd.S_drewN | apply Kd.S_drew)); exact HO465.out) (Kd.S_base ho0) hb); have n1_ := m_ (Kd.R_mono (Kd.R_told (Kd.R_told (Kd.R_told (Kd.R_told (Kd.R_told (Kd.R_old (rN HO468.out) hb) (Kd.R_base ho1)) (Kd.R_base ho2)) (Kd.R_base ho3)) (Kd.R_base ho4)) (Kd.R_base ho5)) (fun _ h_ => h_.1)); have n2_ := m_ (Kd.R_mono (Kd.R_told (Kd.R_told (Kd.R_told (Kd.R_told (Kd.R_told (Kd.R_old (rN HO471.out) hb) (Kd.R_base ho1)) (Kd.R_base ho2)) (Kd.R_base ho3)) (Kd.R_base ho4)) (Kd.R_base ho5)) (fun _ h_ => h_.1)); have n3_ := m_ (Kd.R_mono (Kd.R_told (Kd.R_told (Kd.R_told (Kd.R_told (Kd.R_told (Kd.R_old (rN HO474.out) hb) (Kd.R_base ho1)) (Kd.R_base ho2)) (Kd.R_base ho3)) (Kd.R_base ho4)) (Kd.R_base ho5)) (fun _ h_ => h_.1)); have n4_ := m_ (Kd.R_mono (Kd.R_told (Kd.R_told (Kd.R_told (Kd.R_told (Kd.R_told (Kd.R_old (rN HO477.out) hb) (Kd.R_base ho1)) (Kd.R_base ho2)) (Kd.R_base ho3)) (Kd.R_base ho4)) (Kd.R_base ho5)) (fun _ h_ => h_.1)); have n5_ := m_ (Kd.R_mono (Kd.R_told (Kd.R_told (Kd.R_told (Kd.R_told (Kd.R_told (Kd.R_old (rN HO480.out) hb) (Kd.R_base ho1)) (Kd.R_base ho2)) (Kd.R_base ho3)) (Kd.R_base ho4)) (Kd.R_base ho5)) (fun _ h_ => h_.1)); have n6_ := m_ (Kd.R_elder' (rN HO483.out) (Kd.R_base ho6) hb); have n7_ := m_ (Kd.S_lower (Kd.S_new' ho0 (Kd.S_lt (by (with_reducible repeat (first | apply Kd.S_alloc | apply Kd.S_drewN | apply Kd.S_drew)); exact HO465.out))) (below_size (bN HB.out))); have n8_ := m_ (Kd.R_lower (Kd.R_new' (Kd.R_new' (Kd.R_new' (Kd.R_new' (Kd.R_new' ho1 (Kd.R_lt (rN HO468.out))) (Kd.R_lt (rN HO471.out))) (Kd.R_lt (rN HO474.out))) (Kd.R_lt (rN HO477.out))) (Kd.R_lt (rN HO480.out))) (below_size (bN HB.out))); have n9_ := m_ (Kd.R_lower (Kd.R_new' (Kd.R_new' (Kd.R_new' (Kd.R_new' (Kd.R_new' ho2 (Kd.R_lt (rN HO468.out))) (Kd.R_lt (rN HO471.out))) (Kd.R_lt (rN HO474.out))) (Kd.R_lt (rN HO477.out))) (Kd.R_lt (rN HO480.out))) (below_size (bN HB.out))); have n10_ := m_ (Kd.R_lower (Kd.R_new' (Kd.R_new' (Kd.R_new' (Kd.R_new' (Kd.R_new' ho3 (Kd.R_lt (rN HO468.out))) (Kd.R_lt (rN HO471.out))) (Kd.R_lt (rN HO474.out))) (Kd.R_lt (rN HO477.out))) (Kd.R_lt (rN HO480.out))) (below_size (bN HB.out))); have n11_ := m_ (Kd.R_lower (Kd.R_new' (Kd.R_new' (Kd.R_new' (Kd.R_new' (Kd.R_new' ho4 (Kd.R_lt (rN HO468.out))) (Kd.R_lt (rN HO471.out))) (Kd.R_lt (rN HO474.out))) (Kd.R_lt (rN HO477.out))) (Kd.R_lt (rN HO480.out))) (below_size (bN HB.out))); have n12_ := m_ (Kd.R_lower (Kd.R_new' (Kd.R_new' (Kd.R_new' (Kd.R_new' (Kd.R_new' ho5 (Kd.R_lt (rN HO468.out))) (Kd.R_lt (rN HO471.out))) (Kd.R_lt (rN HO474.out))) (Kd.R_lt (rN HO477.out))) (Kd.R_lt (rN HO480.out))) (below_size (bN HB.out))); have n13_ := m_ (Kd.R_lower (Kd.R_new' ho6 (Kd.R_lt (rN HO483.out))) (below_size (bN HB.out))); have n14_ := m_ (blk_below (kN BK459.out) hb); have n15_ := m_ (below_step (bN HB.out) hb); clear HO465; clear HO468; clear HO471; clear HO474; clear HO477; clear HO480; clear HO483; clear BK459; clear HB; have HO465 := n0_; have HO468 := n1_; have HO471 := n2_; have HO474 := n3_; have HO477 := n4_; have HO480 := n5_; have HO483 := n6_; have HO490 := n7_; have HO493 := n8_; have HO496 := n9_; have HO499 := n10_; have HO502 := n11_; have HO505 := n12_; have HO508 := n13_; have BK459 := n14_; have HB := n15_; clear n0_ n1_ n2_ n3_ n4_ n5_ n6_ n7_ n8_ n9_ n10_ n11_ n12_ n13_ n14_ n15_; (try clear hb); (try clear hb2); (try clear hk); (try clear hi); (try clear ho0); (try clear ho1); (try clear ho2); (try clear ho3); (try clear ho4); (try clear ho5); (try clear ho6)) | ((with_reducible refine gate_dst (N := 9) rfl ?_); refine box_event ?hg (N := 9) ?hd (cs := #[.int .i64 0, .int .i64 0, .slice none 0 0, .slice none 0 0, .slice none 0 0, .slice none 0 0, .slice none 0 0, .slice none 0 0, .slice none 0 0, .int .i64 0]) (t := 32) ?hr ?_; (case hd => rfl); (case hg => rfl); (case hr => first | (go_simp; done) | (go_simp; rfl)); intro gb510 hg w32 hbox hb; have n0_ := m_ (Kd.S_below (by (with_reducible repeat (first | apply Kd.S_alloc | apply Kd.S_drewN | apply Kd.S_drew)); exact HO465.out) hb); have n1_ := m_ (Kd.R_below (rN HO468.out) hb); have n2_ := m_ (Kd.R_below (rN HO471.out) hb); have n3_ := m_ (Kd.R_below (rN HO474.out) hb); have n4_ := m_ (Kd.R_below (rN HO477.out) hb); have n5_ := m_ (Kd.R_below (rN HO480.out) hb); have n6_ := m_ (Kd.R_below (rN HO483.out) hb); have n7_ := m_ (Kd.S_below (by (with_reducible repeat (first | apply Kd.S_alloc | apply Kd.S_drewN | apply Kd.S_drew)); exact HO490.out) hb); have n8_ := m_ (Kd.R_below (rN HO493.out) hb); have n9_ := m_ (Kd.R_below (rN HO496.out) hb); have n10_ := m_ (Kd.R_below (rN HO499.out) hb); have n11_ := m_ (Kd.R_below (rN HO502.out) hb); have n12_ := m_ (Kd.R_below (rN HO505.out) hb); have n13_ := m_ (Kd.R_below (rN HO508.out) hb); have n14_ := m_ (blk_below (kN BK459.out) hb); have n15_ := m_ (below_step (bN HB.out) hb); have n16_ := m_ (hbox); have n17_ := m_ ((by rw [hg]; exact (below_size (bN HB.out)) : w.heap.size ≤ gb510)); have n18_ := m_ ((by rw [hg]; exact (below_size (bN HB.out)) : w.heap.size ≤ gb510)); have n19_ := m_ (nL hg BK459.out); have n20_ := m_ (nG hg BK459.out); clear HO465; clear HO468; clear HO471; clear HO474; clear HO477; clear HO480; clear HO483; clear HO490; clear HO493; clear HO496; clear HO499; clear HO502; clear HO505; clear HO508; clear BK459; clear HB; have HO465 := n0_; have HO468 := n1_; have HO471 := n2_; have HO474 := n3_; have HO477 := n4_; have HO480 := n5_; have HO483 := n6_; have HO490 := n7_; have HO493 := n8_; have HO496 := n9_; have HO499 := n10_; have HO502 := n11_; have HO505 := n12_; have HO508 := n13_; have BK459 := n14_; have HB := n15_; have BK510 := n16_; have GW510 := n17_; have GE510 := n18_; have NB459_510 := n19_; have NB510_459 := n20_; clear n0_ n1_ n2_ n3_ n4_ n5_ n6_ n7_ n8_ n9_ n10_ n11_ n12_ n13_ n14_ n15_ n16_ n17_ n18_ n19_ n20_; clear hb hbox hg; have hnb33 := NB510_459.out; have hnc33 := NB459_510.out; have hcz34_0 : w32.cell? ⟨gb510, 0, none⟩ = some (.int .i64 0) := bc BK510 0; have hcz34_1 : w32.cell? ⟨gb510, 1, none⟩ = some (.int .i64 0) := bc BK510 1; have hcz34_2 : w32.cell? ⟨gb510, 2, none⟩ = some (.slice none 0 0) := bc BK510 2; have hcz34_3 : w32.cell? ⟨gb510, 3, none⟩ = some (.slice none 0 0) := bc BK510 3; have hcz34_4 : w32.cell? ⟨gb510, 4, none⟩ = some (.slice none 0 0) := bc BK510 4; have hcz34_5 : w32.cell? ⟨gb510, 5, none⟩ = some (.slice none 0 0) := bc BK510 5; have hcz34_6 : w32.cell? ⟨gb510, 6, none⟩ = some (.slice none 0 0) := bc BK510 6; have hcz34_7 : w32.cell? ⟨gb510, 7, none⟩ = some (.slice none 0 0) := bc BK510 7; have hcz34_8 : w32.cell? ⟨gb510, 8, none⟩ = some (.slice none 0 0) := bc BK510 8; have hcz34_9 : w32.cell? ⟨gb510, 9, none⟩ = some (.int .i64 0) := bc BK510 9; have hfz34_0 := blk_frozen BK510.out 0; have hfz34_1 := blk_frozen BK510.out 1; have hfz34_2 := blk_frozen BK510.out 2; have hfz34_3 := blk_frozen BK510.out 3; have hfz34_4 := blk_frozen BK510.out 4; have hfz34_5 := blk_frozen BK510.out 5; have hfz34_6 := blk_frozen BK510.out 6; have hfz34_7 := blk_frozen BK510.out 7; have hfz34_8 := blk_frozen BK510.out 8; have hfz34_9 := blk_frozen BK510.out 9; obtain ⟨Ao35, co35, eo35⟩ := Kd.S_slice HO490.out; subst eo35; obtain ⟨Ao36, co36, eo36⟩ := Kd.R_slice HO493.out; subst eo36; obtain ⟨Ao37, co37, eo37⟩ := Kd.R_slice HO496.out; subst eo37; obtain ⟨Ao38, co38, eo38⟩ := Kd.R_slice HO499.out; subst eo38; obtain ⟨Ao39, co39, eo39⟩ := Kd.R_slice HO502.out; subst eo39; obtain ⟨Ao40, co40, eo40⟩ := Kd.R_slice HO505.out; subst eo40; obtain ⟨Ao41, co41, eo41⟩ := Kd.R_slice HO508.out; subst eo41) | ((with_reducible refine gate_callee (f := 12) rfl ?_); refine goesL_ (some 26) rfl rfl Tryd.func12 (by kernel_rfl) rfl #[.agg #[.int .i64 t486, .int .i64 t487, .slice Ao35 t488.length co35, .slice Ao36 t491.length co36, .slice Ao37 t494.length co37, .slice Ao38 t497.length co38, .slice Ao39 t500.length co39, .slice Ao40 t503.length co40, .slice Ao41 t506.length co41, .int .i64 t509], .int .i64 a1, .int .i64 a2] rfl gl_ ?_; (with_reducible refine (impl_ConfTurn.calls k t486 t487 _ _ t488 _ _ t491 _ _ t494 _ _ t497 _ _ t500 _ _ t503 _ _ t506 t509 a1 a2 t511 _ ?side1 ?side2 ?side3 ?side4 ?side5 ?side6 ?side7 ?side8 ?side9 ?side10 ?side11 ?side12 ?side13 ?side14 A12.out ?sideG).mono ?_); (case sideG => exact GErr.below (bN HB.out) HG0.out); (case side1 => refine (Kd.S_reads' (e := 75) (base := w.heap.size) (ok := fun k_ => (True ∧ nb Ao22 t463.length co22 k_)) (n := t488.length) (c := co35) ?_).2.2; exact (by (with_reducible repeat (first | apply Kd.S_alloc | apply Kd.S_drewN | apply Kd.S_drew)); exact (Kd.S_mono (Kd.S_far (p := ⟨gb510, 9, none⟩) (Kd.S_far (p := ⟨gb510, 8, none⟩) (Kd.S_far (p := ⟨gb510, 7, none⟩) (Kd.S_far (p := ⟨gb510, 6, none⟩) (Kd.S_far (p := ⟨gb510, 5, none⟩) (Kd.S_far (p := ⟨gb510, 4, none⟩) (Kd.S_far (p := ⟨gb510, 3, none⟩) (Kd.S_far (p := ⟨gb510, 2, none⟩) (Kd.S_far (p := ⟨gb510, 1, none⟩) (Kd.S_far (p := ⟨gb510, 0, none⟩) (Kd.S_types HO490.out BK510.out (by decide)) (fun _ hk => hk.2) (.int .i64 t486)) (fun _ hk => hk.2) (.int .i64 t487)) (fun _ hk => hk.2) (.slice Ao35 t488.length co35)) (fun _ hk => hk.2) (.slice Ao36 t491.length co36)) (fun _ hk => hk.2) (.slice Ao37 t494.length co37)) (fun _ hk => hk.2) (.slice Ao38 t497.length co38)) (fun _ hk => hk.2) (.slice Ao39 t500.length co39)) (fun _ hk => hk.2) (.slice Ao40 t503.length co40)) (fun _ hk => hk.2) (.slice Ao41 t506.length co41)) (fun _ hk => hk.2) (.int .i64 t509)) (fun _ h_ => h_.1)))); (case side2 => exact (Kd.S_reads' HO490.out).2.1); (case side3 => refine (Kd.R_reads' (e := 3) (base := w.heap.size) (ok := fun k_ => ((((((nb Ao37 t494.length co37 k_ ∧ (nb Ao38 t497.length co38 k_ ∧ (nb Ao39 t500.length co39 k_ ∧ nb Ao40 t503.length co40 k_))) ∧ nb Ao23 t466.length co23 k_) ∧ nb Ao24 t469.length co24 k_) ∧ nb Ao25 t472.length co25 k_) ∧ nb Ao26 t475.length co26 k_) ∧ nb Ao27 t478.length co27 k_)) (n := t491.length) (c := co36) ?_).2.2; exact (frN (Kd.R_types HO493.out BK510.out (by decide)))); (case side4 => exact (Kd.R_reads' HO493.out).2.1); (case side5 => refine (Kd.R_reads' (e := 3) (base := w.heap.size) (ok := fun k_ => ((((((nb Ao36 t491.length co36 k_ ∧ (nb Ao38 t497.length co38 k_ ∧ (nb Ao39 t500.length co39 k_ ∧ nb Ao40 t503.length co40 k_))) ∧ nb Ao23 t466.length co23 k_) ∧ nb Ao24 t469.length co24 k_) ∧ nb Ao25 t472.length co25 k_) ∧ nb Ao26 t475.length co26 k_) ∧ nb Ao27 t478.length co27 k_)) (n := t494.length) (c := co37) ?_).2.2; exact (frN (Kd.R_types HO496.out BK510.out (by decide)))); (case side6 => exact (Kd.R_reads' HO496.out).2.1); (case side7 => refine (Kd.R_reads' (e := 3) (base := w.heap.size) (ok := fun k_ => ((((((nb Ao36 t491.length co36 k_ ∧ (nb Ao37 t494.length co37 k_ ∧ (nb Ao39 t500.length co39 k_ ∧ nb Ao40 t503.length co40 k_))) ∧ nb Ao23 t466.length co23 k_) ∧ nb Ao24 t469.length co24 k_) ∧ nb Ao25 t472.length co25 k_) ∧ nb Ao26 t475.length co26 k_) ∧ nb Ao27 t478.length co27 k_)) (n := t497.length) (c := co38) ?_).2.2; exact (frN (Kd.R_types HO499.out BK510.out (by decide)))); (case side8 => exact (Kd.R_reads' HO499.out).2.1); (case side9 => refine (Kd.R_reads' (e := 3) (base := w.heap.size) (ok := fun k_ => ((((((nb Ao36 t491.length co36 k_ ∧ (nb Ao37 t494.length co37 k_ ∧ (nb Ao38 t497.length co38 k_ ∧ nb Ao40 t503.length co40 k_))) ∧ nb Ao23 t466.length co23 k_) ∧ nb Ao24 t469.length co24 k_) ∧ nb Ao25 t472.length co25 k_) ∧ nb Ao26 t475.length co26 k_) ∧ nb Ao27 t478.length co27 k_)) (n := t500.length) (c := co39) ?_).2.2; exact (frN (Kd.R_types HO502.out BK510.out (by decide)))); (case side10 => exact (Kd.R_reads' HO502.out).2.1); (case side11 => refine (Kd.R_reads' (e := 3) (base := w.heap.size) (ok := fun k_ => ((((((nb Ao36 t491.length co36 k_ ∧ (nb Ao37 t494.length co37 k_ ∧ (nb Ao38 t497.length co38 k_ ∧ nb Ao39 t500.length co39 k_))) ∧ nb Ao23 t466.length co23 k_) ∧ nb Ao24 t469.length co24 k_) ∧ nb Ao25 t472.length co25 k_) ∧ nb Ao26 t475.length co26 k_) ∧ nb Ao27 t478.length co27 k_)) (n := t503.length) (c := co40) ?_).2.2; exact (frN (Kd.R_types HO505.out BK510.out (by decide)))); (case side12 => exact (Kd.R_reads' HO505.out).2.1); (case side13 => refine (Kd.R_reads' (e := 78) (base := w.heap.size) (ok := fun k_ => (True ∧ nb Ao28 t481.length co28 k_)) (n := t506.length) (c := co41) ?_).2.2; exact (frN (Kd.R_types HO508.out BK510.out (by decide)))); (case side14 => exact (Kd.R_reads' HO508.out).2.1); rintro e w42 ⟨rfl, hb⟩; refine ⟨_, rfl, ?_⟩; have n0_ := m_ (Kd.S_below (by (with_reducible repeat (first | apply Kd.S_alloc | apply Kd.S_drewN | apply Kd.S_drew)); exact (Kd.S_mono (Kd.S_far (p := ⟨gb510, 9, none⟩) (Kd.S_far (p := ⟨gb510, 8, none⟩) (Kd.S_far (p := ⟨gb510, 7, none⟩) (Kd.S_far (p := ⟨gb510, 6, none⟩) (Kd.S_far (p := ⟨gb510, 5, none⟩) (Kd.S_far (p := ⟨gb510, 4, none⟩) (Kd.S_far (p := ⟨gb510, 3, none⟩) (Kd.S_far (p := ⟨gb510, 2, none⟩) (Kd.S_far (p := ⟨gb510, 1, none⟩) (Kd.S_far (p := ⟨gb510, 0, none⟩) (Kd.S_types HO465.out BK510.out (by decide)) (fun _ hk => hk.2) (.int .i64 t486)) (fun _ hk => hk.2) (.int .i64 t487)) (fun _ hk => hk.2) (.slice Ao35 t488.length co35)) (fun _ hk => hk.2) (.slice Ao36 t491.length co36)) (fun _ hk => hk.2) (.slice Ao37 t494.length co37)) (fun _ hk => hk.2) (.slice Ao38 t497.length co38)) (fun _ hk => hk.2) (.slice Ao39 t500.length co39)) (fun _ hk => hk.2) (.slice Ao40 t503.length co40)) (fun _ hk => hk.2) (.slice Ao41 t506.length co41)) (fun _ hk => hk.2) (.int .i64 t509)) (fun _ h_ => h_.1))) hb); have n1_ := m_ (Kd.R_below (frN (Kd.R_types HO468.out BK510.out (by decide))) hb); have n2_ := m_ (Kd.R_below (frN (Kd.R_types HO471.out BK510.out (by decide))) hb); have n3_ := m_ (Kd.R_below (frN (Kd.R_types HO474.out BK510.out (by decide))) hb); have n4_ := m_ (Kd.R_below (frN (Kd.R_types HO477.out BK510.out (by decide))) hb); have n5_ := m_ (Kd.R_below (frN (Kd.R_types HO480.out BK510.out (by decide))) hb); have n6_ := m_ (Kd.R_below (frN (Kd.R_types HO483.out BK510.out (by decide))) hb); have n7_ := m_ (Kd.S_below (by (with_reducible repeat (first | apply Kd.S_alloc | apply Kd.S_drewN | apply Kd.S_drew)); exact (Kd.S_mono (Kd.S_far (p := ⟨gb510, 9, none⟩) (Kd.S_far (p := ⟨gb510, 8, none⟩) (Kd.S_far (p := ⟨gb510, 7, none⟩) (Kd.S_far (p := ⟨gb510, 6, none⟩) (Kd.S_far (p := ⟨gb510, 5, none⟩) (Kd.S_far (p := ⟨gb510, 4, none⟩) (Kd.S_far (p := ⟨gb510, 3, none⟩) (Kd.S_far (p := ⟨gb510, 2, none⟩) (Kd.S_far (p := ⟨gb510, 1, none⟩) (Kd.S_far (p := ⟨gb510, 0, none⟩) (Kd.S_types HO490.out BK510.out (by decide)) (fun _ hk => hk.2) (.int .i64 t486)) (fun _ hk => hk.2) (.int .i64 t487)) (fun _ hk => hk.2) (.slice Ao35 t488.length co35)) (fun _ hk => hk.2) (.slice Ao36 t491.length co36)) (fun _ hk => hk.2) (.slice Ao37 t494.length co37)) (fun _ hk => hk.2) (.slice Ao38 t497.length co38)) (fun _ hk => hk.2) (.slice Ao39 t500.length co39)) (fun _ hk => hk.2) (.slice Ao40 t503.length co40)) (fun _ hk => hk.2) (.slice Ao41 t506.length co41)) (fun _ hk => hk.2) (.int .i64 t509)) (fun _ h_ => h_.1))) hb); have n8_ := m_ (Kd.R_below (frN (Kd.R_types HO493.out BK510.out (by decide))) hb); have n9_ := m_ (Kd.R_below (frN (Kd.R_types HO496.out BK510.out (by decide))) hb); have n10_ := m_ (Kd.R_below (frN (Kd.R_types HO499.out BK510.out (by decide))) hb); have n11_ := m_ (Kd.R_below (frN (Kd.R_types HO502.out BK510.out (by decide))) hb); have n12_ := m_ (Kd.R_below (frN (Kd.R_types HO505.out BK510.out (by decide))) hb); have n13_ := m_ (Kd.R_below (frN (Kd.R_types HO508.out BK510.out (by decide))) hb); have n14_ := m_ (blk_below (g := gb459) (o := .cells #[.int .i64 a0_0, .int .i64 a0_1, .slice A0_2 l0_2.length c0_2, .slice A0_3 l0_3.length c0_3, .slice A0_4 l0_4.length c0_4, .slice A0_5 l0_5.length c0_5, .slice A0_6 l0_6.length c0_6, .slice A0_7 l0_7.length c0_7, .slice A0_8 l0_8.length c0_8, .int .i64 a0_9] 26 (0, 0)) (kF BK459.out NB459_510.out) hb); have n15_ := m_ (blk_below (g := gb510) (o := .cells #[.int .i64 t486, .int .i64 t487, .slice Ao35 t488.length co35, .slice Ao36 t491.length co36, .slice Ao37 t494.length co37, .slice Ao38 t497.length co38, .slice Ao39 t500.length co39, .slice Ao40 t503.length co40, .slice Ao41 t506.length co41, .int .i64 t509] 32 (0, 0)) (kP BK510.out) hb); have n16_ := m_ (below_step (bN HB.out) hb); clear HO465; clear HO468; clear HO471; clear HO474; clear HO477; clear HO480; clear HO483; clear HO490; clear HO493; clear HO496; clear HO499; clear HO502; clear HO505; clear HO508; clear BK459; clear BK510; clear HB; have HO465 := n0_; have HO468 := n1_; have HO471 := n2_; have HO474 := n3_; have HO477 := n4_; have HO480 := n5_; have HO483 := n6_; have HO490 := n7_; have HO493 := n8_; have HO496 := n9_; have HO499 := n10_; have HO502 := n11_; have HO505 := n12_; have HO508 := n13_; have BK459 := n14_; have BK510 := n15_; have HB := n16_; clear n0_ n1_ n2_ n3_ n4_ n5_ n6_ n7_ n8_ n9_ n10_ n11_ n12_ n13_ n14_ n15_ n16_; (try clear hb); (try clear hb2); (try clear hk); (try clear hi)))
    have n0_ := m_ (Kd.S_drew HO465.out)
    have n1_ := m_ (Kd.R_drew HO468.out)
    have n2_ := m_ (Kd.R_drew HO471.out)
    have n3_ := m_ (Kd.R_drew HO474.out)
    have n4_ := m_ (Kd.R_drew HO477.out)
    have n5_ := m_ (Kd.R_drew HO480.out)
    have n6_ := m_ (Kd.R_drew HO483.out)
    have n7_ := m_ (Kd.S_drew HO490.out)
    have n8_ := m_ (Kd.R_drew HO493.out)
    have n9_ := m_ (Kd.R_drew HO496.out)
    have n10_ := m_ (Kd.R_drew HO499.out)
    have n11_ := m_ (Kd.R_drew HO502.out)
    have n12_ := m_ (Kd.R_drew HO505.out)
    have n13_ := m_ (Kd.R_drew HO508.out)
    have n14_ := m_ (blk_drew BK459.out)
    have n15_ := m_ (blk_drew BK510.out)
    have n16_ := m_ (below_drew1 HB.out)
    clear HO465
    clear HO468
    clear HO471
    clear HO474
    clear HO477
    clear HO480
    clear HO483
    clear HO490
    clear HO493
    clear HO496
    clear HO499
    clear HO502
    clear HO505
    clear HO508
    clear BK459
    clear BK510
    clear HB
    have HO465 := n0_
    have HO468 := n1_
    have HO471 := n2_
    have HO474 := n3_
    have HO477 := n4_
    have HO480 := n5_
    have HO483 := n6_
    have HO490 := n7_
    have HO493 := n8_
    have HO496 := n9_
    have HO499 := n10_
    have HO502 := n11_
    have HO505 := n12_
    have HO508 := n13_
    have BK459 := n14_
    have BK510 := n15_
    have HB := n16_
    clear n0_ n1_ n2_ n3_ n4_ n5_ n6_ n7_ n8_ n9_ n10_ n11_ n12_ n13_ n14_ n15_ n16_
    refine start_ (n := 5) (S := fun w' => w'.cell? ⟨gb510, 0, none⟩ = some (.int .i64 t486) ∧ w'.cell? ⟨gb510, 1, none⟩ = some (.int .i64 t487) ∧ w'.cell? ⟨gb510, 2, none⟩ = some (.slice Ao35 t488.length co35) ∧ w'.cell? ⟨gb510, 3, none⟩ = some (.slice Ao36 t491.length co36) ∧ w'.cell? ⟨gb510, 4, none⟩ = some (.slice Ao37 t494.length co37) ∧ w'.cell? ⟨gb510, 5, none⟩ = some (.slice Ao38 t497.length co38) ∧ w'.cell? ⟨gb510, 6, none⟩ = some (.slice Ao39 t500.length co39) ∧ w'.cell? ⟨gb510, 7, none⟩ = some (.slice Ao40 t503.length co40) ∧ w'.cell? ⟨gb510, 8, none⟩ = some (.slice Ao41 t506.length co41) ∧ w'.cell? ⟨gb510, 9, none⟩ = some (.int .i64 t509) ∧ w'.cell? ⟨gb459, 0, none⟩ = some (.int .i64 a0_0) ∧ w'.cell? ⟨gb459, 1, none⟩ = some (.int .i64 a0_1) ∧ w'.cell? ⟨gb459, 2, none⟩ = some (.slice A0_2 l0_2.length c0_2) ∧ w'.cell? ⟨gb459, 3, none⟩ = some (.slice A0_3 l0_3.length c0_3) ∧ w'.cell? ⟨gb459, 4, none⟩ = some (.slice A0_4 l0_4.length c0_4) ∧ w'.cell? ⟨gb459, 5, none⟩ = some (.slice A0_5 l0_5.length c0_5) ∧ w'.cell? ⟨gb459, 6, none⟩ = some (.slice A0_6 l0_6.length c0_6) ∧ w'.cell? ⟨gb459, 7, none⟩ = some (.slice A0_7 l0_7.length c0_7) ∧ w'.cell? ⟨gb459, 8, none⟩ = some (.slice A0_8 l0_8.length c0_8) ∧ w'.cell? ⟨gb459, 9, none⟩ = some (.int .i64 a0_9)) (ds := []) #[false, false, false, false, false] (by kernel_rfl) rfl rfl ⟨bc BK510 0, bc BK510 1, bc BK510 2, bc BK510 3, bc BK510 4, bc BK510 5, bc BK510 6, bc BK510 7, bc BK510 8, bc BK510 9, bc BK459 0, bc BK459 1, bc BK459 2, bc BK459 3, bc BK459 4, bc BK459 5, bc BK459 6, bc BK459 7, bc BK459 8, bc BK459 9⟩ (fun hHeld => ?_)
    generalize w42.drew = w43 at HO465 HO468 HO471 HO474 HO477 HO480 HO483 HO490 HO493 HO496 HO499 HO502 HO505 HO508 BK459 BK510 HB hHeld ⊢
    refine take_ (i := 0) (N := some 30) (v := ?_) (a' := ?_) #[true, false, false, false, false] rfl rfl (by kernel_rfl) (fun _ _ _ h => h) (Or.inl ⟨by rfl, ?_⟩) hHeld ?_ ?_
    rotate_left
    ·rintro w' ⟨s0, s1, s2, s3, s4, s5, s6, s7, s8, s9, s10, s11, s12, s13, s14, s15, s16, s17, s18, s19⟩
     go_simp
     with_reducible rfl
    rotate_left
    ·simp only [Act.put, List.setIfInBounds_toArray, List.set_cons_zero, List.set_cons_succ, i64_w, i32_w]
     rfl
    refine take_ (i := 1) (N := some 31) (v := ?_) (a' := ?_) #[true, true, false, false, false] rfl rfl (by kernel_rfl) (fun _ _ _ h => h) (Or.inl ⟨by rfl, ?_⟩) hHeld ?_ ?_
    rotate_left
    ·rintro w' ⟨s0, s1, s2, s3, s4, s5, s6, s7, s8, s9, s10, s11, s12, s13, s14, s15, s16, s17, s18, s19⟩
     go_simp
     with_reducible rfl
    rotate_left
    ·simp only [Act.put, List.setIfInBounds_toArray, List.set_cons_zero, List.set_cons_succ, i64_w, i32_w]
     rfl
    refine one_ (i := 2) (N := some 32) #[true, true, true, false, false] rfl rfl (by kernel_rfl) (by decide) (fun K hK => ?_)
    refine goes_ Tryd.func11 (by kernel_rfl) rfl #[.agg #[.int .i64 a0_0, .int .i64 a0_1, .slice A0_2 l0_2.length c0_2, .slice A0_3 l0_3.length c0_3, .slice A0_4 l0_4.length c0_4, .slice A0_5 l0_5.length c0_5, .slice A0_6 l0_6.length c0_6, .slice A0_7 l0_7.length c0_7, .slice A0_8 l0_8.length c0_8, .int .i64 a0_9]] (by rfl) rfl rfl gl_ ?_
    with_reducible refine (laws_toConf.calls k a0_0 a0_1 _ _ l0_2 _ _ l0_3 _ _ l0_4 _ _ l0_5 _ _ l0_6 _ _ l0_7 _ _ l0_8 a0_9 t512 t513 t514 t517 t520 t523 t526 t529 t532 t535 _ ?side1 ?side2 ?side3 ?side4 ?side5 ?side6 ?side7 ?side8 ?side9 ?side10 ?side11 ?side12 ?side13 ?side14 A14.out).mono ?_
    (case side1 => exact cN (Kd.C_below HR0_2.out HB.out))
    (case side2 => exact HC0_2.out)
    (case side3 => exact cN (Kd.C_below HR0_3.out HB.out))
    (case side4 => exact HC0_3.out)
    (case side5 => exact cN (Kd.C_below HR0_4.out HB.out))
    (case side6 => exact HC0_4.out)
    (case side7 => exact cN (Kd.C_below HR0_5.out HB.out))
    (case side8 => exact HC0_5.out)
    (case side9 => exact cN (Kd.C_below HR0_6.out HB.out))
    (case side10 => exact HC0_6.out)
    (case side11 => exact cN (Kd.C_below HR0_7.out HB.out))
    (case side12 => exact HC0_7.out)
    (case side13 => exact cN (Kd.C_below HR0_8.out HB.out))
    (case side14 => exact HC0_8.out)
    rintro e w44 ⟨v515, v518, v521, v524, v527, v530, v533, rfl, ho0, ho1, ho2, ho3, ho4, ho5, ho6, hb⟩
    refine ⟨_, rfl, ?_⟩
    have n0_ := m_ (Kd.S_elder' (by (with_reducible repeat (first | apply Kd.S_alloc | apply Kd.S_drewN | apply Kd.S_drew)); exact HO465.out) (Kd.S_base ho0) hb)
    have n1_ := m_ (Kd.R_mono (Kd.R_told (Kd.R_told (Kd.R_told (Kd.R_told (Kd.R_told (Kd.R_old (rN HO468.out) hb) (Kd.R_base ho1)) (Kd.R_base ho2)) (Kd.R_base ho3)) (Kd.R_base ho4)) (Kd.R_base ho5)) (fun _ h_ => h_.1))
    have n2_ := m_ (Kd.R_mono (Kd.R_told (Kd.R_told (Kd.R_told (Kd.R_told (Kd.R_told (Kd.R_old (rN HO471.out) hb) (Kd.R_base ho1)) (Kd.R_base ho2)) (Kd.R_base ho3)) (Kd.R_base ho4)) (Kd.R_base ho5)) (fun _ h_ => h_.1))
    have n3_ := m_ (Kd.R_mono (Kd.R_told (Kd.R_told (Kd.R_told (Kd.R_told (Kd.R_told (Kd.R_old (rN HO474.out) hb) (Kd.R_base ho1)) (Kd.R_base ho2)) (Kd.R_base ho3)) (Kd.R_base ho4)) (Kd.R_base ho5)) (fun _ h_ => h_.1))
    have n4_ := m_ (Kd.R_mono (Kd.R_told (Kd.R_told (Kd.R_told (Kd.R_told (Kd.R_told (Kd.R_old (rN HO477.out) hb) (Kd.R_base ho1)) (Kd.R_base ho2)) (Kd.R_base ho3)) (Kd.R_base ho4)) (Kd.R_base ho5)) (fun _ h_ => h_.1))
    have n5_ := m_ (Kd.R_mono (Kd.R_told (Kd.R_told (Kd.R_told (Kd.R_told (Kd.R_told (Kd.R_old (rN HO480.out) hb) (Kd.R_base ho1)) (Kd.R_base ho2)) (Kd.R_base ho3)) (Kd.R_base ho4)) (Kd.R_base ho5)) (fun _ h_ => h_.1))
    have n6_ := m_ (Kd.R_elder' (rN HO483.out) (Kd.R_base ho6) hb)
    have n7_ := m_ (Kd.S_elder' (by (with_reducible repeat (first | apply Kd.S_alloc | apply Kd.S_drewN | apply Kd.S_drew)); exact HO490.out) (Kd.S_base ho0) hb)
    have n8_ := m_ (Kd.R_mono (Kd.R_told (Kd.R_told (Kd.R_told (Kd.R_told (Kd.R_told (Kd.R_old (rN HO493.out) hb) (Kd.R_base ho1)) (Kd.R_base ho2)) (Kd.R_base ho3)) (Kd.R_base ho4)) (Kd.R_base ho5)) (fun _ h_ => h_.1))
    have n9_ := m_ (Kd.R_mono (Kd.R_told (Kd.R_told (Kd.R_told (Kd.R_told (Kd.R_told (Kd.R_old (rN HO496.out) hb) (Kd.R_base ho1)) (Kd.R_base ho2)) (Kd.R_base ho3)) (Kd.R_base ho4)) (Kd.R_base ho5)) (fun _ h_ => h_.1))
    have n10_ := m_ (Kd.R_mono (Kd.R_told (Kd.R_told (Kd.R_told (Kd.R_told (Kd.R_told (Kd.R_old (rN HO499.out) hb) (Kd.R_base ho1)) (Kd.R_base ho2)) (Kd.R_base ho3)) (Kd.R_base ho4)) (Kd.R_base ho5)) (fun _ h_ => h_.1))
    have n11_ := m_ (Kd.R_mono (Kd.R_told (Kd.R_told (Kd.R_told (Kd.R_told (Kd.R_told (Kd.R_old (rN HO502.out) hb) (Kd.R_base ho1)) (Kd.R_base ho2)) (Kd.R_base ho3)) (Kd.R_base ho4)) (Kd.R_base ho5)) (fun _ h_ => h_.1))
    have n12_ := m_ (Kd.R_mono (Kd.R_told (Kd.R_told (Kd.R_told (Kd.R_told (Kd.R_told (Kd.R_old (rN HO505.out) hb) (Kd.R_base ho1)) (Kd.R_base ho2)) (Kd.R_base ho3)) (Kd.R_base ho4)) (Kd.R_base ho5)) (fun _ h_ => h_.1))
    have n13_ := m_ (Kd.R_elder' (rN HO508.out) (Kd.R_base ho6) hb)
    have n14_ := m_ (Kd.S_lower (Kd.S_new' (Kd.S_new' ho0 (Kd.S_lt (by (with_reducible repeat (first | apply Kd.S_alloc | apply Kd.S_drewN | apply Kd.S_drew)); exact HO465.out))) (Kd.S_lt (by (with_reducible repeat (first | apply Kd.S_alloc | apply Kd.S_drewN | apply Kd.S_drew)); exact HO490.out))) (below_size (bN HB.out)))
    have n15_ := m_ (Kd.R_lower (Kd.R_new' (Kd.R_new' (Kd.R_new' (Kd.R_new' (Kd.R_new' (Kd.R_new' (Kd.R_new' (Kd.R_new' (Kd.R_new' (Kd.R_new' ho1 (Kd.R_lt (rN HO468.out))) (Kd.R_lt (rN HO471.out))) (Kd.R_lt (rN HO474.out))) (Kd.R_lt (rN HO477.out))) (Kd.R_lt (rN HO480.out))) (Kd.R_lt (rN HO493.out))) (Kd.R_lt (rN HO496.out))) (Kd.R_lt (rN HO499.out))) (Kd.R_lt (rN HO502.out))) (Kd.R_lt (rN HO505.out))) (below_size (bN HB.out)))
    have n16_ := m_ (Kd.R_lower (Kd.R_new' (Kd.R_new' (Kd.R_new' (Kd.R_new' (Kd.R_new' (Kd.R_new' (Kd.R_new' (Kd.R_new' (Kd.R_new' (Kd.R_new' ho2 (Kd.R_lt (rN HO468.out))) (Kd.R_lt (rN HO471.out))) (Kd.R_lt (rN HO474.out))) (Kd.R_lt (rN HO477.out))) (Kd.R_lt (rN HO480.out))) (Kd.R_lt (rN HO493.out))) (Kd.R_lt (rN HO496.out))) (Kd.R_lt (rN HO499.out))) (Kd.R_lt (rN HO502.out))) (Kd.R_lt (rN HO505.out))) (below_size (bN HB.out)))
    have n17_ := m_ (Kd.R_lower (Kd.R_new' (Kd.R_new' (Kd.R_new' (Kd.R_new' (Kd.R_new' (Kd.R_new' (Kd.R_new' (Kd.R_new' (Kd.R_new' (Kd.R_new' ho3 (Kd.R_lt (rN HO468.out))) (Kd.R_lt (rN HO471.out))) (Kd.R_lt (rN HO474.out))) (Kd.R_lt (rN HO477.out))) (Kd.R_lt (rN HO480.out))) (Kd.R_lt (rN HO493.out))) (Kd.R_lt (rN HO496.out))) (Kd.R_lt (rN HO499.out))) (Kd.R_lt (rN HO502.out))) (Kd.R_lt (rN HO505.out))) (below_size (bN HB.out)))
    have n18_ := m_ (Kd.R_lower (Kd.R_new' (Kd.R_new' (Kd.R_new' (Kd.R_new' (Kd.R_new' (Kd.R_new' (Kd.R_new' (Kd.R_new' (Kd.R_new' (Kd.R_new' ho4 (Kd.R_lt (rN HO468.out))) (Kd.R_lt (rN HO471.out))) (Kd.R_lt (rN HO474.out))) (Kd.R_lt (rN HO477.out))) (Kd.R_lt (rN HO480.out))) (Kd.R_lt (rN HO493.out))) (Kd.R_lt (rN HO496.out))) (Kd.R_lt (rN HO499.out))) (Kd.R_lt (rN HO502.out))) (Kd.R_lt (rN HO505.out))) (below_size (bN HB.out)))
    have n19_ := m_ (Kd.R_lower (Kd.R_new' (Kd.R_new' (Kd.R_new' (Kd.R_new' (Kd.R_new' (Kd.R_new' (Kd.R_new' (Kd.R_new' (Kd.R_new' (Kd.R_new' ho5 (Kd.R_lt (rN HO468.out))) (Kd.R_lt (rN HO471.out))) (Kd.R_lt (rN HO474.out))) (Kd.R_lt (rN HO477.out))) (Kd.R_lt (rN HO480.out))) (Kd.R_lt (rN HO493.out))) (Kd.R_lt (rN HO496.out))) (Kd.R_lt (rN HO499.out))) (Kd.R_lt (rN HO502.out))) (Kd.R_lt (rN HO505.out))) (below_size (bN HB.out)))
    have n20_ := m_ (Kd.R_lower (Kd.R_new' (Kd.R_new' ho6 (Kd.R_lt (rN HO483.out))) (Kd.R_lt (rN HO508.out))) (below_size (bN HB.out)))
    have n21_ := m_ (blk_below (kN BK459.out) hb)
    have n22_ := m_ (blk_below (kN BK510.out) hb)
    have n23_ := m_ (below_step (bN HB.out) hb)
    clear HO465
    clear HO468
    clear HO471
    clear HO474
    clear HO477
    clear HO480
    clear HO483
    clear HO490
    clear HO493
    clear HO496
    clear HO499
    clear HO502
    clear HO505
    clear HO508
    clear BK459
    clear BK510
    clear HB
    have HO465 := n0_
    have HO468 := n1_
    have HO471 := n2_
    have HO474 := n3_
    have HO477 := n4_
    have HO480 := n5_
    have HO483 := n6_
    have HO490 := n7_
    have HO493 := n8_
    have HO496 := n9_
    have HO499 := n10_
    have HO502 := n11_
    have HO505 := n12_
    have HO508 := n13_
    have HO516 := n14_
    have HO519 := n15_
    have HO522 := n16_
    have HO525 := n17_
    have HO528 := n18_
    have HO531 := n19_
    have HO534 := n20_
    have BK459 := n21_
    have BK510 := n22_
    have HB := n23_
    clear n0_ n1_ n2_ n3_ n4_ n5_ n6_ n7_ n8_ n9_ n10_ n11_ n12_ n13_ n14_ n15_ n16_ n17_ n18_ n19_ n20_ n21_ n22_ n23_
    (try clear hb)
    (try clear hb2)
    (try clear hk)
    (try clear hi)
    (try clear ho0)
    (try clear ho1)
    (try clear ho2)
    (try clear ho3)
    (try clear ho4)
    (try clear ho5)
    (try clear ho6)
    obtain ⟨Ao45, co45, eo45⟩ := Kd.S_slice HO516.out
    (first | subst eo45 | (injection eo45 with f1_ f2_ f3_; have f4_ := f1_.symm; have f5_ := f3_.symm; clear f1_ f2_ f3_; subst f4_; subst f5_))
    obtain ⟨Ao46, co46, eo46⟩ := Kd.R_slice HO519.out
    (first | subst eo46 | (injection eo46 with f1_ f2_ f3_; have f4_ := f1_.symm; have f5_ := f3_.symm; clear f1_ f2_ f3_; subst f4_; subst f5_))
    obtain ⟨Ao47, co47, eo47⟩ := Kd.R_slice HO522.out
    (first | subst eo47 | (injection eo47 with f1_ f2_ f3_; have f4_ := f1_.symm; have f5_ := f3_.symm; clear f1_ f2_ f3_; subst f4_; subst f5_))
    obtain ⟨Ao48, co48, eo48⟩ := Kd.R_slice HO525.out
    (first | subst eo48 | (injection eo48 with f1_ f2_ f3_; have f4_ := f1_.symm; have f5_ := f3_.symm; clear f1_ f2_ f3_; subst f4_; subst f5_))
    obtain ⟨Ao49, co49, eo49⟩ := Kd.R_slice HO528.out
    (first | subst eo49 | (injection eo49 with f1_ f2_ f3_; have f4_ := f1_.symm; have f5_ := f3_.symm; clear f1_ f2_ f3_; subst f4_; subst f5_))
    obtain ⟨Ao50, co50, eo50⟩ := Kd.R_slice HO531.out
    (first | subst eo50 | (injection eo50 with f1_ f2_ f3_; have f4_ := f1_.symm; have f5_ := f3_.symm; clear f1_ f2_ f3_; subst f4_; subst f5_))
    obtain ⟨Ao51, co51, eo51⟩ := Kd.R_slice HO534.out
    (first | subst eo51 | (injection eo51 with f1_ f2_ f3_; have f4_ := f1_.symm; have f5_ := f3_.symm; clear f1_ f2_ f3_; subst f4_; subst f5_))
    refine hK.out _ _ ⟨bc BK510 0, bc BK510 1, bc BK510 2, bc BK510 3, bc BK510 4, bc BK510 5, bc BK510 6, bc BK510 7, bc BK510 8, bc BK510 9, bc BK459 0, bc BK459 1, bc BK459 2, bc BK459 3, bc BK459 4, bc BK459 5, bc BK459 6, bc BK459 7, bc BK459 8, bc BK459 9⟩ (fun hHeld => ?_)
    clear hK K
    refine np (h := ?_)
    refine one_ (i := 3) (N := some 33) #[true, true, true, true, false] rfl rfl (by kernel_rfl) (by decide) (fun K hK => ?_)
    refine goes_ Tryd.func13 (by kernel_rfl) rfl #[.agg #[.int .i64 t486, .int .i64 t487, .slice Ao35 t488.length co35, .slice Ao36 t491.length co36, .slice Ao37 t494.length co37, .slice Ao38 t497.length co38, .slice Ao39 t500.length co39, .slice Ao40 t503.length co40, .slice Ao41 t506.length co41, .int .i64 t509], .agg #[.int .i64 t512, .int .i64 t513, .slice Ao45 t514.length co45, .slice Ao46 t517.length co46, .slice Ao47 t520.length co47, .slice Ao48 t523.length co48, .slice Ao49 t526.length co49, .slice Ao50 t529.length co50, .slice Ao51 t532.length co51, .int .i64 t535]] (by rfl) rfl rfl gl_ ?_
    with_reducible refine (laws_eqConf.calls k t486 t487 _ _ t488 _ _ t491 _ _ t494 _ _ t497 _ _ t500 _ _ t503 _ _ t506 t509 t512 t513 _ _ t514 _ _ t517 _ _ t520 _ _ t523 _ _ t526 _ _ t529 _ _ t532 t535 true _ ?side1 ?side2 ?side3 ?side4 ?side5 ?side6 ?side7 ?side8 ?side9 ?side10 ?side11 ?side12 ?side13 ?side14 ?side15 ?side16 ?side17 ?side18 ?side19 ?side20 ?side21 ?side22 ?side23 ?side24 ?side25 ?side26 ?side27 ?side28 A15.out).mono ?_
    (case side1 => exact cN (Kd.S_reads' HO490.out).2.2)
    (case side2 => exact (Kd.S_reads' HO490.out).2.1)
    (case side3 => exact cN (Kd.R_reads' HO493.out).2.2)
    (case side4 => exact (Kd.R_reads' HO493.out).2.1)
    (case side5 => exact cN (Kd.R_reads' HO496.out).2.2)
    (case side6 => exact (Kd.R_reads' HO496.out).2.1)
    (case side7 => exact cN (Kd.R_reads' HO499.out).2.2)
    (case side8 => exact (Kd.R_reads' HO499.out).2.1)
    (case side9 => exact cN (Kd.R_reads' HO502.out).2.2)
    (case side10 => exact (Kd.R_reads' HO502.out).2.1)
    (case side11 => exact cN (Kd.R_reads' HO505.out).2.2)
    (case side12 => exact (Kd.R_reads' HO505.out).2.1)
    (case side13 => exact cN (Kd.R_reads' HO508.out).2.2)
    (case side14 => exact (Kd.R_reads' HO508.out).2.1)
    (case side15 => exact cN (Kd.S_reads' HO516.out).2.2)
    (case side16 => exact (Kd.S_reads' HO516.out).2.1)
    (case side17 => exact cN (Kd.R_reads' HO519.out).2.2)
    (case side18 => exact (Kd.R_reads' HO519.out).2.1)
    (case side19 => exact cN (Kd.R_reads' HO522.out).2.2)
    (case side20 => exact (Kd.R_reads' HO522.out).2.1)
    (case side21 => exact cN (Kd.R_reads' HO525.out).2.2)
    (case side22 => exact (Kd.R_reads' HO525.out).2.1)
    (case side23 => exact cN (Kd.R_reads' HO528.out).2.2)
    (case side24 => exact (Kd.R_reads' HO528.out).2.1)
    (case side25 => exact cN (Kd.R_reads' HO531.out).2.2)
    (case side26 => exact (Kd.R_reads' HO531.out).2.1)
    (case side27 => exact cN (Kd.R_reads' HO534.out).2.2)
    (case side28 => exact (Kd.R_reads' HO534.out).2.1)
    rintro e w52 ⟨rfl, hb⟩
    refine ⟨_, rfl, ?_⟩
    have n0_ := m_ (Kd.S_below (by (with_reducible repeat (first | apply Kd.S_alloc | apply Kd.S_drewN | apply Kd.S_drew)); exact HO465.out) hb)
    have n1_ := m_ (Kd.R_below (rN HO468.out) hb)
    have n2_ := m_ (Kd.R_below (rN HO471.out) hb)
    have n3_ := m_ (Kd.R_below (rN HO474.out) hb)
    have n4_ := m_ (Kd.R_below (rN HO477.out) hb)
    have n5_ := m_ (Kd.R_below (rN HO480.out) hb)
    have n6_ := m_ (Kd.R_below (rN HO483.out) hb)
    have n7_ := m_ (Kd.S_below (by (with_reducible repeat (first | apply Kd.S_alloc | apply Kd.S_drewN | apply Kd.S_drew)); exact HO490.out) hb)
    have n8_ := m_ (Kd.R_below (rN HO493.out) hb)
    have n9_ := m_ (Kd.R_below (rN HO496.out) hb)
    have n10_ := m_ (Kd.R_below (rN HO499.out) hb)
    have n11_ := m_ (Kd.R_below (rN HO502.out) hb)
    have n12_ := m_ (Kd.R_below (rN HO505.out) hb)
    have n13_ := m_ (Kd.R_below (rN HO508.out) hb)
    have n14_ := m_ (Kd.S_below (by (with_reducible repeat (first | apply Kd.S_alloc | apply Kd.S_drewN | apply Kd.S_drew)); exact HO516.out) hb)
    have n15_ := m_ (Kd.R_below (rN HO519.out) hb)
    have n16_ := m_ (Kd.R_below (rN HO522.out) hb)
    have n17_ := m_ (Kd.R_below (rN HO525.out) hb)
    have n18_ := m_ (Kd.R_below (rN HO528.out) hb)
    have n19_ := m_ (Kd.R_below (rN HO531.out) hb)
    have n20_ := m_ (Kd.R_below (rN HO534.out) hb)
    have n21_ := m_ (blk_below (kN BK459.out) hb)
    have n22_ := m_ (blk_below (kN BK510.out) hb)
    have n23_ := m_ (below_step (bN HB.out) hb)
    clear HO465
    clear HO468
    clear HO471
    clear HO474
    clear HO477
    clear HO480
    clear HO483
    clear HO490
    clear HO493
    clear HO496
    clear HO499
    clear HO502
    clear HO505
    clear HO508
    clear HO516
    clear HO519
    clear HO522
    clear HO525
    clear HO528
    clear HO531
    clear HO534
    clear BK459
    clear BK510
    clear HB
    have HO465 := n0_
    have HO468 := n1_
    have HO471 := n2_
    have HO474 := n3_
    have HO477 := n4_
    have HO480 := n5_
    have HO483 := n6_
    have HO490 := n7_
    have HO493 := n8_
    have HO496 := n9_
    have HO499 := n10_
    have HO502 := n11_
    have HO505 := n12_
    have HO508 := n13_
    have HO516 := n14_
    have HO519 := n15_
    have HO522 := n16_
    have HO525 := n17_
    have HO528 := n18_
    have HO531 := n19_
    have HO534 := n20_
    have BK459 := n21_
    have BK510 := n22_
    have HB := n23_
    clear n0_ n1_ n2_ n3_ n4_ n5_ n6_ n7_ n8_ n9_ n10_ n11_ n12_ n13_ n14_ n15_ n16_ n17_ n18_ n19_ n20_ n21_ n22_ n23_
    (try clear hb)
    (try clear hb2)
    (try clear hk)
    (try clear hi)
    refine hK.out _ _ ⟨bc BK510 0, bc BK510 1, bc BK510 2, bc BK510 3, bc BK510 4, bc BK510 5, bc BK510 6, bc BK510 7, bc BK510 8, bc BK510 9, bc BK459 0, bc BK459 1, bc BK459 2, bc BK459 3, bc BK459 4, bc BK459 5, bc BK459 6, bc BK459 7, bc BK459 8, bc BK459 9⟩ (fun hHeld => ?_)
    clear hK K
    refine np (h := ?_)
    refine pure_ (i := 4) (N := some 34) (v := ?_) (a' := ?_) #[true, true, true, true, true] rfl rfl (by kernel_rfl) (fun _ _ _ h => h) (Or.inl ⟨by rfl, ?_⟩) ?_ ?_
    rotate_left
    ·intro w'
     go_simp
     with_reducible rfl
    rotate_left
    ·simp only [Act.put, List.setIfInBounds_toArray, List.set_cons_zero, List.set_cons_succ, i64_w, i32_w]
     rfl
    refine done_ (by kernel_rfl) ?_
    try go_wp2
    go_ret
    exact ⟨by first | rfl | (simp [errW_none, errW_some] <;> rfl) | (simp [*, errW_none, errW_some] <;> rfl), by repeat (first | (with_reducible first | exact HB.out | apply below_alloc | apply pw_below_drewN | apply below_drew1 | refine below_set ?_ GE459.out | refine below_set ?_ GE510.out) | exact HB.out)⟩
   ·replace c16 := Bool.eq_false_iff.mpr c16
    subst c16
    have H1 : (none) = some r := by rw [if_neg (show ¬ (false = true) by decide)] at H; exact H
    exact absurd H1 (by simp)
  ·rw [if_neg c13] at H
   exact absurd H (by simp)

end Go.Proofs.YtcenmlpfbpogoaaDoor.P
