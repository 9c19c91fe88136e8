/- The machine side of these statements, function by function: what each Go function answers (as a Lean function), and that it does. Written by a program (mp.py) for this claim. -/
import Derived.Test.YtcenmlpfbpogoaaDoorPx0
import Derived.Test.YtcenmlpfbpogoaaDoorPx1
import Derived.Test.YtcenmlpfbpogoaaDoorPx2
import Derived.Test.YtcenmlpfbpogoaaDoorPx3
import Derived.Test.YtcenmlpfbpogoaaDoorPx8
import Derived.Test.YtcenmlpfbpogoaaDoorPx14
namespace Go.Proofs.YtcenmlpfbpogoaaDoor.P
open Go.RowKit Go.Proofs.YtcenmlpfbpogoaaDoorW.PrintWords Go.Proofs.YtcenmlpfbpogoaaDoorW.PrintLast Go.Proofs.YtcenmlpfbpogoaaDoorW.PrintMore
attribute [local go_sem] max2_int min2_int max_two min_two max_three min_three max_four min_four   -- for this text's walks alone
set_option linter.unusedVariables false
set_option linter.unusedSimpArgs false

/-! ### laws_FnExactConfPart: function 8 -/
def laws_FnExactConfPart.f (k : Nat) (a0_0 : Int) (a0_1 : Int) (l0_2 : List (List (S109))) (l0_3 : List Int) (l0_4 : List Int) (l0_5 : List Int) (l0_6 : List Int) (l0_7 : List Int) (l0_8 : List (S80)) (a0_9 : Int) (a1 : Int) : Option (Bool) := (laws_szConf.f k a0_0 a0_1 l0_2 l0_3 l0_4 l0_5 l0_6 l0_7 l0_8 a0_9 1048576).bind fun t369 => (if t369 < 0 then (some true) else ((laws_toConf.f k a0_0 a0_1 l0_2 l0_3 l0_4 l0_5 l0_6 l0_7 l0_8 a0_9).bind fun bt370 => ((spec_ConfPart.f k bt370.1 bt370.2.1 bt370.2.2.1 bt370.2.2.2.1 bt370.2.2.2.2.1 bt370.2.2.2.2.2.1 bt370.2.2.2.2.2.2.1 bt370.2.2.2.2.2.2.2.1 bt370.2.2.2.2.2.2.2.2.1 bt370.2.2.2.2.2.2.2.2.2 a1).bind fun t394 => ((laws_toConf.f k a0_0 a0_1 l0_2 l0_3 l0_4 l0_5 l0_6 l0_7 l0_8 a0_9).bind fun bt395 => ((impl_ConfPart.f k bt395.1 bt395.2.1 bt395.2.2.1 bt395.2.2.2.1 bt395.2.2.2.2.1 bt395.2.2.2.2.2.1 bt395.2.2.2.2.2.2.1 bt395.2.2.2.2.2.2.2.1 bt395.2.2.2.2.2.2.2.2.1 bt395.2.2.2.2.2.2.2.2.2 a1).bind fun t420 => (if t420 = t394 then ((laws_toConf.f k a0_0 a0_1 l0_2 l0_3 l0_4 l0_5 l0_6 l0_7 l0_8 a0_9).bind fun bt421 => ((laws_eqConf.f k bt395.1 bt395.2.1 bt395.2.2.1 bt395.2.2.2.1 bt395.2.2.2.2.1 bt395.2.2.2.2.2.1 bt395.2.2.2.2.2.2.1 bt395.2.2.2.2.2.2.2.1 bt395.2.2.2.2.2.2.2.2.1 bt395.2.2.2.2.2.2.2.2.2 bt421.1 bt421.2.1 bt421.2.2.1 bt421.2.2.2.1 bt421.2.2.2.2.1 bt421.2.2.2.2.2.1 bt421.2.2.2.2.2.2.1 bt421.2.2.2.2.2.2.2.1 bt421.2.2.2.2.2.2.2.2.1 bt421.2.2.2.2.2.2.2.2.2).bind fun t445 => (if t445 = true then (some true) else (none)))) else (none)))))))
theorem laws_FnExactConfPart.mono : ∀ a0 a1 a2 a3 a4 a5 a6 a7 a8 a9 a10 k, LeO (laws_FnExactConfPart.f k a0 a1 a2 a3 a4 a5 a6 a7 a8 a9 a10) (laws_FnExactConfPart.f (k + 1) a0 a1 a2 a3 a4 a5 a6 a7 a8 a9 a10) := by
 intro a0 a1 a2 a3 a4 a5 a6 a7 a8 a9 a10 k
 unfold laws_FnExactConfPart.f
 repeat' first
   | (with_reducible exact impl_ConfPart.mono _ _ _ _ _ _ _ _ _ _ _ _)
   | (with_reducible exact laws_eqConf.mono _ _ _ _ _ _ _ _ _ _ _ _ _ _ _ _ _ _ _ _ _)
   | (with_reducible exact laws_szConf.mono _ _ _ _ _ _ _ _ _ _ _ _)
   | (with_reducible exact laws_toConf.mono _ _ _ _ _ _ _ _ _ _ _)
   | (with_reducible exact spec_ConfPart.mono _ _ _ _ _ _ _ _ _ _ _ _)
   | (with_reducible exact LeO.refl _)
   | (with_reducible exact LeO.none _)
   | (with_reducible refine LeO.ite ?_ ?_)
   | (with_reducible refine LeO.bind ?_ (fun _ => ?_))
   | exact impl_ConfPart.mono _ _ _ _ _ _ _ _ _ _ _ _
   | exact laws_eqConf.mono _ _ _ _ _ _ _ _ _ _ _ _ _ _ _ _ _ _ _ _ _
   | exact laws_szConf.mono _ _ _ _ _ _ _ _ _ _ _ _
   | exact laws_toConf.mono _ _ _ _ _ _ _ _ _ _ _
   | exact spec_ConfPart.mono _ _ _ _ _ _ _ _ _ _ _ _
   | exact LeO.none _
   | refine LeO.ite ?_ ?_
   | refine LeO.bind ?_ (fun _ => ?_)
set_option maxHeartbeats 8000000 in
set_option maxRecDepth 100000 in
theorem laws_FnExactConfPart.calls (k : Nat) (a0_0 : Int) (a0_1 : Int) (A0_2 : Option Addr) (c0_2 : Nat) (l0_2 : List (List (S109))) (A0_3 : Option Addr) (c0_3 : Nat) (l0_3 : List Int) (A0_4 : Option Addr) (c0_4 : Nat) (l0_4 : List Int) (A0_5 : Option Addr) (c0_5 : Nat) (l0_5 : List Int) (A0_6 : Option Addr) (c0_6 : Nat) (l0_6 : List Int) (A0_7 : Option Addr) (c0_7 : Nat) (l0_7 : List Int) (A0_8 : Option Addr) (c0_8 : Nat) (l0_8 : List (S80)) (a0_9 : Int) (a1 : Int) (r : Bool) (w : World) (hr0_2 : Kd.C (Kd.slice 109 k109) w A0_2 l0_2.length l0_2) (hc0_2 : l0_2.length ≤ c0_2) (hr0_3 : Kd.C (Kd.int .i64) w A0_3 l0_3.length l0_3) (hc0_3 : l0_3.length ≤ c0_3) (hr0_4 : Kd.C (Kd.int .i64) w A0_4 l0_4.length l0_4) (hc0_4 : l0_4.length ≤ c0_4) (hr0_5 : Kd.C (Kd.int .i64) w A0_5 l0_5.length l0_5) (hc0_5 : l0_5.length ≤ c0_5) (hr0_6 : Kd.C (Kd.int .i64) w A0_6 l0_6.length l0_6) (hc0_6 : l0_6.length ≤ c0_6) (hr0_7 : Kd.C (Kd.int .i64) w A0_7 l0_7.length l0_7) (hc0_7 : l0_7.length ≤ c0_7) (hr0_8 : Kd.C k80 w A0_8 l0_8.length l0_8) (hc0_8 : l0_8.length ≤ c0_8) (h : laws_FnExactConfPart.f k a0_0 a0_1 l0_2 l0_3 l0_4 l0_5 l0_6 l0_7 l0_8 a0_9 a1 = some r) (hG : GErr w) :
  Calls Tryd.prog 8 #[.agg #[.int .i64 a0_0, .int .i64 a0_1, .slice A0_2 l0_2.length c0_2, .slice A0_3 l0_3.length c0_3, .slice A0_4 l0_4.length c0_4, .slice A0_5 l0_5.length c0_5, .slice A0_6 l0_6.length c0_6, .slice A0_7 l0_7.length c0_7, .slice A0_8 l0_8.length c0_8, .int .i64 a0_9], .int .i64 a1] w fun e w' => e = .returned (.bool r) ∧ Below w.heap.size w w' := by
 have HG0 := Aside0.mk hG
 clear hG
 have hu26 := Tryd.underlying26
 have hu32 := Tryd.underlying32
 have HR0_2 := Aside0.mk hr0_2
 have HC0_2 := Aside0.mk hc0_2
 clear hr0_2 hc0_2
 have HR0_3 := Aside0.mk hr0_3
 have HC0_3 := Aside0.mk hc0_3
 clear hr0_3 hc0_3
 have HR0_4 := Aside0.mk hr0_4
 have HC0_4 := Aside0.mk hc0_4
 clear hr0_4 hc0_4
 have HR0_5 := Aside0.mk hr0_5
 have HC0_5 := Aside0.mk hc0_5
 clear hr0_5 hc0_5
 have HR0_6 := Aside0.mk hr0_6
 have HC0_6 := Aside0.mk hc0_6
 clear hr0_6 hc0_6
 have HR0_7 := Aside0.mk hr0_7
 have HC0_7 := Aside0.mk hc0_7
 clear hr0_7 hc0_7
 have HR0_8 := Aside0.mk hr0_8
 have HC0_8 := Aside0.mk hc0_8
 clear hr0_8 hc0_8
 have HB := m_ (Below.refl w.heap.size w)
 have H : ((laws_szConf.f k a0_0 a0_1 l0_2 l0_3 l0_4 l0_5 l0_6 l0_7 l0_8 a0_9 1048576).bind fun t369 => (if t369 < 0 then (some true) else ((laws_toConf.f k a0_0 a0_1 l0_2 l0_3 l0_4 l0_5 l0_6 l0_7 l0_8 a0_9).bind fun bt370 => ((spec_ConfPart.f k bt370.1 bt370.2.1 bt370.2.2.1 bt370.2.2.2.1 bt370.2.2.2.2.1 bt370.2.2.2.2.2.1 bt370.2.2.2.2.2.2.1 bt370.2.2.2.2.2.2.2.1 bt370.2.2.2.2.2.2.2.2.1 bt370.2.2.2.2.2.2.2.2.2 a1).bind fun t394 => ((laws_toConf.f k a0_0 a0_1 l0_2 l0_3 l0_4 l0_5 l0_6 l0_7 l0_8 a0_9).bind fun bt395 => ((impl_ConfPart.f k bt395.1 bt395.2.1 bt395.2.2.1 bt395.2.2.2.1 bt395.2.2.2.2.1 bt395.2.2.2.2.2.1 bt395.2.2.2.2.2.2.1 bt395.2.2.2.2.2.2.2.1 bt395.2.2.2.2.2.2.2.2.1 bt395.2.2.2.2.2.2.2.2.2 a1).bind fun t420 => (if t420 = t394 then ((laws_toConf.f k a0_0 a0_1 l0_2 l0_3 l0_4 l0_5 l0_6 l0_7 l0_8 a0_9).bind fun bt421 => ((laws_eqConf.f k bt395.1 bt395.2.1 bt395.2.2.1 bt395.2.2.2.1 bt395.2.2.2.2.1 bt395.2.2.2.2.2.1 bt395.2.2.2.2.2.2.1 bt395.2.2.2.2.2.2.2.1 bt395.2.2.2.2.2.2.2.2.1 bt395.2.2.2.2.2.2.2.2.2 bt421.1 bt421.2.1 bt421.2.2.1 bt421.2.2.2.1 bt421.2.2.2.2.1 bt421.2.2.2.2.2.1 bt421.2.2.2.2.2.2.1 bt421.2.2.2.2.2.2.2.1 bt421.2.2.2.2.2.2.2.2.1 bt421.2.2.2.2.2.2.2.2.2).bind fun t445 => (if t445 = true then (some true) else (none)))) else (none)))))))) = some r := h
 clear h
 replace H := Option.bind_eq_some_iff.mp H
 obtain ⟨t369, A30, H⟩ := H
 replace H : (if t369 < 0 then (some true) else ((laws_toConf.f k a0_0 a0_1 l0_2 l0_3 l0_4 l0_5 l0_6 l0_7 l0_8 a0_9).bind fun bt370 => ((spec_ConfPart.f k bt370.1 bt370.2.1 bt370.2.2.1 bt370.2.2.2.1 bt370.2.2.2.2.1 bt370.2.2.2.2.2.1 bt370.2.2.2.2.2.2.1 bt370.2.2.2.2.2.2.2.1 bt370.2.2.2.2.2.2.2.2.1 bt370.2.2.2.2.2.2.2.2.2 a1).bind fun t394 => ((laws_toConf.f k a0_0 a0_1 l0_2 l0_3 l0_4 l0_5 l0_6 l0_7 l0_8 a0_9).bind fun bt395 => ((impl_ConfPart.f k bt395.1 bt395.2.1 bt395.2.2.1 bt395.2.2.2.1 bt395.2.2.2.2.1 bt395.2.2.2.2.2.1 bt395.2.2.2.2.2.2.1 bt395.2.2.2.2.2.2.2.1 bt395.2.2.2.2.2.2.2.2.1 bt395.2.2.2.2.2.2.2.2.2 a1).bind fun t420 => (if t420 = t394 then ((laws_toConf.f k a0_0 a0_1 l0_2 l0_3 l0_4 l0_5 l0_6 l0_7 l0_8 a0_9).bind fun bt421 => ((laws_eqConf.f k bt395.1 bt395.2.1 bt395.2.2.1 bt395.2.2.2.1 bt395.2.2.2.2.1 bt395.2.2.2.2.2.1 bt395.2.2.2.2.2.2.1 bt395.2.2.2.2.2.2.2.1 bt395.2.2.2.2.2.2.2.2.1 bt395.2.2.2.2.2.2.2.2.2 bt421.1 bt421.2.1 bt421.2.2.1 bt421.2.2.2.1 bt421.2.2.2.2.1 bt421.2.2.2.2.2.1 bt421.2.2.2.2.2.2.1 bt421.2.2.2.2.2.2.2.1 bt421.2.2.2.2.2.2.2.2.1 bt421.2.2.2.2.2.2.2.2.2).bind fun t445 => (if t445 = true then (some true) else (none)))) else (none))))))) = some r := H
 have A3 := Aside0.mk A30
 clear A30
 by_cases c4 : t369 < 0
 ·rw [if_pos c4] at H
  have c4b0 : decide (t369 < 0) = true := decide_eq_true c4
  clear c4
  obtain rfl := Option.some.inj H
  go_enter Tryd.func8, Tryd.ntmps8
  go_wp2_with (first | ((with_reducible refine gate_dst (N := 2) rfl ?_); refine box_event ?hg (N := 2) ?hd (cs := #[.int .i64 a0_0, .int .i64 a0_1, .slice A0_2 l0_2.length c0_2, .slice A0_3 l0_3.length c0_3, .slice A0_4 l0_4.length c0_4, .slice A0_5 l0_5.length c0_5, .slice A0_6 l0_6.length c0_6, .slice A0_7 l0_7.length c0_7, .slice A0_8 l0_8.length c0_8, .int .i64 a0_9]) (t := 26) ?hr ?_; (case hd => rfl); (case hg => rfl); (case hr => first | (go_simp; done) | (go_simp; rfl)); intro gb368 hg w5 hbox hb; have n0_ := m_ (below_step (bN HB.out) hb); have n1_ := m_ (hbox); have n2_ := m_ ((by rw [hg]; exact (below_size (bN HB.out)) : w.heap.size ≤ gb368)); have n3_ := m_ ((by rw [hg]; exact (below_size (bN HB.out)) : w.heap.size ≤ gb368)); clear HB; have HB := n0_; have BK368 := n1_; have GW368 := n2_; have GE368 := n3_; clear n0_ n1_ n2_ n3_; clear hb hbox hg; have hcz6_0 : w5.cell? ⟨gb368, 0, none⟩ = some (.int .i64 a0_0) := bc BK368 0; have hcz6_1 : w5.cell? ⟨gb368, 1, none⟩ = some (.int .i64 a0_1) := bc BK368 1; have hcz6_2 : w5.cell? ⟨gb368, 2, none⟩ = some (.slice A0_2 l0_2.length c0_2) := bc BK368 2; have hcz6_3 : w5.cell? ⟨gb368, 3, none⟩ = some (.slice A0_3 l0_3.length c0_3) := bc BK368 3; have hcz6_4 : w5.cell? ⟨gb368, 4, none⟩ = some (.slice A0_4 l0_4.length c0_4) := bc BK368 4; have hcz6_5 : w5.cell? ⟨gb368, 5, none⟩ = some (.slice A0_5 l0_5.length c0_5) := bc BK368 5; have hcz6_6 : w5.cell? ⟨gb368, 6, none⟩ = some (.slice A0_6 l0_6.length c0_6) := bc BK368 6; have hcz6_7 : w5.cell? ⟨gb368, 7, none⟩ = some (.slice A0_7 l0_7.length c0_7) := bc BK368 7; have hcz6_8 : w5.cell? ⟨gb368, 8, none⟩ = some (.slice A0_8 l0_8.length c0_8) := bc BK368 8; have hcz6_9 : w5.cell? ⟨gb368, 9, none⟩ = some (.int .i64 a0_9) := bc BK368 9; have hfz6_0 := blk_frozen BK368.out 0; have hfz6_1 := blk_frozen BK368.out 1; have hfz6_2 := blk_frozen BK368.out 2; have hfz6_3 := blk_frozen BK368.out 3; have hfz6_4 := blk_frozen BK368.out 4; have hfz6_5 := blk_frozen BK368.out 5; have hfz6_6 := blk_frozen BK368.out 6; have hfz6_7 := blk_frozen BK368.out 7; have hfz6_8 := blk_frozen BK368.out 8; have hfz6_9 := blk_frozen BK368.out 9) | ((with_reducible refine gate_callee (f := 9) rfl ?_); refine goesL_ (some 11) rfl rfl Tryd.func9 (by kernel_rfl) rfl #[.agg #[.int .i64 a0_0, .int .i64 a0_1, .slice A0_2 l0_2.length c0_2, .slice A0_3 l0_3.length c0_3, .slice A0_4 l0_4.length c0_4, .slice A0_5 l0_5.length c0_5, .slice A0_6 l0_6.length c0_6, .slice A0_7 l0_7.length c0_7, .slice A0_8 l0_8.length c0_8, .int .i64 a0_9], .int .i64 1048576] rfl gl_ ?_; (with_reducible refine (laws_szConf.calls k a0_0 a0_1 _ _ l0_2 _ _ l0_3 _ _ l0_4 _ _ l0_5 _ _ l0_6 _ _ l0_7 _ _ l0_8 a0_9 1048576 t369 _ ?side1 ?side2 ?side3 ?side4 ?side5 ?side6 ?side7 ?side8 ?side9 ?side10 ?side11 ?side12 ?side13 ?side14 A3.out).mono ?_); (case side1 => exact cN (Kd.C_below HR0_2.out HB.out)); (case side2 => exact HC0_2.out); (case side3 => exact cN (Kd.C_below HR0_3.out HB.out)); (case side4 => exact HC0_3.out); (case side5 => exact cN (Kd.C_below HR0_4.out HB.out)); (case side6 => exact HC0_4.out); (case side7 => exact cN (Kd.C_below HR0_5.out HB.out)); (case side8 => exact HC0_5.out); (case side9 => exact cN (Kd.C_below HR0_6.out HB.out)); (case side10 => exact HC0_6.out); (case side11 => exact cN (Kd.C_below HR0_7.out HB.out)); (case side12 => exact HC0_7.out); (case side13 => exact cN (Kd.C_below HR0_8.out HB.out)); (case side14 => exact HC0_8.out); rintro e w7 ⟨rfl, hb⟩; refine ⟨_, rfl, ?_⟩; have n0_ := m_ (blk_below (kN BK368.out) hb); have n1_ := m_ (below_step (bN HB.out) hb); clear BK368; clear HB; have BK368 := n0_; have HB := n1_; clear n0_ n1_; (try clear hb); (try clear hb2); (try clear hk); (try clear hi)))
  go_ret
  exact ⟨by first | rfl | (simp [errW_none, errW_some] <;> rfl) | (simp [*, errW_none, errW_some] <;> rfl), by repeat (first | (with_reducible first | exact HB.out | apply below_alloc | apply pw_below_drewN | apply below_drew1 | refine below_set ?_ GE368.out) | exact HB.out)⟩
 ·rw [if_neg c4] at H
  have c4b0 : decide (t369 < 0) = false := decide_eq_false c4
  clear c4
  replace H := Option.bind_eq_some_iff.mp H
  obtain ⟨⟨t370, t371, t372, t375, t378, t381, t384, t387, t390, t393⟩, A80, H⟩ := H
  replace H : ((spec_ConfPart.f k t370 t371 t372 t375 t378 t381 t384 t387 t390 t393 a1).bind fun t394 => ((laws_toConf.f k a0_0 a0_1 l0_2 l0_3 l0_4 l0_5 l0_6 l0_7 l0_8 a0_9).bind fun bt395 => ((impl_ConfPart.f k bt395.1 bt395.2.1 bt395.2.2.1 bt395.2.2.2.1 bt395.2.2.2.2.1 bt395.2.2.2.2.2.1 bt395.2.2.2.2.2.2.1 bt395.2.2.2.2.2.2.2.1 bt395.2.2.2.2.2.2.2.2.1 bt395.2.2.2.2.2.2.2.2.2 a1).bind fun t420 => (if t420 = t394 then ((laws_toConf.f k a0_0 a0_1 l0_2 l0_3 l0_4 l0_5 l0_6 l0_7 l0_8 a0_9).bind fun bt421 => ((laws_eqConf.f k bt395.1 bt395.2.1 bt395.2.2.1 bt395.2.2.2.1 bt395.2.2.2.2.1 bt395.2.2.2.2.2.1 bt395.2.2.2.2.2.2.1 bt395.2.2.2.2.2.2.2.1 bt395.2.2.2.2.2.2.2.2.1 bt395.2.2.2.2.2.2.2.2.2 bt421.1 bt421.2.1 bt421.2.2.1 bt421.2.2.2.1 bt421.2.2.2.2.1 bt421.2.2.2.2.2.1 bt421.2.2.2.2.2.2.1 bt421.2.2.2.2.2.2.2.1 bt421.2.2.2.2.2.2.2.2.1 bt421.2.2.2.2.2.2.2.2.2).bind fun t445 => (if t445 = true then (some true) else (none)))) else (none))))) = some r := H
  have A8 := Aside0.mk A80
  clear A80
  replace H := Option.bind_eq_some_iff.mp H
  obtain ⟨t394, A90, H⟩ := H
  replace H : ((laws_toConf.f k a0_0 a0_1 l0_2 l0_3 l0_4 l0_5 l0_6 l0_7 l0_8 a0_9).bind fun bt395 => ((impl_ConfPart.f k bt395.1 bt395.2.1 bt395.2.2.1 bt395.2.2.2.1 bt395.2.2.2.2.1 bt395.2.2.2.2.2.1 bt395.2.2.2.2.2.2.1 bt395.2.2.2.2.2.2.2.1 bt395.2.2.2.2.2.2.2.2.1 bt395.2.2.2.2.2.2.2.2.2 a1).bind fun t420 => (if t420 = t394 then ((laws_toConf.f k a0_0 a0_1 l0_2 l0_3 l0_4 l0_5 l0_6 l0_7 l0_8 a0_9).bind fun bt421 => ((laws_eqConf.f k bt395.1 bt395.2.1 bt395.2.2.1 bt395.2.2.2.1 bt395.2.2.2.2.1 bt395.2.2.2.2.2.1 bt395.2.2.2.2.2.2.1 bt395.2.2.2.2.2.2.2.1 bt395.2.2.2.2.2.2.2.2.1 bt395.2.2.2.2.2.2.2.2.2 bt421.1 bt421.2.1 bt421.2.2.1 bt421.2.2.2.1 bt421.2.2.2.2.1 bt421.2.2.2.2.2.1 bt421.2.2.2.2.2.2.1 bt421.2.2.2.2.2.2.2.1 bt421.2.2.2.2.2.2.2.2.1 bt421.2.2.2.2.2.2.2.2.2).bind fun t445 => (if t445 = true then (some true) else (none)))) else (none)))) = some r := H
  have A9 := Aside0.mk A90
  clear A90
  replace H := Option.bind_eq_some_iff.mp H
  obtain ⟨⟨t395, t396, t397, t400, t403, t406, t409, t412, t415, t418⟩, A100, H⟩ := H
  replace H : ((impl_ConfPart.f k t395 t396 t397 t400 t403 t406 t409 t412 t415 t418 a1).bind fun t420 => (if t420 = t394 then ((laws_toConf.f k a0_0 a0_1 l0_2 l0_3 l0_4 l0_5 l0_6 l0_7 l0_8 a0_9).bind fun bt421 => ((laws_eqConf.f k t395 t396 t397 t400 t403 t406 t409 t412 t415 t418 bt421.1 bt421.2.1 bt421.2.2.1 bt421.2.2.2.1 bt421.2.2.2.2.1 bt421.2.2.2.2.2.1 bt421.2.2.2.2.2.2.1 bt421.2.2.2.2.2.2.2.1 bt421.2.2.2.2.2.2.2.2.1 bt421.2.2.2.2.2.2.2.2.2).bind fun t445 => (if t445 = true then (some true) else (none)))) else (none))) = some r := H
  have A10 := Aside0.mk A100
  clear A100
  replace H := Option.bind_eq_some_iff.mp H
  obtain ⟨t420, A110, H⟩ := H
  replace H : (if t420 = t394 then ((laws_toConf.f k a0_0 a0_1 l0_2 l0_3 l0_4 l0_5 l0_6 l0_7 l0_8 a0_9).bind fun bt421 => ((laws_eqConf.f k t395 t396 t397 t400 t403 t406 t409 t412 t415 t418 bt421.1 bt421.2.1 bt421.2.2.1 bt421.2.2.2.1 bt421.2.2.2.2.1 bt421.2.2.2.2.2.1 bt421.2.2.2.2.2.2.1 bt421.2.2.2.2.2.2.2.1 bt421.2.2.2.2.2.2.2.2.1 bt421.2.2.2.2.2.2.2.2.2).bind fun t445 => (if t445 = true then (some true) else (none)))) else (none)) = some r := H
  have A11 := Aside0.mk A110
  clear A110
  by_cases c12 : t420 = t394
  ·rw [if_pos c12] at H
   have c12b0 : (t420 == t394) = true := beq_iff_eq.mpr c12
   have c12b1 : (t420 != t394) = false := bne_eq_false_iff_eq.mpr c12
   clear c12
   replace H := Option.bind_eq_some_iff.mp H
   obtain ⟨⟨t421, t422, t423, t426, t429, t432, t435, t438, t441, t444⟩, A130, H⟩ := H
   replace H : ((laws_eqConf.f k t395 t396 t397 t400 t403 t406 t409 t412 t415 t418 t421 t422 t423 t426 t429 t432 t435 t438 t441 t444).bind fun t445 => (if t445 = true then (some true) else (none))) = some r := H
   have A13 := Aside0.mk A130
   clear A130
   replace H := Option.bind_eq_some_iff.mp H
   obtain ⟨t445, A140, H⟩ := H
   replace H : (if t445 = true then (some true) else (none)) = some r := H
   have A14 := Aside0.mk A140
   clear A140
   by_cases c15 : t445 = true
   ·subst c15
    have H1 : (some true) = some r := by rw [if_pos rfl] at H; exact H
    clear H
    have H := H1
    clear H1
    obtain rfl := Option.some.inj H
    go_enter Tryd.func8, Tryd.ntmps8
    try go_wp2_with (first | ((with_reducible refine gate_dst (N := 2) rfl ?_); refine box_event ?hg (N := 2) ?hd (cs := #[.int .i64 a0_0, .int .i64 a0_1, .slice A0_2 l0_2.length c0_2, .slice A0_3 l0_3.length c0_3, .slice A0_4 l0_4.length c0_4, .slice A0_5 l0_5.length c0_5, .slice A0_6 l0_6.length c0_6, .slice A0_7 l0_7.length c0_7, .slice A0_8 l0_8.length c0_8, .int .i64 a0_9]) (t := 26) ?hr ?_; (case hd => rfl); (case hg => rfl); (case hr => first | (go_simp; done) | (go_simp; rfl)); intro gb368 hg w16 hbox hb; have n0_ := m_ (below_step (bN HB.out) hb); have n1_ := m_ (hbox); have n2_ := m_ ((by rw [hg]; exact (below_size (bN HB.out)) : w.heap.size ≤ gb368)); have n3_ := m_ ((by rw [hg]; exact (below_size (bN HB.out)) : w.heap.size ≤ gb368)); clear HB; have HB := n0_; have BK368 := n1_; have GW368 := n2_; have GE368 := n3_; clear n0_ n1_ n2_ n3_; clear hb hbox hg; have hcz17_0 : w16.cell? ⟨gb368, 0, none⟩ = some (.int .i64 a0_0) := bc BK368 0; have hcz17_1 : w16.cell? ⟨gb368, 1, none⟩ = some (.int .i64 a0_1) := bc BK368 1; have hcz17_2 : w16.cell? ⟨gb368, 2, none⟩ = some (.slice A0_2 l0_2.length c0_2) := bc BK368 2; have hcz17_3 : w16.cell? ⟨gb368, 3, none⟩ = some (.slice A0_3 l0_3.length c0_3) := bc BK368 3; have hcz17_4 : w16.cell? ⟨gb368, 4, none⟩ = some (.slice A0_4 l0_4.length c0_4) := bc BK368 4; have hcz17_5 : w16.cell? ⟨gb368, 5, none⟩ = some (.slice A0_5 l0_5.length c0_5) := bc BK368 5; have hcz17_6 : w16.cell? ⟨gb368, 6, none⟩ = some (.slice A0_6 l0_6.length c0_6) := bc BK368 6; have hcz17_7 : w16.cell? ⟨gb368, 7, none⟩ = some (.slice A0_7 l0_7.length c0_7) := bc BK368 7; have hcz17_8 : w16.cell? ⟨gb368, 8, none⟩ = some (.slice A0_8 l0_8.length c0_8) := bc BK368 8; have hcz17_9 : w16.cell? ⟨gb368, 9, none⟩ = some (.int .i64 a0_9) := bc BK368 9; have hfz17_0 := blk_frozen BK368.out 0; have hfz17_1 := blk_frozen BK368.out 1; have hfz17_2 := blk_frozen BK368.out 2; have hfz17_3 := blk_frozen BK368.out 3; have hfz17_4 := blk_frozen BK368.out 4; have hfz17_5 := blk_frozen BK368.out 5; have hfz17_6 := blk_frozen BK368.out 6; have hfz17_7 := blk_frozen BK368.out 7; have hfz17_8 := blk_frozen BK368.out 8; have hfz17_9 := blk_frozen BK368.out 9) | ((with_reducible refine gate_callee (f := 9) rfl ?_); refine goesL_ (some 11) rfl rfl Tryd.func9 (by kernel_rfl) rfl #[.agg #[.int .i64 a0_0, .int .i64 a0_1, .slice A0_2 l0_2.length c0_2, .slice A0_3 l0_3.length c0_3, .slice A0_4 l0_4.length c0_4, .slice A0_5 l0_5.length c0_5, .slice A0_6 l0_6.length c0_6, .slice A0_7 l0_7.length c0_7, .slice A0_8 l0_8.length c0_8, .int .i64 a0_9], .int .i64 1048576] rfl gl_ ?_; (with_reducible refine (laws_szConf.calls k a0_0 a0_1 _ _ l0_2 _ _ l0_3 _ _ l0_4 _ _ l0_5 _ _ l0_6 _ _ l0_7 _ _ l0_8 a0_9 1048576 t369 _ ?side1 ?side2 ?side3 ?side4 ?side5 ?side6 ?side7 ?side8 ?side9 ?side10 ?side11 ?side12 ?side13 ?side14 A3.out).mono ?_); (case side1 => exact cN (Kd.C_below HR0_2.out HB.out)); (case side2 => exact HC0_2.out); (case side3 => exact cN (Kd.C_below HR0_3.out HB.out)); (case side4 => exact HC0_3.out); (case side5 => exact cN (Kd.C_below HR0_4.out HB.out)); (case side6 => exact HC0_4.out); (case side7 => exact cN (Kd.C_below HR0_5.out HB.out)); (case side8 => exact HC0_5.out); (case side9 => exact cN (Kd.C_below HR0_6.out HB.out)); (case side10 => exact HC0_6.out); (case side11 => exact cN (Kd.C_below HR0_7.out HB.out)); (case side12 => exact HC0_7.out); (case side13 => exact cN (Kd.C_below HR0_8.out HB.out)); (case side14 => exact HC0_8.out); rintro e w18 ⟨rfl, hb⟩; refine ⟨_, rfl, ?_⟩; have n0_ := m_ (blk_below (kN BK368.out) hb); have n1_ := m_ (below_step (bN HB.out) hb); clear BK368; clear HB; have BK368 := n0_; have HB := n1_; clear n0_ n1_; (try clear hb); (try clear hb2); (try clear hk); (try clear hi); have hcz19_0 : w18.cell? ⟨gb368, 0, none⟩ = some (.int .i64 a0_0) := bc BK368 0; have hcz19_1 : w18.cell? ⟨gb368, 1, none⟩ = some (.int .i64 a0_1) := bc BK368 1; have hcz19_2 : w18.cell? ⟨gb368, 2, none⟩ = some (.slice A0_2 l0_2.length c0_2) := bc BK368 2; have hcz19_3 : w18.cell? ⟨gb368, 3, none⟩ = some (.slice A0_3 l0_3.length c0_3) := bc BK368 3; have hcz19_4 : w18.cell? ⟨gb368, 4, none⟩ = some (.slice A0_4 l0_4.length c0_4) := bc BK368 4; have hcz19_5 : w18.cell? ⟨gb368, 5, none⟩ = some (.slice A0_5 l0_5.length c0_5) := bc BK368 5; have hcz19_6 : w18.cell? ⟨gb368, 6, none⟩ = some (.slice A0_6 l0_6.length c0_6) := bc BK368 6; have hcz19_7 : w18.cell? ⟨gb368, 7, none⟩ = some (.slice A0_7 l0_7.length c0_7) := bc BK368 7; have hcz19_8 : w18.cell? ⟨gb368, 8, none⟩ = some (.slice A0_8 l0_8.length c0_8) := bc BK368 8; have hcz19_9 : w18.cell? ⟨gb368, 9, none⟩ = some (.int .i64 a0_9) := bc BK368 9; have hfz19_0 := blk_frozen BK368.out 0; have hfz19_1 := blk_frozen BK368.out 1; have hfz19_2 := blk_frozen BK368.out 2; have hfz19_3 := blk_frozen BK368.out 3; have hfz19_4 := blk_frozen BK368.out 4; have hfz19_5 := blk_frozen BK368.out 5; have hfz19_6 := blk_frozen BK368.out 6; have hfz19_7 := blk_frozen BK368.out 7; have hfz19_8 := blk_frozen BK368.out 8; have hfz19_9 := blk_frozen BK368.out 9) | ((with_reducible refine gate_callee (f := 11) rfl ?_); refine goesL_ (some 15) rfl rfl Tryd.func11 (by kernel_rfl) rfl #[.agg #[.int .i64 a0_0, .int .i64 a0_1, .slice A0_2 l0_2.length c0_2, .slice A0_3 l0_3.length c0_3, .slice A0_4 l0_4.length c0_4, .slice A0_5 l0_5.length c0_5, .slice A0_6 l0_6.length c0_6, .slice A0_7 l0_7.length c0_7, .slice A0_8 l0_8.length c0_8, .int .i64 a0_9]] rfl gl_ ?_; (with_reducible refine (laws_toConf.calls k a0_0 a0_1 _ _ l0_2 _ _ l0_3 _ _ l0_4 _ _ l0_5 _ _ l0_6 _ _ l0_7 _ _ l0_8 a0_9 t370 t371 t372 t375 t378 t381 t384 t387 t390 t393 _ ?side1 ?side2 ?side3 ?side4 ?side5 ?side6 ?side7 ?side8 ?side9 ?side10 ?side11 ?side12 ?side13 ?side14 A8.out).mono ?_); (case side1 => exact cN (Kd.C_below HR0_2.out HB.out)); (case side2 => exact HC0_2.out); (case side3 => exact cN (Kd.C_below HR0_3.out HB.out)); (case side4 => exact HC0_3.out); (case side5 => exact cN (Kd.C_below HR0_4.out HB.out)); (case side6 => exact HC0_4.out); (case side7 => exact cN (Kd.C_below HR0_5.out HB.out)); (case side8 => exact HC0_5.out); (case side9 => exact cN (Kd.C_below HR0_6.out HB.out)); (case side10 => exact HC0_6.out); (case side11 => exact cN (Kd.C_below HR0_7.out HB.out)); (case side12 => exact HC0_7.out); (case side13 => exact cN (Kd.C_below HR0_8.out HB.out)); (case side14 => exact HC0_8.out); rintro e w20 ⟨v373, v376, v379, v382, v385, v388, v391, rfl, ho0, ho1, ho2, ho3, ho4, ho5, ho6, hb⟩; refine ⟨_, rfl, ?_⟩; have n0_ := m_ (Kd.S_lower ho0 (below_size (bN HB.out))); have n1_ := m_ (Kd.R_lower ho1 (below_size (bN HB.out))); have n2_ := m_ (Kd.R_lower ho2 (below_size (bN HB.out))); have n3_ := m_ (Kd.R_lower ho3 (below_size (bN HB.out))); have n4_ := m_ (Kd.R_lower ho4 (below_size (bN HB.out))); have n5_ := m_ (Kd.R_lower ho5 (below_size (bN HB.out))); have n6_ := m_ (Kd.R_lower ho6 (below_size (bN HB.out))); have n7_ := m_ (blk_below (kN BK368.out) hb); have n8_ := m_ (below_step (bN HB.out) hb); clear BK368; clear HB; have HO374 := n0_; have HO377 := n1_; have HO380 := n2_; have HO383 := n3_; have HO386 := n4_; have HO389 := n5_; have HO392 := n6_; have BK368 := n7_; have HB := n8_; clear n0_ n1_ n2_ n3_ n4_ n5_ n6_ n7_ n8_; (try clear hb); (try clear hb2); (try clear hk); (try clear hi); (try clear ho0); (try clear ho1); (try clear ho2); (try clear ho3); (try clear ho4); (try clear ho5); (try clear ho6); obtain ⟨Ao21, co21, eo21⟩ := Kd.S_slice HO374.out; subst eo21; obtain ⟨Ao22, co22, eo22⟩ := Kd.R_slice HO377.out; subst eo22; obtain ⟨Ao23, co23, eo23⟩ := Kd.R_slice HO380.out; subst eo23; obtain ⟨Ao24, co24, eo24⟩ := Kd.R_slice HO383.out; subst eo24; obtain ⟨Ao25, co25, eo25⟩ := Kd.R_slice HO386.out; subst eo25; obtain ⟨Ao26, co26, eo26⟩ := Kd.R_slice HO389.out; subst eo26; obtain ⟨Ao27, co27, eo27⟩ := Kd.R_slice HO392.out; subst eo27) | ((with_reducible refine gate_callee (f := 20) rfl ?_); refine goesL_ (some 17) rfl rfl Tryd.func20 (by kernel_rfl) rfl #[.agg #[.int .i64 t370, .int .i64 t371, .slice Ao21 t372.length co21, .slice Ao22 t375.length co22, .slice Ao23 t378.length co23, .slice Ao24 t381.length co24, .slice Ao25 t384.length co25, .slice Ao26 t387.length co26, .slice Ao27 t390.length co27, .int .i64 t393], .int .i64 a1] rfl gl_ ?_; (with_reducible refine (spec_ConfPart.calls k t370 t371 _ _ t372 _ _ t375 _ _ t378 _ _ t381 _ _ t384 _ _ t387 _ _ t390 t393 a1 t394 _ ?side1 ?side2 ?side3 ?side4 ?side5 ?side6 ?side7 ?side8 ?side9 ?side10 ?side11 ?side12 ?side13 ?side14 A9.out).mono ?_); (case side1 => exact cN (Kd.S_reads' HO374.out).2.2); (case side2 => exact (Kd.S_reads' HO374.out).2.1); (case side3 => exact cN (Kd.R_reads' HO377.out).2.2); (case side4 => exact (Kd.R_reads' HO377.out).2.1); (case side5 => exact cN (Kd.R_reads' HO380.out).2.2); (case side6 => exact (Kd.R_reads' HO380.out).2.1); (case side7 => exact cN (Kd.R_reads' HO383.out).2.2); (case side8 => exact (Kd.R_reads' HO383.out).2.1); (case side9 => exact cN (Kd.R_reads' HO386.out).2.2); (case side10 => exact (Kd.R_reads' HO386.out).2.1); (case side11 => exact cN (Kd.R_reads' HO389.out).2.2); (case side12 => exact (Kd.R_reads' HO389.out).2.1); (case side13 => exact cN (Kd.R_reads' HO392.out).2.2); (case side14 => exact (Kd.R_reads' HO392.out).2.1); rintro e w28 ⟨rfl, hb⟩; refine ⟨_, rfl, ?_⟩; have n0_ := m_ (Kd.S_below (by (with_reducible repeat (first | apply Kd.S_alloc | apply Kd.S_drewN | apply Kd.S_drew)); exact HO374.out) hb); have n1_ := m_ (Kd.R_below (rN HO377.out) hb); have n2_ := m_ (Kd.R_below (rN HO380.out) hb); have n3_ := m_ (Kd.R_below (rN HO383.out) hb); have n4_ := m_ (Kd.R_below (rN HO386.out) hb); have n5_ := m_ (Kd.R_below (rN HO389.out) hb); have n6_ := m_ (Kd.R_below (rN HO392.out) hb); have n7_ := m_ (blk_below (kN BK368.out) hb); have n8_ := m_ (below_step (bN HB.out) hb); clear HO374; clear HO377; clear HO380; clear HO383; clear HO386; clear HO389; clear HO392; clear BK368; clear HB; have HO374 := n0_; have HO377 := n1_; have HO380 := n2_; have HO383 := n3_; have HO386 := n4_; have HO389 := n5_; have HO392 := n6_; have BK368 := n7_; have HB := n8_; clear n0_ n1_ n2_ n3_ n4_ n5_ n6_ n7_ n8_; (try clear hb); (try clear hb2); (try clear hk); (try clear hi); have hcz29_0 : w28.cell? ⟨gb368, 0, none⟩ = some (.int .i64 a0_0) := bc BK368 0; have hcz29_1 : w28.cell? ⟨gb368, 1, none⟩ = some (.int .i64 a0_1) := bc BK368 1; have hcz29_2 : w28.cell? ⟨gb368, 2, none⟩ = some (.slice A0_2 l0_2.length c0_2) := bc BK368 2; have hcz29_3 : w28.cell? ⟨gb368, 3, none⟩ = some (.slice A0_3 l0_3.length c0_3) := bc BK368 3; have hcz29_4 : w28.cell? ⟨gb368, 4, none⟩ = some (.slice A0_4 l0_4.length c0_4) := bc BK368 4; have hcz29_5 : w28.cell? ⟨gb368, 5, none⟩ = some (.slice A0_5 l0_5.length c0_5) := bc BK368 5; have hcz29_6 : w28.cell? ⟨gb368, 6, none⟩ = some (.slice A0_6 l0_6.length c0_6) := bc BK368 6; have hcz29_7 : w28.cell? ⟨gb368, 7, none⟩ = some (.slice A0_7 l0_7.length c0_7) := bc BK368 7; have hcz29_8 : w28.cell? ⟨gb368, 8, none⟩ = some (.slice A0_8 l0_8.length c0_8) := bc BK368 8; have hcz29_9 : w28.cell? ⟨gb368, 9, none⟩ = some (.int .i64 a0_9) := bc BK368 9; have hfz29_0 := blk_frozen BK368.out 0; have hfz29_1 := blk_frozen BK368.out 1; have hfz29_2 := blk_frozen BK368.out 2; have hfz29_3 := blk_frozen BK368.out 3; have hfz29_4 := blk_frozen BK368.out 4; have hfz29_5 := blk_frozen BK368.out 5; have hfz29_6 := blk_frozen BK368.out 6; have hfz29_7 := blk_frozen BK368.out 7; have hfz29_8 := blk_frozen BK368.out 8; have hfz29_9 := blk_frozen BK368.out 9) | ((with_reducible refine gate_callee (f := 11) rfl ?_); refine goesL_ (some 19) rfl rfl Tryd.func11 (by kernel_rfl) rfl #[.agg #[.int .i64 a0_0, .int .i64 a0_1, .slice A0_2 l0_2.length c0_2, .slice A0_3 l0_3.length c0_3, .slice A0_4 l0_4.length c0_4, .slice A0_5 l0_5.length c0_5, .slice A0_6 l0_6.length c0_6, .slice A0_7 l0_7.length c0_7, .slice A0_8 l0_8.length c0_8, .int .i64 a0_9]] rfl gl_ ?_; (with_reducible refine (laws_toConf.calls k a0_0 a0_1 _ _ l0_2 _ _ l0_3 _ _ l0_4 _ _ l0_5 _ _ l0_6 _ _ l0_7 _ _ l0_8 a0_9 t395 t396 t397 t400 t403 t406 t409 t412 t415 t418 _ ?side1 ?side2 ?side3 ?side4 ?side5 ?side6 ?side7 ?side8 ?side9 ?side10 ?side11 ?side12 ?side13 ?side14 A10.out).mono ?_); (case side1 => exact cN (Kd.C_below HR0_2.out HB.out)); (case side2 => exact HC0_2.out); (case side3 => exact cN (Kd.C_below HR0_3.out HB.out)); (case side4 => exact HC0_3.out); (case side5 => exact cN (Kd.C_below HR0_4.out HB.out)); (case side6 => exact HC0_4.out); (case side7 => exact cN (Kd.C_below HR0_5.out HB.out)); (case side8 => exact HC0_5.out); (case side9 => exact cN (Kd.C_below HR0_6.out HB.out)); (case side10 => exact HC0_6.out); (case side11 => exact cN (Kd.C_below HR0_7.out HB.out)); (case side12 => exact HC0_7.out); (case side13 => exact cN (Kd.C_below HR0_8.out HB.out)); (case side14 => exact HC0_8.out); rintro e w30 ⟨v398, v401, v404, v407, v410, v413, v416, rfl, ho0, ho1, ho2, ho3, ho4, ho5, ho6, hb⟩; refine ⟨_, rfl, ?_⟩; have n0_ := m_ (Kd.S_elder' (by (with_reducible repeat (first | apply Kd.S_alloc | apply Kd.S_drewN | apply Kd.S_drew)); exact HO374.out) (Kd.S_base ho0) hb); have n1_ := m_ (Kd.R_mono (Kd.R_told (Kd.R_told (Kd.R_told (Kd.R_told (Kd.R_told (Kd.R_old (rN HO377.out) hb) (Kd.R_base ho1)) (Kd.R_base ho2)) (Kd.R_base ho3)) (Kd.R_base ho4)) (Kd.R_base ho5)) (fun _ h_ => h_.1)); have n2_ := m_ (Kd.R_mono (Kd.R_told (Kd.R_told (Kd.R_told (Kd.R_told (Kd.R_told (Kd.R_old (rN HO380.out) hb) (Kd.R_base ho1)) (Kd.R_base ho2)) (Kd.R_base ho3)) (Kd.R_base ho4)) (Kd.R_base ho5)) (fun _ h_ => h_.1)); have n3_ := m_ (Kd.R_mono (Kd.R_told (Kd.R_told (Kd.R_told (Kd.R_told (Kd.R_told (Kd.R_old (rN HO383.out) hb) (Kd.R_base ho1)) (Kd.R_base ho2)) (Kd.R_base ho3)) (Kd.R_base ho4)) (Kd.R_base ho5)) (fun _ h_ => h_.1)); have n4_ := m_ (Kd.R_mono (Kd.R_told (Kd.R_told (Kd.R_told (Kd.R_told (Kd.R_told (Kd.R_old (rN HO386.out) hb) (Kd.R_base ho1)) (Kd.R_base ho2)) (Kd.R_base ho3)) (Kd.R_base ho4)) (Kd.R_base ho5)) (fun _ h_ => h_.1)); have n5_ := m_ (Kd.R_mono (Kd.R_told (Kd.R_told (Kd.R_told (Kd.R_told (Kd.R_told (Kd.R_old (rN HO389.out) hb) (Kd.R_base ho1)) (Kd.R_base ho2)) (Kd.R_base ho3)) (Kd.R_base ho4)) (Kd.R_base ho5)) (fun _ h_ => h_.1)); have n6_ := m_ (Kd.R_elder' (rN HO392.out) (Kd.R_base ho6) hb); have n7_ := m_ (Kd.S_lower (Kd.S_new' ho0 (Kd.S_lt (by (with_reducible repeat (first | apply Kd.S_alloc | apply Kd.S_drewN | apply Kd.S_drew)); exact HO374.out))) (below_size (bN HB.out))); have n8_ := m_ (Kd.R_lower (Kd.R_new' (Kd.R_new' (Kd.R_new' (Kd.R_new' (Kd.R_new' ho1 (Kd.R_lt (rN HO377.out))) (Kd.R_lt (rN HO380.out))) (Kd.R_lt (rN HO383.out))) (Kd.R_lt (rN HO386.out))) (Kd.R_lt (rN HO389.out))) (below_size (bN HB.out))); have n9_ := m_ (Kd.R_lower (Kd.R_new' (Kd.R_new' (Kd.R_new' (Kd.R_new' (Kd.R_new' ho2 (Kd.R_lt (rN HO377.out))) (Kd.R_lt (rN HO380.out))) (Kd.R_lt (rN HO383.out))) (Kd.R_lt (rN HO386.out))) (Kd.R_lt (rN HO389.out))) (below_size (bN HB.out))); have n10_ := m_ (Kd.R_lower (Kd.R_new' (Kd.R_new' (Kd.R_new' (Kd.R_new' (Kd.R_new' ho3 (Kd.R_lt (rN HO377.out))) (Kd.R_lt (rN HO380.out))) (Kd.R_lt (rN HO383.out))) (Kd.R_lt (rN HO386.out))) (Kd.R_lt (rN HO389.out))) (below_size (bN HB.out))); have n11_ := m_ (Kd.R_lower (Kd.R_new' (Kd.R_new' (Kd.R_new' (Kd.R_new' (Kd.R_new' ho4 (Kd.R_lt (rN HO377.out))) (Kd.R_lt (rN HO380.out))) (Kd.R_lt (rN HO383.out))) (Kd.R_lt (rN HO386.out))) (Kd.R_lt (rN HO389.out))) (below_size (bN HB.out))); have n12_ := m_ (Kd.R_lower (Kd.R_new' (Kd.R_new' (Kd.R_new' (Kd.R_new' (Kd.R_new' ho5 (Kd.R_lt (rN HO377.out))) (Kd.R_lt (rN HO380.out))) (Kd.R_lt (rN HO383.out))) (Kd.R_lt (rN HO386.out))) (Kd.R_lt (rN HO389.out))) (below_size (bN HB.out))); have n13_ := m_ (Kd.R_lower (Kd.R_new' ho6 (Kd.R_lt (rN HO392.out))) (below_size (bN HB.out))); have n14_ := m_ (blk_below (kN BK368.out) hb); have n15_ := m_ (below_step (bN HB.out) hb); clear HO374; clear HO377; clear HO380; clear HO383; clear HO386; clear HO389; clear HO392; clear BK368; clear HB; have HO374 := n0_; have HO377 := n1_; have HO380 := n2_; have HO383 := n3_; have HO386 := n4_; have HO389 := n5_; have HO392 := n6_; have HO399 := n7_; have HO402 := n8_; have HO405 := n9_; have HO408 := n10_; have HO411 := n11_; have HO414 := n12_; have HO417 := n13_; have BK368 := n14_; have HB := n15_; clear n0_ n1_ n2_ n3_ n4_ n5_ n6_ n7_ n8_ n9_ n10_ n11_ n12_ n13_ n14_ n15_; (try clear hb); (try clear hb2); (try clear hk); (try clear hi); (try clear ho0); (try clear ho1); (try clear ho2); (try clear ho3); (try clear ho4); (try clear ho5); (try clear ho6)) | ((with_reducible refine gate_dst (N := 7) rfl ?_); refine box_event ?hg (N := 7) ?hd (cs := #[.int .i64 0, .int .i64 0, .slice none 0 0, .slice none 0 0, .slice none 0 0, .slice none 0 0, .slice none 0 0, .slice none 0 0, .slice none 0 0, .int .i64 0]) (t := 32) ?hr ?_; (case hd => rfl); (case hg => rfl); (case hr => first | (go_simp; done) | (go_simp; rfl)); intro gb419 hg w31 hbox hb; have n0_ := m_ (Kd.S_below (by (with_reducible repeat (first | apply Kd.S_alloc | apply Kd.S_drewN | apply Kd.S_drew)); exact HO374.out) hb); have n1_ := m_ (Kd.R_below (rN HO377.out) hb); have n2_ := m_ (Kd.R_below (rN HO380.out) hb); have n3_ := m_ (Kd.R_below (rN HO383.out) hb); have n4_ := m_ (Kd.R_below (rN HO386.out) hb); have n5_ := m_ (Kd.R_below (rN HO389.out) hb); have n6_ := m_ (Kd.R_below (rN HO392.out) hb); have n7_ := m_ (Kd.S_below (by (with_reducible repeat (first | apply Kd.S_alloc | apply Kd.S_drewN | apply Kd.S_drew)); exact HO399.out) hb); have n8_ := m_ (Kd.R_below (rN HO402.out) hb); have n9_ := m_ (Kd.R_below (rN HO405.out) hb); have n10_ := m_ (Kd.R_below (rN HO408.out) hb); have n11_ := m_ (Kd.R_below (rN HO411.out) hb); have n12_ := m_ (Kd.R_below (rN HO414.out) hb); have n13_ := m_ (Kd.R_below (rN HO417.out) hb); have n14_ := m_ (blk_below (kN BK368.out) hb); have n15_ := m_ (below_step (bN HB.out) hb); have n16_ := m_ (hbox); have n17_ := m_ ((by rw [hg]; exact (below_size (bN HB.out)) : w.heap.size ≤ gb419)); have n18_ := m_ ((by rw [hg]; exact (below_size (bN HB.out)) : w.heap.size ≤ gb419)); have n19_ := m_ (nL hg BK368.out); have n20_ := m_ (nG hg BK368.out); clear HO374; clear HO377; clear HO380; clear HO383; clear HO386; clear HO389; clear HO392; clear HO399; clear HO402; clear HO405; clear HO408; clear HO411; clear HO414; clear HO417; clear BK368; clear HB; have HO374 := n0_; have HO377 := n1_; have HO380 := n2_; have HO383 := n3_; have HO386 := n4_; have HO389 := n5_; have HO392 := n6_; have HO399 := n7_; have HO402 := n8_; have HO405 := n9_; have HO408 := n10_; have HO411 := n11_; have HO414 := n12_; have HO417 := n13_; have BK368 := n14_; have HB := n15_; have BK419 := n16_; have GW419 := n17_; have GE419 := n18_; have NB368_419 := n19_; have NB419_368 := n20_; clear n0_ n1_ n2_ n3_ n4_ n5_ n6_ n7_ n8_ n9_ n10_ n11_ n12_ n13_ n14_ n15_ n16_ n17_ n18_ n19_ n20_; clear hb hbox hg; have hnb32 := NB419_368.out; have hnc32 := NB368_419.out; have hcz33_0 : w31.cell? ⟨gb419, 0, none⟩ = some (.int .i64 0) := bc BK419 0; have hcz33_1 : w31.cell? ⟨gb419, 1, none⟩ = some (.int .i64 0) := bc BK419 1; have hcz33_2 : w31.cell? ⟨gb419, 2, none⟩ = some (.slice none 0 0) := bc BK419 2; have hcz33_3 : w31.cell? ⟨gb419, 3, none⟩ = some (.slice none 0 0) := bc BK419 3; have hcz33_4 : w31.cell? ⟨gb419, 4, none⟩ = some (.slice none 0 0) := bc BK419 4; have hcz33_5 : w31.cell? ⟨gb419, 5, none⟩ = some (.slice none 0 0) := bc BK419 5; have hcz33_6 : w31.cell? ⟨gb419, 6, none⟩ = some (.slice none 0 0) := bc BK419 6; have hcz33_7 : w31.cell? ⟨gb419, 7, none⟩ = some (.slice none 0 0) := bc BK419 7; have hcz33_8 : w31.cell? ⟨gb419, 8, none⟩ = some (.slice none 0 0) := bc BK419 8; have hcz33_9 : w31.cell? ⟨gb419, 9, none⟩ = some (.int .i64 0) := bc BK419 9; have hfz33_0 := blk_frozen BK419.out 0; have hfz33_1 := blk_frozen BK419.out 1; have hfz33_2 := blk_frozen BK419.out 2; have hfz33_3 := blk_frozen BK419.out 3; have hfz33_4 := blk_frozen BK419.out 4; have hfz33_5 := blk_frozen BK419.out 5; have hfz33_6 := blk_frozen BK419.out 6; have hfz33_7 := blk_frozen BK419.out 7; have hfz33_8 := blk_frozen BK419.out 8; have hfz33_9 := blk_frozen BK419.out 9; obtain ⟨Ao34, co34, eo34⟩ := Kd.S_slice HO399.out; subst eo34; obtain ⟨Ao35, co35, eo35⟩ := Kd.R_slice HO402.out; subst eo35; obtain ⟨Ao36, co36, eo36⟩ := Kd.R_slice HO405.out; subst eo36; obtain ⟨Ao37, co37, eo37⟩ := Kd.R_slice HO408.out; subst eo37; obtain ⟨Ao38, co38, eo38⟩ := Kd.R_slice HO411.out; subst eo38; obtain ⟨Ao39, co39, eo39⟩ := Kd.R_slice HO414.out; subst eo39; obtain ⟨Ao40, co40, eo40⟩ := Kd.R_slice HO417.out; subst eo40) | ((with_reducible refine gate_callee (f := 19) rfl ?_); refine goesL_ (some 22) rfl rfl Tryd.func19 (by kernel_rfl) rfl #[.agg #[.int .i64 t395, .int .i64 t396, .slice Ao34 t397.length co34, .slice Ao35 t400.length co35, .slice Ao36 t403.length co36, .slice Ao37 t406.length co37, .slice Ao38 t409.length co38, .slice Ao39 t412.length co39, .slice Ao40 t415.length co40, .int .i64 t418], .int .i64 a1] rfl gl_ ?_; (with_reducible refine (impl_ConfPart.calls k t395 t396 _ _ t397 _ _ t400 _ _ t403 _ _ t406 _ _ t409 _ _ t412 _ _ t415 t418 a1 t420 _ ?side1 ?side2 ?side3 ?side4 ?side5 ?side6 ?side7 ?side8 ?side9 ?side10 ?side11 ?side12 ?side13 ?side14 A11.out ?sideG).mono ?_); (case sideG => exact GErr.below (bN HB.out) HG0.out); (case side1 => refine (Kd.S_reads' (e := 75) (base := w.heap.size) (ok := fun k_ => (True ∧ nb Ao21 t372.length co21 k_)) (n := t397.length) (c := co34) ?_).2.2; exact (by (with_reducible repeat (first | apply Kd.S_alloc | apply Kd.S_drewN | apply Kd.S_drew)); exact (Kd.S_mono (Kd.S_far (p := ⟨gb419, 9, none⟩) (Kd.S_far (p := ⟨gb419, 8, none⟩) (Kd.S_far (p := ⟨gb419, 7, none⟩) (Kd.S_far (p := ⟨gb419, 6, none⟩) (Kd.S_far (p := ⟨gb419, 5, none⟩) (Kd.S_far (p := ⟨gb419, 4, none⟩) (Kd.S_far (p := ⟨gb419, 3, none⟩) (Kd.S_far (p := ⟨gb419, 2, none⟩) (Kd.S_far (p := ⟨gb419, 1, none⟩) (Kd.S_far (p := ⟨gb419, 0, none⟩) (Kd.S_types HO399.out BK419.out (by decide)) (fun _ hk => hk.2) (.int .i64 t395)) (fun _ hk => hk.2) (.int .i64 t396)) (fun _ hk => hk.2) (.slice Ao34 t397.length co34)) (fun _ hk => hk.2) (.slice Ao35 t400.length co35)) (fun _ hk => hk.2) (.slice Ao36 t403.length co36)) (fun _ hk => hk.2) (.slice Ao37 t406.length co37)) (fun _ hk => hk.2) (.slice Ao38 t409.length co38)) (fun _ hk => hk.2) (.slice Ao39 t412.length co39)) (fun _ hk => hk.2) (.slice Ao40 t415.length co40)) (fun _ hk => hk.2) (.int .i64 t418)) (fun _ h_ => h_.1)))); (case side2 => exact (Kd.S_reads' HO399.out).2.1); (case side3 => refine (Kd.R_reads' (e := 3) (base := w.heap.size) (ok := fun k_ => ((((((nb Ao36 t403.length co36 k_ ∧ (nb Ao37 t406.length co37 k_ ∧ (nb Ao38 t409.length co38 k_ ∧ nb Ao39 t412.length co39 k_))) ∧ nb Ao22 t375.length co22 k_) ∧ nb Ao23 t378.length co23 k_) ∧ nb Ao24 t381.length co24 k_) ∧ nb Ao25 t384.length co25 k_) ∧ nb Ao26 t387.length co26 k_)) (n := t400.length) (c := co35) ?_).2.2; exact (frN (Kd.R_types HO402.out BK419.out (by decide)))); (case side4 => exact (Kd.R_reads' HO402.out).2.1); (case side5 => refine (Kd.R_reads' (e := 3) (base := w.heap.size) (ok := fun k_ => ((((((nb Ao35 t400.length co35 k_ ∧ (nb Ao37 t406.length co37 k_ ∧ (nb Ao38 t409.length co38 k_ ∧ nb Ao39 t412.length co39 k_))) ∧ nb Ao22 t375.length co22 k_) ∧ nb Ao23 t378.length co23 k_) ∧ nb Ao24 t381.length co24 k_) ∧ nb Ao25 t384.length co25 k_) ∧ nb Ao26 t387.length co26 k_)) (n := t403.length) (c := co36) ?_).2.2; exact (frN (Kd.R_types HO405.out BK419.out (by decide)))); (case side6 => exact (Kd.R_reads' HO405.out).2.1); (case side7 => refine (Kd.R_reads' (e := 3) (base := w.heap.size) (ok := fun k_ => ((((((nb Ao35 t400.length co35 k_ ∧ (nb Ao36 t403.length co36 k_ ∧ (nb Ao38 t409.length co38 k_ ∧ nb Ao39 t412.length co39 k_))) ∧ nb Ao22 t375.length co22 k_) ∧ nb Ao23 t378.length co23 k_) ∧ nb Ao24 t381.length co24 k_) ∧ nb Ao25 t384.length co25 k_) ∧ nb Ao26 t387.length co26 k_)) (n := t406.length) (c := co37) ?_).2.2; exact (frN (Kd.R_types HO408.out BK419.out (by decide)))); (case side8 => exact (Kd.R_reads' HO408.out).2.1); (case side9 => refine (Kd.R_reads' (e := 3) (base := w.heap.size) (ok := fun k_ => ((((((nb Ao35 t400.length co35 k_ ∧ (nb Ao36 t403.length co36 k_ ∧ (nb Ao37 t406.length co37 k_ ∧ nb Ao39 t412.length co39 k_))) ∧ nb Ao22 t375.length co22 k_) ∧ nb Ao23 t378.length co23 k_) ∧ nb Ao24 t381.length co24 k_) ∧ nb Ao25 t384.length co25 k_) ∧ nb Ao26 t387.length co26 k_)) (n := t409.length) (c := co38) ?_).2.2; exact (frN (Kd.R_types HO411.out BK419.out (by decide)))); (case side10 => exact (Kd.R_reads' HO411.out).2.1); (case side11 => refine (Kd.R_reads' (e := 3) (base := w.heap.size) (ok := fun k_ => ((((((nb Ao35 t400.length co35 k_ ∧ (nb Ao36 t403.length co36 k_ ∧ (nb Ao37 t406.length co37 k_ ∧ nb Ao38 t409.length co38 k_))) ∧ nb Ao22 t375.length co22 k_) ∧ nb Ao23 t378.length co23 k_) ∧ nb Ao24 t381.length co24 k_) ∧ nb Ao25 t384.length co25 k_) ∧ nb Ao26 t387.length co26 k_)) (n := t412.length) (c := co39) ?_).2.2; exact (frN (Kd.R_types HO414.out BK419.out (by decide)))); (case side12 => exact (Kd.R_reads' HO414.out).2.1); (case side13 => refine (Kd.R_reads' (e := 78) (base := w.heap.size) (ok := fun k_ => (True ∧ nb Ao27 t390.length co27 k_)) (n := t415.length) (c := co40) ?_).2.2; exact (frN (Kd.R_types HO417.out BK419.out (by decide)))); (case side14 => exact (Kd.R_reads' HO417.out).2.1); rintro e w41 ⟨rfl, hb⟩; refine ⟨_, rfl, ?_⟩; have n0_ := m_ (Kd.S_below (by (with_reducible repeat (first | apply Kd.S_alloc | apply Kd.S_drewN | apply Kd.S_drew)); exact (Kd.S_mono (Kd.S_far (p := ⟨gb419, 9, none⟩) (Kd.S_far (p := ⟨gb419, 8, none⟩) (Kd.S_far (p := ⟨gb419, 7, none⟩) (Kd.S_far (p := ⟨gb419, 6, none⟩) (Kd.S_far (p := ⟨gb419, 5, none⟩) (Kd.S_far (p := ⟨gb419, 4, none⟩) (Kd.S_far (p := ⟨gb419, 3, none⟩) (Kd.S_far (p := ⟨gb419, 2, none⟩) (Kd.S_far (p := ⟨gb419, 1, none⟩) (Kd.S_far (p := ⟨gb419, 0, none⟩) (Kd.S_types HO374.out BK419.out (by decide)) (fun _ hk => hk.2) (.int .i64 t395)) (fun _ hk => hk.2) (.int .i64 t396)) (fun _ hk => hk.2) (.slice Ao34 t397.length co34)) (fun _ hk => hk.2) (.slice Ao35 t400.length co35)) (fun _ hk => hk.2) (.slice Ao36 t403.length co36)) (fun _ hk => hk.2) (.slice Ao37 t406.length co37)) (fun _ hk => hk.2) (.slice Ao38 t409.length co38)) (fun _ hk => hk.2) (.slice Ao39 t412.length co39)) (fun _ hk => hk.2) (.slice Ao40 t415.length co40)) (fun _ hk => hk.2) (.int .i64 t418)) (fun _ h_ => h_.1))) hb); have n1_ := m_ (Kd.R_below (frN (Kd.R_types HO377.out BK419.out (by decide))) hb); have n2_ := m_ (Kd.R_below (frN (Kd.R_types HO380.out BK419.out (by decide))) hb); have n3_ := m_ (Kd.R_below (frN (Kd.R_types HO383.out BK419.out (by decide))) hb); have n4_ := m_ (Kd.R_below (frN (Kd.R_types HO386.out BK419.out (by decide))) hb); have n5_ := m_ (Kd.R_below (frN (Kd.R_types HO389.out BK419.out (by decide))) hb); have n6_ := m_ (Kd.R_below (frN (Kd.R_types HO392.out BK419.out (by decide))) hb); have n7_ := m_ (Kd.S_below (by (with_reducible repeat (first | apply Kd.S_alloc | apply Kd.S_drewN | apply Kd.S_drew)); exact (Kd.S_mono (Kd.S_far (p := ⟨gb419, 9, none⟩) (Kd.S_far (p := ⟨gb419, 8, none⟩) (Kd.S_far (p := ⟨gb419, 7, none⟩) (Kd.S_far (p := ⟨gb419, 6, none⟩) (Kd.S_far (p := ⟨gb419, 5, none⟩) (Kd.S_far (p := ⟨gb419, 4, none⟩) (Kd.S_far (p := ⟨gb419, 3, none⟩) (Kd.S_far (p := ⟨gb419, 2, none⟩) (Kd.S_far (p := ⟨gb419, 1, none⟩) (Kd.S_far (p := ⟨gb419, 0, none⟩) (Kd.S_types HO399.out BK419.out (by decide)) (fun _ hk => hk.2) (.int .i64 t395)) (fun _ hk => hk.2) (.int .i64 t396)) (fun _ hk => hk.2) (.slice Ao34 t397.length co34)) (fun _ hk => hk.2) (.slice Ao35 t400.length co35)) (fun _ hk => hk.2) (.slice Ao36 t403.length co36)) (fun _ hk => hk.2) (.slice Ao37 t406.length co37)) (fun _ hk => hk.2) (.slice Ao38 t409.length co38)) (fun _ hk => hk.2) (.slice Ao39 t412.length co39)) (fun _ hk => hk.2) (.slice Ao40 t415.length co40)) (fun _ hk => hk.2) (.int .i64 t418)) (fun _ h_ => h_.1))) hb); have n8_ := m_ (Kd.R_below (frN (Kd.R_types HO402.out BK419.out (by decide))) hb); have n9_ := m_ (Kd.R_below (frN (Kd.R_types HO405.out BK419.out (by decide))) hb); have n10_ := m_ (Kd.R_below (frN (Kd.R_types HO408.out BK419.out (by decide))) hb); have n11_ := m_ (Kd.R_below (frN (Kd.R_types HO411.out BK419.out (by decide))) hb); have n12_ := m_ (Kd.R_below (frN (Kd.R_types HO414.out BK419.out (by decide))) hb); have n13_ := m_ (Kd.R_below (frN (Kd.R_types HO417.out BK419.out (by decide))) hb); have n14_ := m_ (blk_below (g := gb368) (o := .cells #[.int .i64 a0_0, .int .i64 a0_1, .slice A0_2 l0_2.length c0_2, .slice A0_3 l0_3.length c0_3, .slice A0_4 l0_4.length c0_4, .slice A0_5 l0_5.length c0_5, .slice A0_6 l0_6.length c0_6, .slice A0_7 l0_7.length c0_7, .slice A0_8 l0_8.length c0_8, .int .i64 a0_9] 26 (0, 0)) (kF BK368.out NB368_419.out) hb); have n15_ := m_ (blk_below (g := gb419) (o := .cells #[.int .i64 t395, .int .i64 t396, .slice Ao34 t397.length co34, .slice Ao35 t400.length co35, .slice Ao36 t403.length co36, .slice Ao37 t406.length co37, .slice Ao38 t409.length co38, .slice Ao39 t412.length co39, .slice Ao40 t415.length co40, .int .i64 t418] 32 (0, 0)) (kP BK419.out) hb); have n16_ := m_ (below_step (bN HB.out) hb); clear HO374; clear HO377; clear HO380; clear HO383; clear HO386; clear HO389; clear HO392; clear HO399; clear HO402; clear HO405; clear HO408; clear HO411; clear HO414; clear HO417; clear BK368; clear BK419; clear HB; have HO374 := n0_; have HO377 := n1_; have HO380 := n2_; have HO383 := n3_; have HO386 := n4_; have HO389 := n5_; have HO392 := n6_; have HO399 := n7_; have HO402 := n8_; have HO405 := n9_; have HO408 := n10_; have HO411 := n11_; have HO414 := n12_; have HO417 := n13_; have BK368 := n14_; have BK419 := n15_; have HB := n16_; clear n0_ n1_ n2_ n3_ n4_ n5_ n6_ n7_ n8_ n9_ n10_ n11_ n12_ n13_ n14_ n15_ n16_; (try clear hb); (try clear hb2); (try clear hk); (try clear hi)))
    have n0_ := m_ (Kd.S_drew HO374.out)
    have n1_ := m_ (Kd.R_drew HO377.out)
    have n2_ := m_ (Kd.R_drew HO380.out)
    have n3_ := m_ (Kd.R_drew HO383.out)
    have n4_ := m_ (Kd.R_drew HO386.out)
    have n5_ := m_ (Kd.R_drew HO389.out)
    have n6_ := m_ (Kd.R_drew HO392.out)
    have n7_ := m_ (Kd.S_drew HO399.out)
    have n8_ := m_ (Kd.R_drew HO402.out)
    have n9_ := m_ (Kd.R_drew HO405.out)
    have n10_ := m_ (Kd.R_drew HO408.out)
    have n11_ := m_ (Kd.R_drew HO411.out)
    have n12_ := m_ (Kd.R_drew HO414.out)
    have n13_ := m_ (Kd.R_drew HO417.out)
    have n14_ := m_ (blk_drew BK368.out)
    have n15_ := m_ (blk_drew BK419.out)
    have n16_ := m_ (below_drew1 HB.out)
    clear HO374
    clear HO377
    clear HO380
    clear HO383
    clear HO386
    clear HO389
    clear HO392
    clear HO399
    clear HO402
    clear HO405
    clear HO408
    clear HO411
    clear HO414
    clear HO417
    clear BK368
    clear BK419
    clear HB
    have HO374 := n0_
    have HO377 := n1_
    have HO380 := n2_
    have HO383 := n3_
    have HO386 := n4_
    have HO389 := n5_
    have HO392 := n6_
    have HO399 := n7_
    have HO402 := n8_
    have HO405 := n9_
    have HO408 := n10_
    have HO411 := n11_
    have HO414 := n12_
    have HO417 := n13_
    have BK368 := n14_
    have BK419 := n15_
    have HB := n16_
    clear n0_ n1_ n2_ n3_ n4_ n5_ n6_ n7_ n8_ n9_ n10_ n11_ n12_ n13_ n14_ n15_ n16_
    refine start_ (n := 5) (S := fun w' => w'.cell? ⟨gb419, 0, none⟩ = some (.int .i64 t395) ∧ w'.cell? ⟨gb419, 1, none⟩ = some (.int .i64 t396) ∧ w'.cell? ⟨gb419, 2, none⟩ = some (.slice Ao34 t397.length co34) ∧ w'.cell? ⟨gb419, 3, none⟩ = some (.slice Ao35 t400.length co35) ∧ w'.cell? ⟨gb419, 4, none⟩ = some (.slice Ao36 t403.length co36) ∧ w'.cell? ⟨gb419, 5, none⟩ = some (.slice Ao37 t406.length co37) ∧ w'.cell? ⟨gb419, 6, none⟩ = some (.slice Ao38 t409.length co38) ∧ w'.cell? ⟨gb419, 7, none⟩ = some (.slice Ao39 t412.length co39) ∧ w'.cell? ⟨gb419, 8, none⟩ = some (.slice Ao40 t415.length co40) ∧ w'.cell? ⟨gb419, 9, none⟩ = some (.int .i64 t418) ∧ w'.cell? ⟨gb368, 0, none⟩ = some (.int .i64 a0_0) ∧ w'.cell? ⟨gb368, 1, none⟩ = some (.int .i64 a0_1) ∧ w'.cell? ⟨gb368, 2, none⟩ = some (.slice A0_2 l0_2.length c0_2) ∧ w'.cell? ⟨gb368, 3, none⟩ = some (.slice A0_3 l0_3.length c0_3) ∧ w'.cell? ⟨gb368, 4, none⟩ = some (.slice A0_4 l0_4.length c0_4) ∧ w'.cell? ⟨gb368, 5, none⟩ = some (.slice A0_5 l0_5.length c0_5) ∧ w'.cell? ⟨gb368, 6, none⟩ = some (.slice A0_6 l0_6.length c0_6) ∧ w'.cell? ⟨gb368, 7, none⟩ = some (.slice A0_7 l0_7.length c0_7) ∧ w'.cell? ⟨gb368, 8, none⟩ = some (.slice A0_8 l0_8.length c0_8) ∧ w'.cell? ⟨gb368, 9, none⟩ = some (.int .i64 a0_9)) (ds := []) #[false, false, false, false, false] (by kernel_rfl) rfl rfl ⟨bc BK419 0, bc BK419 1, bc BK419 2, bc BK419 3, bc BK419 4, bc BK419 5, bc BK419 6, bc BK419 7, bc BK419 8, bc BK419 9, bc BK368 0, bc BK368 1, bc BK368 2, bc BK368 3, bc BK368 4, bc BK368 5, bc BK368 6, bc BK368 7, bc BK368 8, bc BK368 9⟩ (fun hHeld => ?_)
    generalize w41.drew = w42 at HO374 HO377 HO380 HO383 HO386 HO389 HO392 HO399 HO402 HO405 HO408 HO411 HO414 HO417 BK368 BK419 HB hHeld ⊢
    refine take_ (i := 0) (N := some 26) (v := ?_) (a' := ?_) #[true, false, false, false, false] rfl rfl (by kernel_rfl) (fun _ _ _ h => h) (Or.inl ⟨by rfl, ?_⟩) hHeld ?_ ?_
    rotate_left
    ·rintro w' ⟨s0, s1, s2, s3, s4, s5, s6, s7, s8, s9, s10, s11, s12, s13, s14, s15, s16, s17, s18, s19⟩
     go_simp
     with_reducible rfl
    rotate_left
    ·simp only [Act.put, List.setIfInBounds_toArray, List.set_cons_zero, List.set_cons_succ, i64_w, i32_w]
     rfl
    refine take_ (i := 1) (N := some 27) (v := ?_) (a' := ?_) #[true, true, false, false, false] rfl rfl (by kernel_rfl) (fun _ _ _ h => h) (Or.inl ⟨by rfl, ?_⟩) hHeld ?_ ?_
    rotate_left
    ·rintro w' ⟨s0, s1, s2, s3, s4, s5, s6, s7, s8, s9, s10, s11, s12, s13, s14, s15, s16, s17, s18, s19⟩
     go_simp
     with_reducible rfl
    rotate_left
    ·simp only [Act.put, List.setIfInBounds_toArray, List.set_cons_zero, List.set_cons_succ, i64_w, i32_w]
     rfl
    refine one_ (i := 2) (N := some 28) #[true, true, true, false, false] rfl rfl (by kernel_rfl) (by decide) (fun K hK => ?_)
    refine goes_ Tryd.func11 (by kernel_rfl) rfl #[.agg #[.int .i64 a0_0, .int .i64 a0_1, .slice A0_2 l0_2.length c0_2, .slice A0_3 l0_3.length c0_3, .slice A0_4 l0_4.length c0_4, .slice A0_5 l0_5.length c0_5, .slice A0_6 l0_6.length c0_6, .slice A0_7 l0_7.length c0_7, .slice A0_8 l0_8.length c0_8, .int .i64 a0_9]] (by rfl) rfl rfl gl_ ?_
    with_reducible refine (laws_toConf.calls k a0_0 a0_1 _ _ l0_2 _ _ l0_3 _ _ l0_4 _ _ l0_5 _ _ l0_6 _ _ l0_7 _ _ l0_8 a0_9 t421 t422 t423 t426 t429 t432 t435 t438 t441 t444 _ ?side1 ?side2 ?side3 ?side4 ?side5 ?side6 ?side7 ?side8 ?side9 ?side10 ?side11 ?side12 ?side13 ?side14 A13.out).mono ?_
    (case side1 => exact cN (Kd.C_below HR0_2.out HB.out))
    (case side2 => exact HC0_2.out)
    (case side3 => exact cN (Kd.C_below HR0_3.out HB.out))
    (case side4 => exact HC0_3.out)
    (case side5 => exact cN (Kd.C_below HR0_4.out HB.out))
    (case side6 => exact HC0_4.out)
    (case side7 => exact cN (Kd.C_below HR0_5.out HB.out))
    (case side8 => exact HC0_5.out)
    (case side9 => exact cN (Kd.C_below HR0_6.out HB.out))
    (case side10 => exact HC0_6.out)
    (case side11 => exact cN (Kd.C_below HR0_7.out HB.out))
    (case side12 => exact HC0_7.out)
    (case side13 => exact cN (Kd.C_below HR0_8.out HB.out))
    (case side14 => exact HC0_8.out)
    rintro e w43 ⟨v424, v427, v430, v433, v436, v439, v442, rfl, ho0, ho1, ho2, ho3, ho4, ho5, ho6, hb⟩
    refine ⟨_, rfl, ?_⟩
    have n0_ := m_ (Kd.S_elder' (by (with_reducible repeat (first | apply Kd.S_alloc | apply Kd.S_drewN | apply Kd.S_drew)); exact HO374.out) (Kd.S_base ho0) hb)
    have n1_ := m_ (Kd.R_mono (Kd.R_told (Kd.R_told (Kd.R_told (Kd.R_told (Kd.R_told (Kd.R_old (rN HO377.out) hb) (Kd.R_base ho1)) (Kd.R_base ho2)) (Kd.R_base ho3)) (Kd.R_base ho4)) (Kd.R_base ho5)) (fun _ h_ => h_.1))
    have n2_ := m_ (Kd.R_mono (Kd.R_told (Kd.R_told (Kd.R_told (Kd.R_told (Kd.R_told (Kd.R_old (rN HO380.out) hb) (Kd.R_base ho1)) (Kd.R_base ho2)) (Kd.R_base ho3)) (Kd.R_base ho4)) (Kd.R_base ho5)) (fun _ h_ => h_.1))
    have n3_ := m_ (Kd.R_mono (Kd.R_told (Kd.R_told (Kd.R_told (Kd.R_told (Kd.R_told (Kd.R_old (rN HO383.out) hb) (Kd.R_base ho1)) (Kd.R_base ho2)) (Kd.R_base ho3)) (Kd.R_base ho4)) (Kd.R_base ho5)) (fun _ h_ => h_.1))
    have n4_ := m_ (Kd.R_mono (Kd.R_told (Kd.R_told (Kd.R_told (Kd.R_told (Kd.R_told (Kd.R_old (rN HO386.out) hb) (Kd.R_base ho1)) (Kd.R_base ho2)) (Kd.R_base ho3)) (Kd.R_base ho4)) (Kd.R_base ho5)) (fun _ h_ => h_.1))
    have n5_ := m_ (Kd.R_mono (Kd.R_told (Kd.R_told (Kd.R_told (Kd.R_told (Kd.R_told (Kd.R_old (rN HO389.out) hb) (Kd.R_base ho1)) (Kd.R_base ho2)) (Kd.R_base ho3)) (Kd.R_base ho4)) (Kd.R_base ho5)) (fun _ h_ => h_.1))
    have n6_ := m_ (Kd.R_elder' (rN HO392.out) (Kd.R_base ho6) hb)
    have n7_ := m_ (Kd.S_elder' (by (with_reducible repeat (first | apply Kd.S_alloc | apply Kd.S_drewN | apply Kd.S_drew)); exact HO399.out) (Kd.S_base ho0) hb)
    have n8_ := m_ (Kd.R_mono (Kd.R_told (Kd.R_told (Kd.R_told (Kd.R_told (Kd.R_told (Kd.R_old (rN HO402.out) hb) (Kd.R_base ho1)) (Kd.R_base ho2)) (Kd.R_base ho3)) (Kd.R_base ho4)) (Kd.R_base ho5)) (fun _ h_ => h_.1))
    have n9_ := m_ (Kd.R_mono (Kd.R_told (Kd.R_told (Kd.R_told (Kd.R_told (Kd.R_told (Kd.R_old (rN HO405.out) hb) (Kd.R_base ho1)) (Kd.R_base ho2)) (Kd.R_base ho3)) (Kd.R_base ho4)) (Kd.R_base ho5)) (fun _ h_ => h_.1))
    have n10_ := m_ (Kd.R_mono (Kd.R_told (Kd.R_told (Kd.R_told (Kd.R_told (Kd.R_told (Kd.R_old (rN HO408.out) hb) (Kd.R_base ho1)) (Kd.R_base ho2)) (Kd.R_base ho3)) (Kd.R_base ho4)) (Kd.R_base ho5)) (fun _ h_ => h_.1))
    have n11_ := m_ (Kd.R_mono (Kd.R_told (Kd.R_told (Kd.R_told (Kd.R_told (Kd.R_told (Kd.R_old (rN HO411.out) hb) (Kd.R_base ho1)) (Kd.R_base ho2)) (Kd.R_base ho3)) (Kd.R_base ho4)) (Kd.R_base ho5)) (fun _ h_ => h_.1))
    have n12_ := m_ (Kd.R_mono (Kd.R_told (Kd.R_told (Kd.R_told (Kd.R_told (Kd.R_told (Kd.R_old (rN HO414.out) hb) (Kd.R_base ho1)) (Kd.R_base ho2)) (Kd.R_base ho3)) (Kd.R_base ho4)) (Kd.R_base ho5)) (fun _ h_ => h_.1))
    have n13_ := m_ (Kd.R_elder' (rN HO417.out) (Kd.R_base ho6) hb)
    have n14_ := m_ (Kd.S_lower (Kd.S_new' (Kd.S_new' ho0 (Kd.S_lt (by (with_reducible repeat (first | apply Kd.S_alloc | apply Kd.S_drewN | apply Kd.S_drew)); exact HO374.out))) (Kd.S_lt (by (with_reducible repeat (first | apply Kd.S_alloc | apply Kd.S_drewN | apply Kd.S_drew)); exact HO399.out))) (below_size (bN HB.out)))
    have n15_ := m_ (Kd.R_lower (Kd.R_new' (Kd.R_new' (Kd.R_new' (Kd.R_new' (Kd.R_new' (Kd.R_new' (Kd.R_new' (Kd.R_new' (Kd.R_new' (Kd.R_new' ho1 (Kd.R_lt (rN HO377.out))) (Kd.R_lt (rN HO380.out))) (Kd.R_lt (rN HO383.out))) (Kd.R_lt (rN HO386.out))) (Kd.R_lt (rN HO389.out))) (Kd.R_lt (rN HO402.out))) (Kd.R_lt (rN HO405.out))) (Kd.R_lt (rN HO408.out))) (Kd.R_lt (rN HO411.out))) (Kd.R_lt (rN HO414.out))) (below_size (bN HB.out)))
    have n16_ := m_ (Kd.R_lower (Kd.R_new' (Kd.R_new' (Kd.R_new' (Kd.R_new' (Kd.R_new' (Kd.R_new' (Kd.R_new' (Kd.R_new' (Kd.R_new' (Kd.R_new' ho2 (Kd.R_lt (rN HO377.out))) (Kd.R_lt (rN HO380.out))) (Kd.R_lt (rN HO383.out))) (Kd.R_lt (rN HO386.out))) (Kd.R_lt (rN HO389.out))) (Kd.R_lt (rN HO402.out))) (Kd.R_lt (rN HO405.out))) (Kd.R_lt (rN HO408.out))) (Kd.R_lt (rN HO411.out))) (Kd.R_lt (rN HO414.out))) (below_size (bN HB.out)))
    have n17_ := m_ (Kd.R_lower (Kd.R_new' (Kd.R_new' (Kd.R_new' (Kd.R_new' (Kd.R_new' (Kd.R_new' (Kd.R_new' (Kd.R_new' (Kd.R_new' (Kd.R_new' ho3 (Kd.R_lt (rN HO377.out))) (Kd.R_lt (rN HO380.out))) (Kd.R_lt (rN HO383.out))) (Kd.R_lt (rN HO386.out))) (Kd.R_lt (rN HO389.out))) (Kd.R_lt (rN HO402.out))) (Kd.R_lt (rN HO405.out))) (Kd.R_lt (rN HO408.out))) (Kd.R_lt (rN HO411.out))) (Kd.R_lt (rN HO414.out))) (below_size (bN HB.out)))
    have n18_ := m_ (Kd.R_lower (Kd.R_new' (Kd.R_new' (Kd.R_new' (Kd.R_new' (Kd.R_new' (Kd.R_new' (Kd.R_new' (Kd.R_new' (Kd.R_new' (Kd.R_new' ho4 (Kd.R_lt (rN HO377.out))) (Kd.R_lt (rN HO380.out))) (Kd.R_lt (rN HO383.out))) (Kd.R_lt (rN HO386.out))) (Kd.R_lt (rN HO389.out))) (Kd.R_lt (rN HO402.out))) (Kd.R_lt (rN HO405.out))) (Kd.R_lt (rN HO408.out))) (Kd.R_lt (rN HO411.out))) (Kd.R_lt (rN HO414.out))) (below_size (bN HB.out)))
    have n19_ := m_ (Kd.R_lower (Kd.R_new' (Kd.R_new' (Kd.R_new' (Kd.R_new' (Kd.R_new' (Kd.R_new' (Kd.R_new' (Kd.R_new' (Kd.R_new' (Kd.R_new' ho5 (Kd.R_lt (rN HO377.out))) (Kd.R_lt (rN HO380.out))) (Kd.R_lt (rN HO383.out))) (Kd.R_lt (rN HO386.out))) (Kd.R_lt (rN HO389.out))) (Kd.R_lt (rN HO402.out))) (Kd.R_lt (rN HO405.out))) (Kd.R_lt (rN HO408.out))) (Kd.R_lt (rN HO411.out))) (Kd.R_lt (rN HO414.out))) (below_size (bN HB.out)))
    have n20_ := m_ (Kd.R_lower (Kd.R_new' (Kd.R_new' ho6 (Kd.R_lt (rN HO392.out))) (Kd.R_lt (rN HO417.out))) (below_size (bN HB.out)))
    have n21_ := m_ (blk_below (kN BK368.out) hb)
    have n22_ := m_ (blk_below (kN BK419.out) hb)
    have n23_ := m_ (below_step (bN HB.out) hb)
    clear HO374
    clear HO377
    clear HO380
    clear HO383
    clear HO386
    clear HO389
    clear HO392
    clear HO399
    clear HO402
    clear HO405
    clear HO408
    clear HO411
    clear HO414
    clear HO417
    clear BK368
    clear BK419
    clear HB
    have HO374 := n0_
    have HO377 := n1_
    have HO380 := n2_
    have HO383 := n3_
    have HO386 := n4_
    have HO389 := n5_
    have HO392 := n6_
    have HO399 := n7_
    have HO402 := n8_
    have HO405 := n9_
    have HO408 := n10_
    have HO411 := n11_
    have HO414 := n12_
    have HO417 := n13_
    have HO425 := n14_
    have HO428 := n15_
    have HO431 := n16_
    have HO434 := n17_
    have HO437 := n18_
    have HO440 := n19_
    have HO443 := n20_
    have BK368 := n21_
    have BK419 := n22_
    have HB := n23_
    clear n0_ n1_ n2_ n3_ n4_ n5_ n6_ n7_ n8_ n9_ n10_ n11_ n12_ n13_ n14_ n15_ n16_ n17_ n18_ n19_ n20_ n21_ n22_ n23_
    (try clear hb)
    (try clear hb2)
    (try clear hk)
    (try clear hi)
    (try clear ho0)
    (try clear ho1)
    (try clear ho2)
    (try clear ho3)
    (try clear ho4)
    (try clear ho5)
    (try clear ho6)
    obtain ⟨Ao44, co44, eo44⟩ := Kd.S_slice HO425.out
    (first | subst eo44 | (injection eo44 with f1_ f2_ f3_; have f4_ := f1_.symm; have f5_ := f3_.symm; clear f1_ f2_ f3_; subst f4_; subst f5_))
    obtain ⟨Ao45, co45, eo45⟩ := Kd.R_slice HO428.out
    (first | subst eo45 | (injection eo45 with f1_ f2_ f3_; have f4_ := f1_.symm; have f5_ := f3_.symm; clear f1_ f2_ f3_; subst f4_; subst f5_))
    obtain ⟨Ao46, co46, eo46⟩ := Kd.R_slice HO431.out
    (first | subst eo46 | (injection eo46 with f1_ f2_ f3_; have f4_ := f1_.symm; have f5_ := f3_.symm; clear f1_ f2_ f3_; subst f4_; subst f5_))
    obtain ⟨Ao47, co47, eo47⟩ := Kd.R_slice HO434.out
    (first | subst eo47 | (injection eo47 with f1_ f2_ f3_; have f4_ := f1_.symm; have f5_ := f3_.symm; clear f1_ f2_ f3_; subst f4_; subst f5_))
    obtain ⟨Ao48, co48, eo48⟩ := Kd.R_slice HO437.out
    (first | subst eo48 | (injection eo48 with f1_ f2_ f3_; have f4_ := f1_.symm; have f5_ := f3_.symm; clear f1_ f2_ f3_; subst f4_; subst f5_))
    obtain ⟨Ao49, co49, eo49⟩ := Kd.R_slice HO440.out
    (first | subst eo49 | (injection eo49 with f1_ f2_ f3_; have f4_ := f1_.symm; have f5_ := f3_.symm; clear f1_ f2_ f3_; subst f4_; subst f5_))
    obtain ⟨Ao50, co50, eo50⟩ := Kd.R_slice HO443.out
    (first | subst eo50 | (injection eo50 with f1_ f2_ f3_; have f4_ := f1_.symm; have f5_ := f3_.symm; clear f1_ f2_ f3_; subst f4_; subst f5_))
    refine hK.out _ _ ⟨bc BK419 0, bc BK419 1, bc BK419 2, bc BK419 3, bc BK419 4, bc BK419 5, bc BK419 6, bc BK419 7, bc BK419 8, bc BK419 9, bc BK368 0, bc BK368 1, bc BK368 2, bc BK368 3, bc BK368 4, bc BK368 5, bc BK368 6, bc BK368 7, bc BK368 8, bc BK368 9⟩ (fun hHeld => ?_)
    clear hK K
    refine np (h := ?_)
    refine one_ (i := 3) (N := some 29) #[true, true, true, true, false] rfl rfl (by kernel_rfl) (by decide) (fun K hK => ?_)
    refine goes_ Tryd.func13 (by kernel_rfl) rfl #[.agg #[.int .i64 t395, .int .i64 t396, .slice Ao34 t397.length co34, .slice Ao35 t400.length co35, .slice Ao36 t403.length co36, .slice Ao37 t406.length co37, .slice Ao38 t409.length co38, .slice Ao39 t412.length co39, .slice Ao40 t415.length co40, .int .i64 t418], .agg #[.int .i64 t421, .int .i64 t422, .slice Ao44 t423.length co44, .slice Ao45 t426.length co45, .slice Ao46 t429.length co46, .slice Ao47 t432.length co47, .slice Ao48 t435.length co48, .slice Ao49 t438.length co49, .slice Ao50 t441.length co50, .int .i64 t444]] (by rfl) rfl rfl gl_ ?_
    with_reducible refine (laws_eqConf.calls k t395 t396 _ _ t397 _ _ t400 _ _ t403 _ _ t406 _ _ t409 _ _ t412 _ _ t415 t418 t421 t422 _ _ t423 _ _ t426 _ _ t429 _ _ t432 _ _ t435 _ _ t438 _ _ t441 t444 true _ ?side1 ?side2 ?side3 ?side4 ?side5 ?side6 ?side7 ?side8 ?side9 ?side10 ?side11 ?side12 ?side13 ?side14 ?side15 ?side16 ?side17 ?side18 ?side19 ?side20 ?side21 ?side22 ?side23 ?side24 ?side25 ?side26 ?side27 ?side28 A14.out).mono ?_
    (case side1 => exact cN (Kd.S_reads' HO399.out).2.2)
    (case side2 => exact (Kd.S_reads' HO399.out).2.1)
    (case side3 => exact cN (Kd.R_reads' HO402.out).2.2)
    (case side4 => exact (Kd.R_reads' HO402.out).2.1)
    (case side5 => exact cN (Kd.R_reads' HO405.out).2.2)
    (case side6 => exact (Kd.R_reads' HO405.out).2.1)
    (case side7 => exact cN (Kd.R_reads' HO408.out).2.2)
    (case side8 => exact (Kd.R_reads' HO408.out).2.1)
    (case side9 => exact cN (Kd.R_reads' HO411.out).2.2)
    (case side10 => exact (Kd.R_reads' HO411.out).2.1)
    (case side11 => exact cN (Kd.R_reads' HO414.out).2.2)
    (case side12 => exact (Kd.R_reads' HO414.out).2.1)
    (case side13 => exact cN (Kd.R_reads' HO417.out).2.2)
    (case side14 => exact (Kd.R_reads' HO417.out).2.1)
    (case side15 => exact cN (Kd.S_reads' HO425.out).2.2)
    (case side16 => exact (Kd.S_reads' HO425.out).2.1)
    (case side17 => exact cN (Kd.R_reads' HO428.out).2.2)
    (case side18 => exact (Kd.R_reads' HO428.out).2.1)
    (case side19 => exact cN (Kd.R_reads' HO431.out).2.2)
    (case side20 => exact (Kd.R_reads' HO431.out).2.1)
    (case side21 => exact cN (Kd.R_reads' HO434.out).2.2)
    (case side22 => exact (Kd.R_reads' HO434.out).2.1)
    (case side23 => exact cN (Kd.R_reads' HO437.out).2.2)
    (case side24 => exact (Kd.R_reads' HO437.out).2.1)
    (case side25 => exact cN (Kd.R_reads' HO440.out).2.2)
    (case side26 => exact (Kd.R_reads' HO440.out).2.1)
    (case side27 => exact cN (Kd.R_reads' HO443.out).2.2)
    (case side28 => exact (Kd.R_reads' HO443.out).2.1)
    rintro e w51 ⟨rfl, hb⟩
    refine ⟨_, rfl, ?_⟩
    have n0_ := m_ (Kd.S_below (by (with_reducible repeat (first | apply Kd.S_alloc | apply Kd.S_drewN | apply Kd.S_drew)); exact HO374.out) hb)
    have n1_ := m_ (Kd.R_below (rN HO377.out) hb)
    have n2_ := m_ (Kd.R_below (rN HO380.out) hb)
    have n3_ := m_ (Kd.R_below (rN HO383.out) hb)
    have n4_ := m_ (Kd.R_below (rN HO386.out) hb)
    have n5_ := m_ (Kd.R_below (rN HO389.out) hb)
    have n6_ := m_ (Kd.R_below (rN HO392.out) hb)
    have n7_ := m_ (Kd.S_below (by (with_reducible repeat (first | apply Kd.S_alloc | apply Kd.S_drewN | apply Kd.S_drew)); exact HO399.out) hb)
    have n8_ := m_ (Kd.R_below (rN HO402.out) hb)
    have n9_ := m_ (Kd.R_below (rN HO405.out) hb)
    have n10_ := m_ (Kd.R_below (rN HO408.out) hb)
    have n11_ := m_ (Kd.R_below (rN HO411.out) hb)
    have n12_ := m_ (Kd.R_below (rN HO414.out) hb)
    have n13_ := m_ (Kd.R_below (rN HO417.out) hb)
    have n14_ := m_ (Kd.S_below (by (with_reducible repeat (first | apply Kd.S_alloc | apply Kd.S_drewN | apply Kd.S_drew)); exact HO425.out) hb)
    have n15_ := m_ (Kd.R_below (rN HO428.out) hb)
    have n16_ := m_ (Kd.R_below (rN HO431.out) hb)
    have n17_ := m_ (Kd.R_below (rN HO434.out) hb)
    have n18_ := m_ (Kd.R_below (rN HO437.out) hb)
    have n19_ := m_ (Kd.R_below (rN HO440.out) hb)
    have n20_ := m_ (Kd.R_below (rN HO443.out) hb)
    have n21_ := m_ (blk_below (kN BK368.out) hb)
    have n22_ := m_ (blk_below (kN BK419.out) hb)
    have n23_ := m_ (below_step (bN HB.out) hb)
    clear HO374
    clear HO377
    clear HO380
    clear HO383
    clear HO386
    clear HO389
    clear HO392
    clear HO399
    clear HO402
    clear HO405
    clear HO408
    clear HO411
    clear HO414
    clear HO417
    clear HO425
    clear HO428
    clear HO431
    clear HO434
    clear HO437
    clear HO440
    clear HO443
    clear BK368
    clear BK419
    clear HB
    have HO374 := n0_
    have HO377 := n1_
    have HO380 := n2_
    have HO383 := n3_
    have HO386 := n4_
    have HO389 := n5_
    have HO392 := n6_
    have HO399 := n7_
    have HO402 := n8_
    have HO405 := n9_
    have HO408 := n10_
    have HO411 := n11_
    have HO414 := n12_
    have HO417 := n13_
    have HO425 := n14_
    have HO428 := n15_
    have HO431 := n16_
    have HO434 := n17_
    have HO437 := n18_
    have HO440 := n19_
    have HO443 := n20_
    have BK368 := n21_
    have BK419 := n22_
    have HB := n23_
    clear n0_ n1_ n2_ n3_ n4_ n5_ n6_ n7_ n8_ n9_ n10_ n11_ n12_ n13_ n14_ n15_ n16_ n17_ n18_ n19_ n20_ n21_ n22_ n23_
    (try clear hb)
    (try clear hb2)
    (try clear hk)
    (try clear hi)
    refine hK.out _ _ ⟨bc BK419 0, bc BK419 1, bc BK419 2, bc BK419 3, bc BK419 4, bc BK419 5, bc BK419 6, bc BK419 7, bc BK419 8, bc BK419 9, bc BK368 0, bc BK368 1, bc BK368 2, bc BK368 3, bc BK368 4, bc BK368 5, bc BK368 6, bc BK368 7, bc BK368 8, bc BK368 9⟩ (fun hHeld => ?_)
    clear hK K
    refine np (h := ?_)
    refine pure_ (i := 4) (N := some 30) (v := ?_) (a' := ?_) #[true, true, true, true, true] rfl rfl (by kernel_rfl) (fun _ _ _ h => h) (Or.inl ⟨by rfl, ?_⟩) ?_ ?_
    rotate_left
    ·intro w'
     go_simp
     with_reducible rfl
    rotate_left
    ·simp only [Act.put, List.setIfInBounds_toArray, List.set_cons_zero, List.set_cons_succ, i64_w, i32_w]
     rfl
    refine done_ (by kernel_rfl) ?_
    try go_wp2
    go_ret
    exact ⟨by first | rfl | (simp [errW_none, errW_some] <;> rfl) | (simp [*, errW_none, errW_some] <;> rfl), by repeat (first | (with_reducible first | exact HB.out | apply below_alloc | apply pw_below_drewN | apply below_drew1 | refine below_set ?_ GE368.out | refine below_set ?_ GE419.out) | exact HB.out)⟩
   ·replace c15 := Bool.eq_false_iff.mpr c15
    subst c15
    have H1 : (none) = some r := by rw [if_neg (show ¬ (false = true) by decide)] at H; exact H
    exact absurd H1 (by simp)
  ·rw [if_neg c12] at H
   exact absurd H (by simp)

end Go.Proofs.YtcenmlpfbpogoaaDoor.P
