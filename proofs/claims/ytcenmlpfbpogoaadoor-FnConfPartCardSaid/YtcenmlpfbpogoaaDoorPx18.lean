/- The machine side of these statements, function by function: what each Go function answers (as a Lean function), and that it does. Written by a program (mp.py) for this claim. -/
import Derived.Test.YtcenmlpfbpogoaaDoorPx0
import Derived.Test.YtcenmlpfbpogoaaDoorPx1
import Derived.Test.YtcenmlpfbpogoaaDoorPx3
import Derived.Test.YtcenmlpfbpogoaaDoorPx6
import Derived.Test.YtcenmlpfbpogoaaDoorPx10
import Derived.Test.YtcenmlpfbpogoaaDoorPx11
import Derived.Test.YtcenmlpfbpogoaaDoorPx14
namespace Go.Proofs.YtcenmlpfbpogoaaDoor.P
open Go.RowKit Go.Proofs.YtcenmlpfbpogoaaDoorW.PrintWords Go.Proofs.YtcenmlpfbpogoaaDoorW.PrintLast Go.Proofs.YtcenmlpfbpogoaaDoorW.PrintMore
attribute [local go_sem] max2_int min2_int max_two min_two max_three min_three max_four min_four   -- for this text's walks alone
set_option linter.unusedVariables false
set_option linter.unusedSimpArgs false

/-! ### spec_DrawConfPart: function 18 -/
def spec_DrawConfPart.f (k : Nat) (l0 : List Int) : Option (Int × Int × (List (List (S107))) × List Int × List Int × List Int × List Int × List Int × (List (S78)) × Int × Int) := (spec_l1Open.f l0).bind fun bt473 => ((spec_l15AnyConf.f k bt473.1 bt473.2).bind fun bt476 => ((spec_l1Rd_one.f k bt473.1 bt476.2.2.2.2.2.2.2.2.2.2 (([0, 1, 7, 9, 5] : List Int))).bind fun bt504 => (some (bt476.1, bt476.2.1, bt476.2.2.1, bt476.2.2.2.1, bt476.2.2.2.2.1, bt476.2.2.2.2.2.1, bt476.2.2.2.2.2.2.1, bt476.2.2.2.2.2.2.2.1, bt476.2.2.2.2.2.2.2.2.1, bt476.2.2.2.2.2.2.2.2.2.1, bt504.1))))
theorem spec_DrawConfPart.mono : ∀ a0 k, LeO (spec_DrawConfPart.f k a0) (spec_DrawConfPart.f (k + 1) a0) := by
 intro a0 k
 unfold spec_DrawConfPart.f
 repeat' first
   | (with_reducible exact spec_l15AnyConf.mono _ _ _)
   | (with_reducible exact spec_l1Rd_one.mono _ _ _ _)
   | (with_reducible exact LeO.refl _)
   | (with_reducible exact LeO.none _)
   | (with_reducible refine LeO.ite ?_ ?_)
   | (with_reducible refine LeO.bind ?_ (fun _ => ?_))
   | exact spec_l15AnyConf.mono _ _ _
   | exact spec_l1Rd_one.mono _ _ _ _
   | exact LeO.none _
   | refine LeO.ite ?_ ?_
   | refine LeO.bind ?_ (fun _ => ?_)
set_option maxHeartbeats 8000000 in
set_option maxRecDepth 100000 in
theorem spec_DrawConfPart.calls (k : Nat) (A0 : Option Addr) (c0 : Nat) (l0 : List Int) (r1 : Int) (r2 : Int) (r3 : List (List (S107))) (r4 : List Int) (r5 : List Int) (r6 : List Int) (r7 : List Int) (r8 : List Int) (r9 : List (S78)) (r10 : Int) (r11 : Int) (w : World) (hr0 : Kd.C (Kd.int .u8) w A0 l0.length l0) (hc0 : l0.length ≤ c0) (h : spec_DrawConfPart.f k l0 = some (r1, r2, r3, r4, r5, r6, r7, r8, r9, r10, r11)) :
  Calls Tryd.prog 18 #[.slice A0 l0.length c0] w fun e w' => ∃ v2_ v3_ v4_ v5_ v6_ v7_ v8_ : Value, e = .returned (.tuple #[.agg #[.int .i64 r1, .int .i64 r2, v2_, v3_, v4_, v5_, v6_, v7_, v8_, .int .i64 r10], .int .i64 r11]) ∧ Kd.N (Kd.slice 107 k107) 75 w' w.heap.size (fun k_ => (w.heap.size ≤ k_) ∧ some k_ ≠ (v3_ : Value).ownBlock ∧ some k_ ≠ (v4_ : Value).ownBlock ∧ some k_ ≠ (v5_ : Value).ownBlock ∧ some k_ ≠ (v6_ : Value).ownBlock ∧ some k_ ≠ (v7_ : Value).ownBlock ∧ some k_ ≠ (v8_ : Value).ownBlock) v2_ r3 ∧ Kd.R (Kd.int .i64) 3 w' w.heap.size (fun k_ => (w.heap.size ≤ k_) ∧ some k_ ≠ (v4_ : Value).ownBlock ∧ some k_ ≠ (v5_ : Value).ownBlock ∧ some k_ ≠ (v6_ : Value).ownBlock ∧ some k_ ≠ (v7_ : Value).ownBlock) v3_ r4 ∧ Kd.R (Kd.int .i64) 3 w' w.heap.size (fun k_ => (w.heap.size ≤ k_) ∧ some k_ ≠ (v3_ : Value).ownBlock ∧ some k_ ≠ (v5_ : Value).ownBlock ∧ some k_ ≠ (v6_ : Value).ownBlock ∧ some k_ ≠ (v7_ : Value).ownBlock) v4_ r5 ∧ Kd.R (Kd.int .i64) 3 w' w.heap.size (fun k_ => (w.heap.size ≤ k_) ∧ some k_ ≠ (v3_ : Value).ownBlock ∧ some k_ ≠ (v4_ : Value).ownBlock ∧ some k_ ≠ (v6_ : Value).ownBlock ∧ some k_ ≠ (v7_ : Value).ownBlock) v5_ r6 ∧ Kd.R (Kd.int .i64) 3 w' w.heap.size (fun k_ => (w.heap.size ≤ k_) ∧ some k_ ≠ (v3_ : Value).ownBlock ∧ some k_ ≠ (v4_ : Value).ownBlock ∧ some k_ ≠ (v5_ : Value).ownBlock ∧ some k_ ≠ (v7_ : Value).ownBlock) v6_ r7 ∧ Kd.R (Kd.int .i64) 3 w' w.heap.size (fun k_ => (w.heap.size ≤ k_) ∧ some k_ ≠ (v3_ : Value).ownBlock ∧ some k_ ≠ (v4_ : Value).ownBlock ∧ some k_ ≠ (v5_ : Value).ownBlock ∧ some k_ ≠ (v6_ : Value).ownBlock) v7_ r8 ∧ Kd.R k78 78 w' w.heap.size (fun k_ => (w.heap.size ≤ k_)) v8_ r9 ∧ Below w.heap.size w w' := by
 have hu32 := Tryd.underlying32
 have HR0 := Aside0.mk hr0
 have HC0 := Aside0.mk hc0
 clear hr0 hc0
 have HB := m_ (Below.refl w.heap.size w)
 have H : ((spec_l1Open.f l0).bind fun bt473 => ((spec_l15AnyConf.f k bt473.1 bt473.2).bind fun bt476 => ((spec_l1Rd_one.f k bt473.1 bt476.2.2.2.2.2.2.2.2.2.2 (([0, 1, 7, 9, 5] : List Int))).bind fun bt504 => (some (bt476.1, bt476.2.1, bt476.2.2.1, bt476.2.2.2.1, bt476.2.2.2.2.1, bt476.2.2.2.2.2.1, bt476.2.2.2.2.2.2.1, bt476.2.2.2.2.2.2.2.1, bt476.2.2.2.2.2.2.2.2.1, bt476.2.2.2.2.2.2.2.2.2.1, bt504.1))))) = some (r1, r2, r3, r4, r5, r6, r7, r8, r9, r10, r11) := h
 clear h
 replace H := Option.bind_eq_some_iff.mp H
 obtain ⟨⟨t473, t474⟩, A20, H⟩ := H
 replace H : ((spec_l15AnyConf.f k t473 t474).bind fun bt476 => ((spec_l1Rd_one.f k t473 bt476.2.2.2.2.2.2.2.2.2.2 (([0, 1, 7, 9, 5] : List Int))).bind fun bt504 => (some (bt476.1, bt476.2.1, bt476.2.2.1, bt476.2.2.2.1, bt476.2.2.2.2.1, bt476.2.2.2.2.2.1, bt476.2.2.2.2.2.2.1, bt476.2.2.2.2.2.2.2.1, bt476.2.2.2.2.2.2.2.2.1, bt476.2.2.2.2.2.2.2.2.2.1, bt504.1)))) = some (r1, r2, r3, r4, r5, r6, r7, r8, r9, r10, r11) := H
 have A2 := Aside0.mk A20
 clear A20
 replace H := Option.bind_eq_some_iff.mp H
 obtain ⟨⟨t476, t477, t478, t481, t484, t487, t490, t493, t496, t499, t500⟩, A30, H⟩ := H
 replace H : ((spec_l1Rd_one.f k t473 t500 (([0, 1, 7, 9, 5] : List Int))).bind fun bt504 => (some (t476, t477, t478, t481, t484, t487, t490, t493, t496, t499, bt504.1))) = some (r1, r2, r3, r4, r5, r6, r7, r8, r9, r10, r11) := H
 have A3 := Aside0.mk A30
 clear A30
 obtain ⟨y501, hy501⟩ : ∃ y_ : List Int, y_ = (([0, 1, 7, 9, 5] : List Int)) := ⟨_, rfl⟩
 replace H : ((spec_l1Rd_one.f k t473 t500 y501).bind fun bt504 => (some (t476, t477, t478, t481, t484, t487, t490, t493, t496, t499, bt504.1))) = some (r1, r2, r3, r4, r5, r6, r7, r8, r9, r10, r11) := by first | (rw [hy501]; with_reducible exact H) | (have H2_ := (Option.bind_some _ _).symm.trans H; rw [hy501]; with_reducible exact H2_) | (have H2_ := (Option.bind_some _ _).symm.trans H; with_reducible exact H2_) | with_reducible exact H | (rw [hy501]; exact H) | exact H
 have Ny501 := Aside0.mk hy501
 clear hy501
 replace H := Option.bind_eq_some_iff.mp H
 obtain ⟨⟨t504, t505⟩, A40, H⟩ := H
 replace H : (some (t476, t477, t478, t481, t484, t487, t490, t493, t496, t499, t504)) = some (r1, r2, r3, r4, r5, r6, r7, r8, r9, r10, r11) := H
 have A4 := Aside0.mk A40
 clear A40
 simp only [Option.some.injEq, Prod.mk.injEq] at H
 obtain ⟨rfl, rfl, rfl, rfl, rfl, rfl, rfl, rfl, rfl, rfl, rfl⟩ := H
 go_enter Tryd.func18, Tryd.ntmps18
 go_wp2_with (first | ((with_reducible refine gate_dst (N := 2) rfl ?_); refine box_event ?hg (N := 2) ?hd (cs := #[.int .i64 0, .int .i64 0, .slice none 0 0, .slice none 0 0, .slice none 0 0, .slice none 0 0, .slice none 0 0, .slice none 0 0, .slice none 0 0, .int .i64 0]) (t := 32) ?hr ?_; (case hd => rfl); (case hg => rfl); (case hr => first | (go_simp; done) | (go_simp; rfl)); intro gb472 hg w5 hbox hb; have n0_ := m_ (below_step (bN HB.out) hb); have n1_ := m_ (hbox); have n2_ := m_ ((by rw [hg]; exact (below_size (bN HB.out)) : w.heap.size ≤ gb472)); have n3_ := m_ ((by rw [hg]; exact (below_size (bN HB.out)) : w.heap.size ≤ gb472)); clear HB; have HB := n0_; have BK472 := n1_; have GW472 := n2_; have GE472 := n3_; clear n0_ n1_ n2_ n3_ hb hbox hg) | ((with_reducible refine gate_callee (f := 35) rfl ?_); refine goesL_ (some 6) rfl rfl Tryd.func35 (by kernel_rfl) rfl #[.slice A0 l0.length c0] rfl gl_ ?_; (with_reducible refine (spec_l1Open.calls _ _ l0 t473 t474 w _ ?side1 ?side2 ?side3 A2.out).mono ?_); (case side1 => exact hB1 HB.out GE472.out); (case side2 => exact HR0.out); (case side3 => exact HC0.out); rintro e w6 ⟨g475, rfl, hi, hb, hb2⟩; refine ⟨_, rfl, ?_⟩; have n0_ := m_ (blk_below (kN BK472.out) hb2); have n1_ := m_ (hb); have n2_ := m_ (hi); have n3_ := m_ (IsS86.ne_blk hi (blk_below (kN BK472.out) hb2) (by decide)); have n4_ := m_ (Ne.symm (IsS86.ne_blk hi (blk_below (kN BK472.out) hb2) (by decide))); clear BK472 HB; have BK472 := n0_; have HB := n1_; have HI475 := n2_; have NB475_472 := n3_; have NB472_475 := n4_; clear n0_ n1_ n2_ n3_ n4_; (try clear hb); (try clear hb2); (try clear hk); (try clear hi)) | ((with_reducible refine gate_callee (f := 34) rfl ?_); refine goesL_ (some 8) rfl rfl Tryd.func34 (by kernel_rfl) rfl #[.pointer (some ⟨g475, 0, none⟩)] rfl gl_ ?_; (with_reducible refine (spec_l15AnyConf.calls k g475 t473 t474 t476 t477 t478 t481 t484 t487 t490 t493 t496 t499 t500 w _ ?side1 ?side2 A3.out).mono ?_); (case side1 => exact hI1 HI475.out NB475_472.out); (case side2 => exact hB2 HB.out (IsS86.ge HI475.out) GE472.out); rintro e w7 ⟨v479, v482, v485, v488, v491, v494, v497, rfl, ho0, ho1, ho2, ho3, ho4, ho5, ho6, hi, hb, hk⟩; refine ⟨_, rfl, ?_⟩; have n0_ := m_ (KeepBut.blk hk (g' := gb472) (o := .cells #[.int .i64 0, .int .i64 0, .slice none 0 0, .slice none 0 0, .slice none 0 0, .slice none 0 0, .slice none 0 0, .slice none 0 0, .slice none 0 0, .int .i64 0] 32 (0, 0)) (kN BK472.out) NB472_475.out (by simp)); have n1_ := m_ (Kd.N_lower (Kd.N_mono (ok' := fun k_ => (w.heap.size ≤ k_) ∧ some k_ ≠ (v482 : Value).ownBlock ∧ some k_ ≠ (v485 : Value).ownBlock ∧ some k_ ≠ (v488 : Value).ownBlock ∧ some k_ ≠ (v491 : Value).ownBlock ∧ some k_ ≠ (v494 : Value).ownBlock ∧ some k_ ≠ (v497 : Value).ownBlock ∧ k_ ≠ gb472 ∧ k_ ≠ g475) ho0 (fun k_ hk_ => ⟨(Nat.le_trans (below_size ((hB2 HB.out (IsS86.ge HI475.out) GE472.out))) hk_.1), hk_.2.1, hk_.2.2.1, hk_.2.2.2.1, hk_.2.2.2.2.1, hk_.2.2.2.2.2.1, hk_.2.2.2.2.2.2, (Kd.freshB (g := gb472) (o := .cells #[.int .i64 0, .int .i64 0, .slice none 0 0, .slice none 0 0, .slice none 0 0, .slice none 0 0, .slice none 0 0, .slice none 0 0, .slice none 0 0, .int .i64 0] 32 (0, 0)) (kN BK472.out) k_ hk_.1), (IsS86.fresh ((hI1 HI475.out NB475_472.out)) k_ hk_.1)⟩)) (below_size ((hB2 HB.out (IsS86.ge HI475.out) GE472.out)))); have n2_ := m_ (Kd.R_lower (Kd.R_newM (M := fun k_ => (w.heap.size ≤ k_)) (Kd.R_mono (ok' := fun k_ => some k_ ≠ (v485 : Value).ownBlock ∧ some k_ ≠ (v488 : Value).ownBlock ∧ some k_ ≠ (v491 : Value).ownBlock ∧ some k_ ≠ (v494 : Value).ownBlock) ho1 (fun _ hk_ => hk_.2)) (below_size ((hB2 HB.out (IsS86.ge HI475.out) GE472.out))) (fun k_ h_ => h_)) (below_size ((hB2 HB.out (IsS86.ge HI475.out) GE472.out)))); have n3_ := m_ (Kd.R_lower (Kd.R_newM (M := fun k_ => (w.heap.size ≤ k_)) (Kd.R_mono (ok' := fun k_ => some k_ ≠ (v482 : Value).ownBlock ∧ some k_ ≠ (v488 : Value).ownBlock ∧ some k_ ≠ (v491 : Value).ownBlock ∧ some k_ ≠ (v494 : Value).ownBlock) ho2 (fun _ hk_ => hk_.2)) (below_size ((hB2 HB.out (IsS86.ge HI475.out) GE472.out))) (fun k_ h_ => h_)) (below_size ((hB2 HB.out (IsS86.ge HI475.out) GE472.out)))); have n4_ := m_ (Kd.R_lower (Kd.R_newM (M := fun k_ => (w.heap.size ≤ k_)) (Kd.R_mono (ok' := fun k_ => some k_ ≠ (v482 : Value).ownBlock ∧ some k_ ≠ (v485 : Value).ownBlock ∧ some k_ ≠ (v491 : Value).ownBlock ∧ some k_ ≠ (v494 : Value).ownBlock) ho3 (fun _ hk_ => hk_.2)) (below_size ((hB2 HB.out (IsS86.ge HI475.out) GE472.out))) (fun k_ h_ => h_)) (below_size ((hB2 HB.out (IsS86.ge HI475.out) GE472.out)))); have n5_ := m_ (Kd.R_lower (Kd.R_newM (M := fun k_ => (w.heap.size ≤ k_)) (Kd.R_mono (ok' := fun k_ => some k_ ≠ (v482 : Value).ownBlock ∧ some k_ ≠ (v485 : Value).ownBlock ∧ some k_ ≠ (v488 : Value).ownBlock ∧ some k_ ≠ (v494 : Value).ownBlock) ho4 (fun _ hk_ => hk_.2)) (below_size ((hB2 HB.out (IsS86.ge HI475.out) GE472.out))) (fun k_ h_ => h_)) (below_size ((hB2 HB.out (IsS86.ge HI475.out) GE472.out)))); have n6_ := m_ (Kd.R_lower (Kd.R_newM (M := fun k_ => (w.heap.size ≤ k_)) (Kd.R_mono (ok' := fun k_ => some k_ ≠ (v482 : Value).ownBlock ∧ some k_ ≠ (v485 : Value).ownBlock ∧ some k_ ≠ (v488 : Value).ownBlock ∧ some k_ ≠ (v491 : Value).ownBlock) ho5 (fun _ hk_ => hk_.2)) (below_size ((hB2 HB.out (IsS86.ge HI475.out) GE472.out))) (fun k_ h_ => h_)) (below_size ((hB2 HB.out (IsS86.ge HI475.out) GE472.out)))); have n7_ := m_ (Kd.R_lower (Kd.R_newM (M := fun k_ => (w.heap.size ≤ k_)) (Kd.R_mono (ok' := fun k_ => True) ho6 (fun _ hk_ => trivial)) (below_size ((hB2 HB.out (IsS86.ge HI475.out) GE472.out))) (fun k_ h_ => h_)) (below_size ((hB2 HB.out (IsS86.ge HI475.out) GE472.out)))); have n8_ := m_ (hb); have n9_ := m_ (hi); clear BK472 HB HI475; have BK472 := n0_; have HO480 := n1_; have HO483 := n2_; have HO486 := n3_; have HO489 := n4_; have HO492 := n5_; have HO495 := n6_; have HO498 := n7_; have HB := n8_; have HI475 := n9_; clear n0_ n1_ n2_ n3_ n4_ n5_ n6_ n7_ n8_ n9_; (try clear hb); (try clear hb2); (try clear hk); (try clear hi); (try clear ho0); (try clear ho1); (try clear ho2); (try clear ho3); (try clear ho4); (try clear ho5); (try clear ho6)) | ((with_reducible refine gate_dst (N := 10) rfl ?_); refine Kd.R_lit (Kd.int .i64) _ 3 ?hg (N := 10) ?hd (xs := ([0, 1, 7, 9, 5] : List Int)) (inner := [.int .i64 0, .int .i64 1, .int .i64 7, .int .i64 9, .int .i64 5]) (ok := fun _ => True) (okp := fun _ => True) ?hr ?hp (fun _ hk => hk) trivial (Below.refl _ _) (Nat.le_refl _) (by simp) ?_; (case hd => rfl); (case hg => rfl); (case hr => first | (go_simp; done) | (go_simp; rfl)); (case hp => exact (Reps.one (show Kd.M (Kd.int .i64) _ _ _ 0 [.int .i64 0] from rfl) (Reps.one (show Kd.M (Kd.int .i64) _ _ _ 1 [.int .i64 1] from rfl) (Reps.one (show Kd.M (Kd.int .i64) _ _ _ 7 [.int .i64 7] from rfl) (Reps.one (show Kd.M (Kd.int .i64) _ _ _ 9 [.int .i64 9] from rfl) (Reps.one (show Kd.M (Kd.int .i64) _ _ _ 5 [.int .i64 5] from rfl) (Reps.none _ _))))))); intro v502 w8 ho9 hb hg_ hnew_; clear hg_ hnew_; (first | rw [← Ny501.out] at ho9 | (simp only [Int.reduceToNat] at ho9; rw [← Ny501.out] at ho9)); have n0_ := m_ (Kd.N_elder' (by (with_reducible repeat (first | apply Kd.N_alloc | apply Kd.N_drewN | apply Kd.N_drew)); exact HO480.out) (Kd.R_base ho9) hb); have n1_ := m_ (Kd.R_elder' (rN HO483.out) (Kd.R_base ho9) hb); have n2_ := m_ (Kd.R_elder' (rN HO486.out) (Kd.R_base ho9) hb); have n3_ := m_ (Kd.R_elder' (rN HO489.out) (Kd.R_base ho9) hb); have n4_ := m_ (Kd.R_elder' (rN HO492.out) (Kd.R_base ho9) hb); have n5_ := m_ (Kd.R_elder' (rN HO495.out) (Kd.R_base ho9) hb); have n6_ := m_ (Kd.R_below (rN HO498.out) hb); have n7_ := m_ (Kd.R_lower (Kd.R_new' (Kd.R_new' (Kd.R_new' (Kd.R_new' (Kd.R_new' (Kd.R_newM (M := fun k_ => (w.heap.size ≤ k_)) ho9 (below_size ((hB2 HB.out (IsS86.ge HI475.out) GE472.out))) (fun k_ h_ => h_)) (Kd.R_lt (rN HO483.out))) (Kd.R_lt (rN HO486.out))) (Kd.R_lt (rN HO489.out))) (Kd.R_lt (rN HO492.out))) (Kd.R_lt (rN HO495.out))) (below_size ((hB2 HB.out (IsS86.ge HI475.out) GE472.out)))); have n8_ := m_ (blk_below (kN BK472.out) hb); have n9_ := m_ (IsS86.below ((hI1 HI475.out NB475_472.out)) hb); have n10_ := m_ (below_step ((hB2 HB.out (IsS86.ge HI475.out) GE472.out)) hb); clear HO480 HO483 HO486 HO489 HO492 HO495 HO498 BK472 HI475 HB; have HO480 := n0_; have HO483 := n1_; have HO486 := n2_; have HO489 := n3_; have HO492 := n4_; have HO495 := n5_; have HO498 := n6_; have HO503 := n7_; have BK472 := n8_; have HI475 := n9_; have HB := n10_; clear n0_ n1_ n2_ n3_ n4_ n5_ n6_ n7_ n8_ n9_ n10_ hb ho9; obtain ⟨Ao10, co10, eo10⟩ := Kd.R_slice HO503.out; subst eo10) | ((with_reducible refine gate_callee (f := 43) rfl ?_); refine goesL_ (some 11) rfl rfl Tryd.func43 (by kernel_rfl) rfl #[.pointer (some ⟨g475, 0, none⟩), .slice Ao10 y501.length co10] rfl gl_ ?_; (with_reducible refine (spec_l1Rd_one.calls k g475 t473 t500 _ _ y501 t504 t505 w _ ?side1 ?side2 ?side3 ?side4 ?side5 A4.out).mono ?_); (case side1 => exact hI1 HI475.out NB475_472.out); (case side2 => exact hB2 HB.out (IsS86.ge HI475.out) GE472.out); (case side3 => exact cN (Kd.R_reads' HO503.out).2.2); (case side4 => exact (Kd.R_reads' HO503.out).2.1); (case side5 => exact far_slice (IsS86.own_ne HI475.out HO503.out (by decide))); rintro e w11 ⟨rfl, hi, hb, hk⟩; refine ⟨_, rfl, ?_⟩; have n0_ := m_ (KeepBut.blk hk (g' := gb472) (o := .cells #[.int .i64 0, .int .i64 0, .slice none 0 0, .slice none 0 0, .slice none 0 0, .slice none 0 0, .slice none 0 0, .slice none 0 0, .slice none 0 0, .int .i64 0] 32 (0, 0)) (kN BK472.out) NB472_475.out (by simp)); have n1_ := m_ (Kd.N_mono (Kd.N_keep (Kd.N_mono (ok := fun k_ => ((((w.heap.size ≤ k_)) ∧ (some k_ ≠ (v482 : Value).ownBlock ∧ (some k_ ≠ (v485 : Value).ownBlock ∧ (some k_ ≠ (v488 : Value).ownBlock ∧ (some k_ ≠ (v491 : Value).ownBlock ∧ (some k_ ≠ (v494 : Value).ownBlock ∧ (some k_ ≠ (v497 : Value).ownBlock ∧ (k_ ≠ gb472 ∧ k_ ≠ g475)))))))) ∧ nb Ao10 y501.length co10 k_)) (by (with_reducible repeat (first | apply Kd.N_alloc | apply Kd.N_drewN | apply Kd.N_drew)); exact HO480.out) (fun k_ hk_ => (⟨hk_, hk_.1.2.2.2.2.2.2.2.2⟩ : _ ∧ k_ ≠ g475))) hk (fun _ h => h.2)) (fun _ h => h.1)); have n2_ := m_ (Kd.R_mono (Kd.R_keep (IsS86.apart (show IsS86 w _ g475 t473 t500 from (hI1 HI475.out NB475_472.out)) (rN HO483.out) (by decide)) hk (fun _ h => h.2)) (fun _ h => h.1)); have n3_ := m_ (Kd.R_mono (Kd.R_keep (IsS86.apart (show IsS86 w _ g475 t473 t500 from (hI1 HI475.out NB475_472.out)) (rN HO486.out) (by decide)) hk (fun _ h => h.2)) (fun _ h => h.1)); have n4_ := m_ (Kd.R_mono (Kd.R_keep (IsS86.apart (show IsS86 w _ g475 t473 t500 from (hI1 HI475.out NB475_472.out)) (rN HO489.out) (by decide)) hk (fun _ h => h.2)) (fun _ h => h.1)); have n5_ := m_ (Kd.R_mono (Kd.R_keep (IsS86.apart (show IsS86 w _ g475 t473 t500 from (hI1 HI475.out NB475_472.out)) (rN HO492.out) (by decide)) hk (fun _ h => h.2)) (fun _ h => h.1)); have n6_ := m_ (Kd.R_mono (Kd.R_keep (IsS86.apart (show IsS86 w _ g475 t473 t500 from (hI1 HI475.out NB475_472.out)) (rN HO495.out) (by decide)) hk (fun _ h => h.2)) (fun _ h => h.1)); have n7_ := m_ (Kd.R_mono (Kd.R_keep (IsS86.apart (show IsS86 w _ g475 t473 t500 from (hI1 HI475.out NB475_472.out)) (rN HO498.out) (by decide)) hk (fun _ h => h.2)) (fun _ h => h.1)); have n8_ := m_ (Kd.R_mono (Kd.R_keep (IsS86.apart (show IsS86 w _ g475 t473 t500 from (hI1 HI475.out NB475_472.out)) (rN HO503.out) (by decide)) hk (fun _ h => h.2)) (fun _ h => h.1)); have n9_ := m_ (hb); have n10_ := m_ (hi); clear BK472 HO480 HO483 HO486 HO489 HO492 HO495 HO498 HO503 HB HI475; have BK472 := n0_; have HO480 := n1_; have HO483 := n2_; have HO486 := n3_; have HO489 := n4_; have HO492 := n5_; have HO495 := n6_; have HO498 := n7_; have HO503 := n8_; have HB := n9_; have HI475 := n10_; clear n0_ n1_ n2_ n3_ n4_ n5_ n6_ n7_ n8_ n9_ n10_; (try clear hb); (try clear hb2); (try clear hk); (try clear hi); have hnb12 := NB472_475.out; have hnc12 := NB475_472.out; obtain ⟨⟨hcz13_0, hcz13_1, hcz13_2, hcz13_3, hcz13_4, hcz13_5, hcz13_6, hcz13_7, hcz13_8, hcz13_9⟩, hfz13_0, hfz13_1, hfz13_2, hfz13_3, hfz13_4, hfz13_5, hfz13_6, hfz13_7, hfz13_8, hfz13_9⟩ := row10 BK472.out; obtain ⟨Ao14, co14, eo14⟩ := Kd.N_slice HO480.out; subst eo14; obtain ⟨Ao15, co15, eo15⟩ := Kd.R_slice HO483.out; subst eo15; obtain ⟨Ao16, co16, eo16⟩ := Kd.R_slice HO486.out; subst eo16; obtain ⟨Ao17, co17, eo17⟩ := Kd.R_slice HO489.out; subst eo17; obtain ⟨Ao18, co18, eo18⟩ := Kd.R_slice HO492.out; subst eo18; obtain ⟨Ao19, co19, eo19⟩ := Kd.R_slice HO495.out; subst eo19; obtain ⟨Ao20, co20, eo20⟩ := Kd.R_slice HO498.out; subst eo20))
 refine bodyPost_ret (results_ct rfl _ _ gb472 32 #[.int .i64 t476, .int .i64 t477, .slice Ao14 t478.length co14, .slice Ao15 t481.length co15, .slice Ao16 t484.length co16, .slice Ao17 t487.length co17, .slice Ao18 t490.length co18, .slice Ao19 t493.length co19, .slice Ao20 t496.length co20, .int .i64 t499] (0, 0) _ rfl (by (with_reducible repeat (first | refine blk_drewN ?_ _ | refine blk_drew ?_ | refine blk_alloc ?_ _)); apply put10; (with_reducible repeat (first | refine blk_drewN ?_ _ | refine blk_drew ?_ | refine blk_alloc ?_ _)); exact BK472.out) Tryd.underlying32 rfl (by kernel_rfl)) rfl ?_
 exact ⟨_, _, _, _, _, _, _, rf_, by (with_reducible repeat (first | apply Kd.N_alloc | apply Kd.N_drewN | apply Kd.N_drew)); exact Kd.N_mono (Kd.N_far (p := ⟨gb472, 9, none⟩) (Kd.N_far (p := ⟨gb472, 8, none⟩) (Kd.N_far (p := ⟨gb472, 7, none⟩) (Kd.N_far (p := ⟨gb472, 6, none⟩) (Kd.N_far (p := ⟨gb472, 5, none⟩) (Kd.N_far (p := ⟨gb472, 4, none⟩) (Kd.N_far (p := ⟨gb472, 3, none⟩) (Kd.N_far (p := ⟨gb472, 2, none⟩) (Kd.N_far (p := ⟨gb472, 1, none⟩) (Kd.N_far (p := ⟨gb472, 0, none⟩) (Kd.N_mono HO480.out (fun k_ hk => (⟨hk, hk.1.2.2.2.2.2.2.2.1⟩ : _ ∧ k_ ≠ gb472))) (fun _ hk => hk.2) (.int .i64 t476)) (fun _ hk => hk.2) (.int .i64 t477)) (fun _ hk => hk.2) (.slice Ao14 t478.length co14)) (fun _ hk => hk.2) (.slice Ao15 t481.length co15)) (fun _ hk => hk.2) (.slice Ao16 t484.length co16)) (fun _ hk => hk.2) (.slice Ao17 t487.length co17)) (fun _ hk => hk.2) (.slice Ao18 t490.length co18)) (fun _ hk => hk.2) (.slice Ao19 t493.length co19)) (fun _ hk => hk.2) (.slice Ao20 t496.length co20)) (fun _ hk => hk.2) (.int .i64 t499)) (fun _ hk => ⟨hk.1.1.1, ⟨hk.1.1.2.1, ⟨hk.1.1.2.2.1, ⟨hk.1.1.2.2.2.1, ⟨hk.1.1.2.2.2.2.1, ⟨hk.1.1.2.2.2.2.2.1, hk.1.1.2.2.2.2.2.2.1⟩⟩⟩⟩⟩⟩), frM (Kd.R_types HO483.out BK472.out (by decide)), frM (Kd.R_types HO486.out BK472.out (by decide)), frM (Kd.R_types HO489.out BK472.out (by decide)), frM (Kd.R_types HO492.out BK472.out (by decide)), frM (Kd.R_types HO495.out BK472.out (by decide)), frM (Kd.R_types HO498.out BK472.out (by decide)), (hB2 HB.out (IsS86.ge HI475.out) GE472.out)⟩

/-! ### impl_ConfPart: function 19 -/
def impl_ConfPart.f (k : Nat) (a0_0 : Int) (a0_1 : Int) (l0_2 : List (List (S107))) (l0_3 : List Int) (l0_4 : List Int) (l0_5 : List Int) (l0_6 : List Int) (l0_7 : List Int) (l0_8 : List (S78)) (a0_9 : Int) (a1 : Int) : Option (Int) := (impl_ConfCheck.f k a0_0 a0_1 l0_2 l0_3 l0_4 l0_5 l0_6 l0_7 l0_8 a0_9).bind fun t507 => (if t507 = 0 then ((slices_Index_int_int.f k l0_3 a1).bind fun t508 => (some t508)) else (some (-1)))
theorem impl_ConfPart.mono : ∀ a0 a1 a2 a3 a4 a5 a6 a7 a8 a9 a10 k, LeO (impl_ConfPart.f k a0 a1 a2 a3 a4 a5 a6 a7 a8 a9 a10) (impl_ConfPart.f (k + 1) a0 a1 a2 a3 a4 a5 a6 a7 a8 a9 a10) := by
 intro a0 a1 a2 a3 a4 a5 a6 a7 a8 a9 a10 k
 unfold impl_ConfPart.f
 repeat' first
   | (with_reducible exact impl_ConfCheck.mono _ _ _ _ _ _ _ _ _ _ _)
   | (with_reducible exact slices_Index_int_int.mono _ _ _)
   | (with_reducible exact LeO.refl _)
   | (with_reducible exact LeO.none _)
   | (with_reducible refine LeO.ite ?_ ?_)
   | (with_reducible refine LeO.bind ?_ (fun _ => ?_))
   | exact impl_ConfCheck.mono _ _ _ _ _ _ _ _ _ _ _
   | exact slices_Index_int_int.mono _ _ _
   | exact LeO.none _
   | refine LeO.ite ?_ ?_
   | refine LeO.bind ?_ (fun _ => ?_)
set_option maxHeartbeats 8000000 in
set_option maxRecDepth 100000 in
theorem impl_ConfPart.calls (k : Nat) (a0_0 : Int) (a0_1 : Int) (A0_2 : Option Addr) (c0_2 : Nat) (l0_2 : List (List (S107))) (A0_3 : Option Addr) (c0_3 : Nat) (l0_3 : List Int) (A0_4 : Option Addr) (c0_4 : Nat) (l0_4 : List Int) (A0_5 : Option Addr) (c0_5 : Nat) (l0_5 : List Int) (A0_6 : Option Addr) (c0_6 : Nat) (l0_6 : List Int) (A0_7 : Option Addr) (c0_7 : Nat) (l0_7 : List Int) (A0_8 : Option Addr) (c0_8 : Nat) (l0_8 : List (S78)) (a0_9 : Int) (a1 : Int) (r : Int) (w : World) (hr0_2 : Kd.C (Kd.slice 107 k107) w A0_2 l0_2.length l0_2) (hc0_2 : l0_2.length ≤ c0_2) (hr0_3 : Kd.C (Kd.int .i64) w A0_3 l0_3.length l0_3) (hc0_3 : l0_3.length ≤ c0_3) (hr0_4 : Kd.C (Kd.int .i64) w A0_4 l0_4.length l0_4) (hc0_4 : l0_4.length ≤ c0_4) (hr0_5 : Kd.C (Kd.int .i64) w A0_5 l0_5.length l0_5) (hc0_5 : l0_5.length ≤ c0_5) (hr0_6 : Kd.C (Kd.int .i64) w A0_6 l0_6.length l0_6) (hc0_6 : l0_6.length ≤ c0_6) (hr0_7 : Kd.C (Kd.int .i64) w A0_7 l0_7.length l0_7) (hc0_7 : l0_7.length ≤ c0_7) (hr0_8 : Kd.C k78 w A0_8 l0_8.length l0_8) (hc0_8 : l0_8.length ≤ c0_8) (h : impl_ConfPart.f k a0_0 a0_1 l0_2 l0_3 l0_4 l0_5 l0_6 l0_7 l0_8 a0_9 a1 = some r) (hG : GErr w) :
  Calls Tryd.prog 19 #[.agg #[.int .i64 a0_0, .int .i64 a0_1, .slice A0_2 l0_2.length c0_2, .slice A0_3 l0_3.length c0_3, .slice A0_4 l0_4.length c0_4, .slice A0_5 l0_5.length c0_5, .slice A0_6 l0_6.length c0_6, .slice A0_7 l0_7.length c0_7, .slice A0_8 l0_8.length c0_8, .int .i64 a0_9], .int .i64 a1] w fun e w' => e = .returned (.int .i64 r) ∧ Below w.heap.size w w' := by
 have HG0 := Aside0.mk hG
 clear hG
 have hu32 := Tryd.underlying32
 have HR0_2 := Aside0.mk hr0_2
 have HC0_2 := Aside0.mk hc0_2
 clear hr0_2 hc0_2
 have HR0_3 := Aside0.mk hr0_3
 have HC0_3 := Aside0.mk hc0_3
 clear hr0_3 hc0_3
 have HR0_4 := Aside0.mk hr0_4
 have HC0_4 := Aside0.mk hc0_4
 clear hr0_4 hc0_4
 have HR0_5 := Aside0.mk hr0_5
 have HC0_5 := Aside0.mk hc0_5
 clear hr0_5 hc0_5
 have HR0_6 := Aside0.mk hr0_6
 have HC0_6 := Aside0.mk hc0_6
 clear hr0_6 hc0_6
 have HR0_7 := Aside0.mk hr0_7
 have HC0_7 := Aside0.mk hc0_7
 clear hr0_7 hc0_7
 have HR0_8 := Aside0.mk hr0_8
 have HC0_8 := Aside0.mk hc0_8
 clear hr0_8 hc0_8
 have HB := m_ (Below.refl w.heap.size w)
 have H : ((impl_ConfCheck.f k a0_0 a0_1 l0_2 l0_3 l0_4 l0_5 l0_6 l0_7 l0_8 a0_9).bind fun t507 => (if t507 = 0 then ((slices_Index_int_int.f k l0_3 a1).bind fun t508 => (some t508)) else (some (-1)))) = some r := h
 clear h
 replace H := Option.bind_eq_some_iff.mp H
 obtain ⟨t507, A30, H⟩ := H
 replace H : (if t507 = 0 then ((slices_Index_int_int.f k l0_3 a1).bind fun t508 => (some t508)) else (some (-1))) = some r := H
 have A3 := Aside0.mk A30
 clear A30
 by_cases c4 : t507 = 0
 ·rw [if_pos c4] at H
  have c4b0 : (t507 == 0) = true := beq_iff_eq.mpr c4
  have c4b1 : (t507 != 0) = false := bne_eq_false_iff_eq.mpr c4
  clear c4
  replace H := Option.bind_eq_some_iff.mp H
  obtain ⟨t508, A50, H⟩ := H
  replace H : (some t508) = some r := H
  have A5 := Aside0.mk A50
  clear A50
  obtain rfl := Option.some.inj H
  go_enter Tryd.func19, Tryd.ntmps19
  go_wp2_with (first | ((with_reducible refine gate_dst (N := 2) rfl ?_); refine box_event ?hg (N := 2) ?hd (cs := #[.int .i64 a0_0, .int .i64 a0_1, .slice A0_2 l0_2.length c0_2, .slice A0_3 l0_3.length c0_3, .slice A0_4 l0_4.length c0_4, .slice A0_5 l0_5.length c0_5, .slice A0_6 l0_6.length c0_6, .slice A0_7 l0_7.length c0_7, .slice A0_8 l0_8.length c0_8, .int .i64 a0_9]) (t := 32) ?hr ?_; (case hd => rfl); (case hg => rfl); (case hr => first | (go_simp; done) | (go_simp; rfl)); intro gb506 hg w6 hbox hb; have n0_ := m_ (below_step (bN HB.out) hb); have n1_ := m_ (hbox); have n2_ := m_ ((by rw [hg]; exact (below_size (bN HB.out)) : w.heap.size ≤ gb506)); have n3_ := m_ ((by rw [hg]; exact (below_size (bN HB.out)) : w.heap.size ≤ gb506)); clear HB; have HB := n0_; have BK506 := n1_; have GW506 := n2_; have GE506 := n3_; clear n0_ n1_ n2_ n3_ hb hbox hg; obtain ⟨⟨hcz7_0, hcz7_1, hcz7_2, hcz7_3, hcz7_4, hcz7_5, hcz7_6, hcz7_7, hcz7_8, hcz7_9⟩, hfz7_0, hfz7_1, hfz7_2, hfz7_3, hfz7_4, hfz7_5, hfz7_6, hfz7_7, hfz7_8, hfz7_9⟩ := row10 BK506.out) | ((with_reducible refine gate_callee (f := 15) rfl ?_); refine goesL_ (some 6) rfl rfl Tryd.func15 (by kernel_rfl) rfl #[.agg #[.int .i64 a0_0, .int .i64 a0_1, .slice A0_2 l0_2.length c0_2, .slice A0_3 l0_3.length c0_3, .slice A0_4 l0_4.length c0_4, .slice A0_5 l0_5.length c0_5, .slice A0_6 l0_6.length c0_6, .slice A0_7 l0_7.length c0_7, .slice A0_8 l0_8.length c0_8, .int .i64 a0_9]] rfl gl_ ?_; (with_reducible refine (impl_ConfCheck.calls k a0_0 a0_1 _ _ l0_2 _ _ l0_3 _ _ l0_4 _ _ l0_5 _ _ l0_6 _ _ l0_7 _ _ l0_8 a0_9 t507 _ ?side1 ?side2 ?side3 ?side4 ?side5 ?side6 ?side7 ?side8 ?side9 ?side10 ?side11 ?side12 ?side13 ?side14 A3.out ?sideG).mono ?_); (case sideG => exact GErr.below (bN HB.out) HG0.out); (case side1 => exact cN (Kd.C_below HR0_2.out HB.out)); (case side2 => exact HC0_2.out); (case side3 => exact cN (Kd.C_below HR0_3.out HB.out)); (case side4 => exact HC0_3.out); (case side5 => exact cN (Kd.C_below HR0_4.out HB.out)); (case side6 => exact HC0_4.out); (case side7 => exact cN (Kd.C_below HR0_5.out HB.out)); (case side8 => exact HC0_5.out); (case side9 => exact cN (Kd.C_below HR0_6.out HB.out)); (case side10 => exact HC0_6.out); (case side11 => exact cN (Kd.C_below HR0_7.out HB.out)); (case side12 => exact HC0_7.out); (case side13 => exact cN (Kd.C_below HR0_8.out HB.out)); (case side14 => exact HC0_8.out); rintro e w8 ⟨rfl, hb⟩; refine ⟨_, rfl, ?_⟩; have n0_ := m_ (blk_below (kN BK506.out) hb); have n1_ := m_ (below_step (bN HB.out) hb); clear BK506 HB; have BK506 := n0_; have HB := n1_; clear n0_ n1_; (try clear hb); (try clear hb2); (try clear hk); (try clear hi); obtain ⟨⟨hcz9_0, hcz9_1, hcz9_2, hcz9_3, hcz9_4, hcz9_5, hcz9_6, hcz9_7, hcz9_8, hcz9_9⟩, hfz9_0, hfz9_1, hfz9_2, hfz9_3, hfz9_4, hfz9_5, hfz9_6, hfz9_7, hfz9_8, hfz9_9⟩ := row10 BK506.out) | ((with_reducible refine gate_callee (f := 44) rfl ?_); refine goesL_ (some 11) rfl rfl Tryd.func44 (by kernel_rfl) rfl #[.slice A0_3 l0_3.length c0_3, .int .i64 a1] rfl gl_ ?_; (with_reducible refine (slices_Index_int_int.calls k _ _ l0_3 a1 t508 _ ?side1 ?side2 A5.out).mono ?_); (case side1 => exact cN (Kd.C_below HR0_3.out HB.out)); (case side2 => exact HC0_3.out); rintro e w' ⟨rfl, ⟨nd, rfl⟩⟩; refine ⟨_, rfl, ?_⟩))
  go_ret
  exact ⟨rf_, (hB1 HB.out GE506.out)⟩
 ·rw [if_neg c4] at H
  have c4b0 : (t507 == 0) = false := beq_eq_false_iff_ne.mpr c4
  have c4b1 : (t507 != 0) = true := bne_iff_ne.mpr c4
  obtain rfl := Option.some.inj H
  go_enter Tryd.func19, Tryd.ntmps19
  go_wp2_with (first | ((with_reducible refine gate_dst (N := 2) rfl ?_); refine box_event ?hg (N := 2) ?hd (cs := #[.int .i64 a0_0, .int .i64 a0_1, .slice A0_2 l0_2.length c0_2, .slice A0_3 l0_3.length c0_3, .slice A0_4 l0_4.length c0_4, .slice A0_5 l0_5.length c0_5, .slice A0_6 l0_6.length c0_6, .slice A0_7 l0_7.length c0_7, .slice A0_8 l0_8.length c0_8, .int .i64 a0_9]) (t := 32) ?hr ?_; (case hd => rfl); (case hg => rfl); (case hr => first | (go_simp; done) | (go_simp; rfl)); intro gb506 hg w10 hbox hb; have n0_ := m_ (below_step (bN HB.out) hb); have n1_ := m_ (hbox); have n2_ := m_ ((by rw [hg]; exact (below_size (bN HB.out)) : w.heap.size ≤ gb506)); have n3_ := m_ ((by rw [hg]; exact (below_size (bN HB.out)) : w.heap.size ≤ gb506)); clear HB; have HB := n0_; have BK506 := n1_; have GW506 := n2_; have GE506 := n3_; clear n0_ n1_ n2_ n3_ hb hbox hg; obtain ⟨⟨hcz11_0, hcz11_1, hcz11_2, hcz11_3, hcz11_4, hcz11_5, hcz11_6, hcz11_7, hcz11_8, hcz11_9⟩, hfz11_0, hfz11_1, hfz11_2, hfz11_3, hfz11_4, hfz11_5, hfz11_6, hfz11_7, hfz11_8, hfz11_9⟩ := row10 BK506.out) | ((with_reducible refine gate_callee (f := 15) rfl ?_); refine goesL_ (some 6) rfl rfl Tryd.func15 (by kernel_rfl) rfl #[.agg #[.int .i64 a0_0, .int .i64 a0_1, .slice A0_2 l0_2.length c0_2, .slice A0_3 l0_3.length c0_3, .slice A0_4 l0_4.length c0_4, .slice A0_5 l0_5.length c0_5, .slice A0_6 l0_6.length c0_6, .slice A0_7 l0_7.length c0_7, .slice A0_8 l0_8.length c0_8, .int .i64 a0_9]] rfl gl_ ?_; (with_reducible refine (impl_ConfCheck.calls k a0_0 a0_1 _ _ l0_2 _ _ l0_3 _ _ l0_4 _ _ l0_5 _ _ l0_6 _ _ l0_7 _ _ l0_8 a0_9 t507 _ ?side1 ?side2 ?side3 ?side4 ?side5 ?side6 ?side7 ?side8 ?side9 ?side10 ?side11 ?side12 ?side13 ?side14 A3.out ?sideG).mono ?_); (case sideG => exact GErr.below (bN HB.out) HG0.out); (case side1 => exact cN (Kd.C_below HR0_2.out HB.out)); (case side2 => exact HC0_2.out); (case side3 => exact cN (Kd.C_below HR0_3.out HB.out)); (case side4 => exact HC0_3.out); (case side5 => exact cN (Kd.C_below HR0_4.out HB.out)); (case side6 => exact HC0_4.out); (case side7 => exact cN (Kd.C_below HR0_5.out HB.out)); (case side8 => exact HC0_5.out); (case side9 => exact cN (Kd.C_below HR0_6.out HB.out)); (case side10 => exact HC0_6.out); (case side11 => exact cN (Kd.C_below HR0_7.out HB.out)); (case side12 => exact HC0_7.out); (case side13 => exact cN (Kd.C_below HR0_8.out HB.out)); (case side14 => exact HC0_8.out); rintro e w12 ⟨rfl, hb⟩; refine ⟨_, rfl, ?_⟩; have n0_ := m_ (blk_below (kN BK506.out) hb); have n1_ := m_ (below_step (bN HB.out) hb); clear BK506 HB; have BK506 := n0_; have HB := n1_; clear n0_ n1_; (try clear hb); (try clear hb2); (try clear hk); (try clear hi)))
  go_ret
  exact ⟨rf_, (hB1 HB.out GE506.out)⟩

/-! ### spec_l11Part: function 45 -/
def spec_l11Part.l0 : Nat → Int → Int → Int → Int → List (List (S107)) → List Int → List Int → List Int → List Int → List Int → List (S78) → Int → Option (Int)
 | 0, _, _, _, _, _, _, _, _, _, _, _, _ => none
 | k + 1, x1, x5, x510000, x510001, x510002, x510003, x510004, x510005, x510006, x510007, x510008, x510009 => if x5 < (x510003.length : Int) then (if 0 ≤ x5 then (if (rd x510003 x5) = x1 then (some x5) else (spec_l11Part.l0 k x1 (wrap64 (x5 + 1)) x510000 x510001 x510002 x510003 x510004 x510005 x510006 x510007 x510008 x510009)) else (none)) else (some (-1))
def spec_l11Part.f (k : Nat) (a0_0 : Int) (a0_1 : Int) (l0_2 : List (List (S107))) (l0_3 : List Int) (l0_4 : List Int) (l0_5 : List Int) (l0_6 : List Int) (l0_7 : List Int) (l0_8 : List (S78)) (a0_9 : Int) (a1 : Int) : Option (Int) := spec_l11Part.l0 k a1 0 a0_0 a0_1 l0_2 l0_3 l0_4 l0_5 l0_6 l0_7 l0_8 a0_9
theorem spec_l11Part.mono_l : ∀ k, (∀ y0 y1 y2 y3 y4 y5 y6 y7 y8 y9 y10 y11, LeO (spec_l11Part.l0 k y0 y1 y2 y3 y4 y5 y6 y7 y8 y9 y10 y11) (spec_l11Part.l0 (k + 1) y0 y1 y2 y3 y4 y5 y6 y7 y8 y9 y10 y11))
 | 0 => fun _ _ _ _ _ _ _ _ _ _ _ _ r h => by simp [spec_l11Part.l0] at h
 | k + 1 => by
  have ih0 := spec_l11Part.mono_l k
  ·intro y0 y1 y2 y3 y4 y5 y6 y7 y8 y9 y10 y11
   unfold spec_l11Part.l0
   repeat' first
   | (with_reducible exact ih0 _ _ _ _ _ _ _ _ _ _ _ _)
   | (with_reducible exact LeO.refl _)
   | (with_reducible exact LeO.none _)
   | (with_reducible refine LeO.ite ?_ ?_)
   | (with_reducible refine LeO.bind ?_ (fun _ => ?_))
   | exact ih0 _ _ _ _ _ _ _ _ _ _ _ _
   | exact LeO.none _
   | refine LeO.ite ?_ ?_
   | refine LeO.bind ?_ (fun _ => ?_)
theorem spec_l11Part.mono : ∀ a0 a1 a2 a3 a4 a5 a6 a7 a8 a9 a10 k, LeO (spec_l11Part.f k a0 a1 a2 a3 a4 a5 a6 a7 a8 a9 a10) (spec_l11Part.f (k + 1) a0 a1 a2 a3 a4 a5 a6 a7 a8 a9 a10) := by
 intro a0 a1 a2 a3 a4 a5 a6 a7 a8 a9 a10 k
 have ih0 := spec_l11Part.mono_l k
 unfold spec_l11Part.f
 repeat' first
   | (with_reducible exact ih0 _ _ _ _ _ _ _ _ _ _ _ _)
   | (with_reducible exact LeO.refl _)
   | (with_reducible exact LeO.none _)
   | (with_reducible refine LeO.ite ?_ ?_)
   | (with_reducible refine LeO.bind ?_ (fun _ => ?_))
   | exact ih0 _ _ _ _ _ _ _ _ _ _ _ _
   | exact LeO.none _
   | refine LeO.ite ?_ ?_
   | refine LeO.bind ?_ (fun _ => ?_)
set_option maxHeartbeats 8000000 in
set_option maxRecDepth 100000 in
theorem spec_l11Part.calls (k : Nat) (a0_0 : Int) (a0_1 : Int) (A0_2 : Option Addr) (c0_2 : Nat) (l0_2 : List (List (S107))) (A0_3 : Option Addr) (c0_3 : Nat) (l0_3 : List Int) (A0_4 : Option Addr) (c0_4 : Nat) (l0_4 : List Int) (A0_5 : Option Addr) (c0_5 : Nat) (l0_5 : List Int) (A0_6 : Option Addr) (c0_6 : Nat) (l0_6 : List Int) (A0_7 : Option Addr) (c0_7 : Nat) (l0_7 : List Int) (A0_8 : Option Addr) (c0_8 : Nat) (l0_8 : List (S78)) (a0_9 : Int) (a1 : Int) (r : Int) (w : World) (hr0_2 : Kd.C (Kd.slice 107 k107) w A0_2 l0_2.length l0_2) (hc0_2 : l0_2.length ≤ c0_2) (hr0_3 : Kd.C (Kd.int .i64) w A0_3 l0_3.length l0_3) (hc0_3 : l0_3.length ≤ c0_3) (hr0_4 : Kd.C (Kd.int .i64) w A0_4 l0_4.length l0_4) (hc0_4 : l0_4.length ≤ c0_4) (hr0_5 : Kd.C (Kd.int .i64) w A0_5 l0_5.length l0_5) (hc0_5 : l0_5.length ≤ c0_5) (hr0_6 : Kd.C (Kd.int .i64) w A0_6 l0_6.length l0_6) (hc0_6 : l0_6.length ≤ c0_6) (hr0_7 : Kd.C (Kd.int .i64) w A0_7 l0_7.length l0_7) (hc0_7 : l0_7.length ≤ c0_7) (hr0_8 : Kd.C k78 w A0_8 l0_8.length l0_8) (hc0_8 : l0_8.length ≤ c0_8) (h : spec_l11Part.f k a0_0 a0_1 l0_2 l0_3 l0_4 l0_5 l0_6 l0_7 l0_8 a0_9 a1 = some r) :
  Calls Tryd.prog 45 #[.agg #[.int .i64 a0_0, .int .i64 a0_1, .slice A0_2 l0_2.length c0_2, .slice A0_3 l0_3.length c0_3, .slice A0_4 l0_4.length c0_4, .slice A0_5 l0_5.length c0_5, .slice A0_6 l0_6.length c0_6, .slice A0_7 l0_7.length c0_7, .slice A0_8 l0_8.length c0_8, .int .i64 a0_9], .int .i64 a1] w fun e w' => e = .returned (.int .i64 r) ∧ Below w.heap.size w w' := by
 have hu32 := Tryd.underlying32
 have HR0_2 := Aside0.mk hr0_2
 have HC0_2 := Aside0.mk hc0_2
 clear hr0_2 hc0_2
 have HR0_3 := Aside0.mk hr0_3
 have HC0_3 := Aside0.mk hc0_3
 clear hr0_3 hc0_3
 have HR0_4 := Aside0.mk hr0_4
 have HC0_4 := Aside0.mk hc0_4
 clear hr0_4 hc0_4
 have HR0_5 := Aside0.mk hr0_5
 have HC0_5 := Aside0.mk hc0_5
 clear hr0_5 hc0_5
 have HR0_6 := Aside0.mk hr0_6
 have HC0_6 := Aside0.mk hc0_6
 clear hr0_6 hc0_6
 have HR0_7 := Aside0.mk hr0_7
 have HC0_7 := Aside0.mk hc0_7
 clear hr0_7 hc0_7
 have HR0_8 := Aside0.mk hr0_8
 have HC0_8 := Aside0.mk hc0_8
 clear hr0_8 hc0_8
 have HB := m_ (Below.refl w.heap.size w)
 have H : (spec_l11Part.l0 k a1 0 a0_0 a0_1 l0_2 l0_3 l0_4 l0_5 l0_6 l0_7 l0_8 a0_9) = some r := h
 clear h
 have H' := Aside0.mk H
 clear H
 go_enter Tryd.func45, Tryd.ntmps45
 go_wp2_with (first | ((with_reducible refine gate_dst (N := 2) rfl ?_); refine box_event ?hg (N := 2) ?hd (cs := #[.int .i64 a0_0, .int .i64 a0_1, .slice A0_2 l0_2.length c0_2, .slice A0_3 l0_3.length c0_3, .slice A0_4 l0_4.length c0_4, .slice A0_5 l0_5.length c0_5, .slice A0_6 l0_6.length c0_6, .slice A0_7 l0_7.length c0_7, .slice A0_8 l0_8.length c0_8, .int .i64 a0_9]) (t := 32) ?hr ?_; (case hd => rfl); (case hg => rfl); (case hr => first | (go_simp; done) | (go_simp; rfl)); intro gb509 hg w3 hbox hb; have n0_ := m_ (below_step (bN HB.out) hb); have n1_ := m_ (hbox); have n2_ := m_ ((by rw [hg]; exact (below_size (bN HB.out)) : w.heap.size ≤ gb509)); have n3_ := m_ ((by rw [hg]; exact (below_size (bN HB.out)) : w.heap.size ≤ gb509)); clear HB; have HB := n0_; have BK509 := n1_; have GW509 := n2_; have GE509 := n3_; clear n0_ n1_ n2_ n3_ hb hbox hg))
 go_loopg [5] k (fun kq v5 w' => ∃ (x5_1 : Int), v5 = .int .i64 x5_1 ∧ Aside0 (spec_l11Part.l0 kq a1 x5_1 a0_0 a0_1 l0_2 l0_3 l0_4 l0_5 l0_6 l0_7 l0_8 a0_9 = some r) ∧ Aside0 (kq ≤ k) ∧ Aside0 (w'.heap[gb509]? = some (.cells #[.int .i64 a0_0, .int .i64 a0_1, (.slice A0_2 l0_2.length c0_2), (.slice A0_3 l0_3.length c0_3), (.slice A0_4 l0_4.length c0_4), (.slice A0_5 l0_5.length c0_5), (.slice A0_6 l0_6.length c0_6), (.slice A0_7 l0_7.length c0_7), (.slice A0_8 l0_8.length c0_8), .int .i64 a0_9] 32 (0, 0))) ∧ Aside0 (Below w.heap.size w w'))
 case atStart => exact ⟨(0), (by first | rfl | (simp; done) | (simp [*]; done)), H', ⟨Nat.le_refl _⟩, ⟨kN BK509.out⟩, ⟨(hB1 HB.out GE509.out)⟩⟩
 case round =>
  clear H'
  try clear p2
  obtain ⟨x5_1, rfl, HA, HK1, BK509, HB⟩ := hrel
  cases gk with
  | zero => exact absurd HA.out (by simp [spec_l11Part.l0])
  | succ k1 =>
   have H := HA.out
   clear HA
   simp only [spec_l11Part.l0] at H
   by_cases c4 : x5_1 < (l0_3.length : Int)
   ·rw [if_pos c4] at H
    have c4b0 : decide (x5_1 < (l0_3.length : Int)) = true := decide_eq_true c4
    clear c4
    by_cases c5 : 0 ≤ x5_1
    ·rw [if_pos c5] at H
     have c5b0 : decide (0 ≤ x5_1) = true := decide_eq_true c5
     clear c5
     by_cases c6 : (rd l0_3 x5_1) = a1
     ·rw [if_pos c6] at H
      have c6b0 : ((rd l0_3 x5_1) == a1) = true := beq_iff_eq.mpr c6
      have c6b1 : ((rd l0_3 x5_1) != a1) = false := bne_eq_false_iff_eq.mpr c6
      clear c6
      obtain rfl := Option.some.inj H
      obtain ⟨⟨hcz7_0, hcz7_1, hcz7_2, hcz7_3, hcz7_4, hcz7_5, hcz7_6, hcz7_7, hcz7_8, hcz7_9⟩, hfz7_0, hfz7_1, hfz7_2, hfz7_3, hfz7_4, hfz7_5, hfz7_6, hfz7_7, hfz7_8, hfz7_9⟩ := row10 BK509.out
      have p510 : 0 ≤ (x5_1 : Int) := of_decide_eq_true (by first | (with_reducible assumption) | assumption)
      have q510 : x5_1 < (l0_3.length : Int) := of_decide_eq_true (by first | (with_reducible assumption) | assumption)
      obtain ⟨ad510, e510, hx510_0⟩ := Kd.at_int HR0_3.out x5_1 p510 q510
      cases e510
      replace hx510_0 := (HB.out.cell (World.block_lt_of_cell? w _ hx510_0)).trans hx510_0
      replace p510 := eq_true p510
      replace q510 := eq_true q510
      go_wp2
      go_ret
      exact ⟨rf_, (hB1 HB.out GE509.out)⟩
     ·rw [if_neg c6] at H
      have c6b0 : ((rd l0_3 x5_1) == a1) = false := beq_eq_false_iff_ne.mpr c6
      have c6b1 : ((rd l0_3 x5_1) != a1) = true := bne_iff_ne.mpr c6
      have H' := Aside0.mk H
      clear H
      obtain ⟨⟨hcz8_0, hcz8_1, hcz8_2, hcz8_3, hcz8_4, hcz8_5, hcz8_6, hcz8_7, hcz8_8, hcz8_9⟩, hfz8_0, hfz8_1, hfz8_2, hfz8_3, hfz8_4, hfz8_5, hfz8_6, hfz8_7, hfz8_8, hfz8_9⟩ := row10 BK509.out
      have p510 : 0 ≤ (x5_1 : Int) := of_decide_eq_true (by first | (with_reducible assumption) | assumption)
      have q510 : x5_1 < (l0_3.length : Int) := of_decide_eq_true (by first | (with_reducible assumption) | assumption)
      obtain ⟨ad510, e510, hx510_0⟩ := Kd.at_int HR0_3.out x5_1 p510 q510
      cases e510
      replace hx510_0 := (HB.out.cell (World.block_lt_of_cell? w _ hx510_0)).trans hx510_0
      replace p510 := eq_true p510
      replace q510 := eq_true q510
      go_wp2
      go_roundg k1
      case measure => have := HK1.out; omega
      case rel => exact ⟨(wrap64 (x5_1 + 1)), (by first | rfl | (simp; done) | (simp [*]; done)), H', ⟨by have := HK1.out; omega⟩, ⟨kN BK509.out⟩, ⟨(hB1 HB.out GE509.out)⟩⟩
    ·rw [if_neg c5] at H
     exact absurd H (by simp)
   ·rw [if_neg c4] at H
    have c4b0 : decide (x5_1 < (l0_3.length : Int)) = false := decide_eq_false c4
    clear c4
    obtain rfl := Option.some.inj H
    obtain ⟨⟨hcz9_0, hcz9_1, hcz9_2, hcz9_3, hcz9_4, hcz9_5, hcz9_6, hcz9_7, hcz9_8, hcz9_9⟩, hfz9_0, hfz9_1, hfz9_2, hfz9_3, hfz9_4, hfz9_5, hfz9_6, hfz9_7, hfz9_8, hfz9_9⟩ := row10 BK509.out
    go_wp2
    go_ret
    exact ⟨rf_, (hB1 HB.out GE509.out)⟩

/-! ### spec_ConfPart: function 20 -/
def spec_ConfPart.f (k : Nat) (a0_0 : Int) (a0_1 : Int) (l0_2 : List (List (S107))) (l0_3 : List Int) (l0_4 : List Int) (l0_5 : List Int) (l0_6 : List Int) (l0_7 : List Int) (l0_8 : List (S78)) (a0_9 : Int) (a1 : Int) : Option (Int) := (spec_ConfCheck.f k a0_0 a0_1 l0_2 l0_3 l0_4 l0_5 l0_6 l0_7 l0_8 a0_9).bind fun t512 => (if t512 = 0 then ((spec_l11Part.f k a0_0 a0_1 l0_2 l0_3 l0_4 l0_5 l0_6 l0_7 l0_8 a0_9 a1).bind fun t513 => (some t513)) else (some (-1)))
theorem spec_ConfPart.mono : ∀ a0 a1 a2 a3 a4 a5 a6 a7 a8 a9 a10 k, LeO (spec_ConfPart.f k a0 a1 a2 a3 a4 a5 a6 a7 a8 a9 a10) (spec_ConfPart.f (k + 1) a0 a1 a2 a3 a4 a5 a6 a7 a8 a9 a10) := by
 intro a0 a1 a2 a3 a4 a5 a6 a7 a8 a9 a10 k
 unfold spec_ConfPart.f
 repeat' first
   | (with_reducible exact spec_ConfCheck.mono _ _ _ _ _ _ _ _ _ _ _)
   | (with_reducible exact spec_l11Part.mono _ _ _ _ _ _ _ _ _ _ _ _)
   | (with_reducible exact LeO.refl _)
   | (with_reducible exact LeO.none _)
   | (with_reducible refine LeO.ite ?_ ?_)
   | (with_reducible refine LeO.bind ?_ (fun _ => ?_))
   | exact spec_ConfCheck.mono _ _ _ _ _ _ _ _ _ _ _
   | exact spec_l11Part.mono _ _ _ _ _ _ _ _ _ _ _ _
   | exact LeO.none _
   | refine LeO.ite ?_ ?_
   | refine LeO.bind ?_ (fun _ => ?_)
set_option maxHeartbeats 8000000 in
set_option maxRecDepth 100000 in
theorem spec_ConfPart.calls (k : Nat) (a0_0 : Int) (a0_1 : Int) (A0_2 : Option Addr) (c0_2 : Nat) (l0_2 : List (List (S107))) (A0_3 : Option Addr) (c0_3 : Nat) (l0_3 : List Int) (A0_4 : Option Addr) (c0_4 : Nat) (l0_4 : List Int) (A0_5 : Option Addr) (c0_5 : Nat) (l0_5 : List Int) (A0_6 : Option Addr) (c0_6 : Nat) (l0_6 : List Int) (A0_7 : Option Addr) (c0_7 : Nat) (l0_7 : List Int) (A0_8 : Option Addr) (c0_8 : Nat) (l0_8 : List (S78)) (a0_9 : Int) (a1 : Int) (r : Int) (w : World) (hr0_2 : Kd.C (Kd.slice 107 k107) w A0_2 l0_2.length l0_2) (hc0_2 : l0_2.length ≤ c0_2) (hr0_3 : Kd.C (Kd.int .i64) w A0_3 l0_3.length l0_3) (hc0_3 : l0_3.length ≤ c0_3) (hr0_4 : Kd.C (Kd.int .i64) w A0_4 l0_4.length l0_4) (hc0_4 : l0_4.length ≤ c0_4) (hr0_5 : Kd.C (Kd.int .i64) w A0_5 l0_5.length l0_5) (hc0_5 : l0_5.length ≤ c0_5) (hr0_6 : Kd.C (Kd.int .i64) w A0_6 l0_6.length l0_6) (hc0_6 : l0_6.length ≤ c0_6) (hr0_7 : Kd.C (Kd.int .i64) w A0_7 l0_7.length l0_7) (hc0_7 : l0_7.length ≤ c0_7) (hr0_8 : Kd.C k78 w A0_8 l0_8.length l0_8) (hc0_8 : l0_8.length ≤ c0_8) (h : spec_ConfPart.f k a0_0 a0_1 l0_2 l0_3 l0_4 l0_5 l0_6 l0_7 l0_8 a0_9 a1 = some r) :
  Calls Tryd.prog 20 #[.agg #[.int .i64 a0_0, .int .i64 a0_1, .slice A0_2 l0_2.length c0_2, .slice A0_3 l0_3.length c0_3, .slice A0_4 l0_4.length c0_4, .slice A0_5 l0_5.length c0_5, .slice A0_6 l0_6.length c0_6, .slice A0_7 l0_7.length c0_7, .slice A0_8 l0_8.length c0_8, .int .i64 a0_9], .int .i64 a1] w fun e w' => e = .returned (.int .i64 r) ∧ Below w.heap.size w w' := by
 have hu32 := Tryd.underlying32
 have HR0_2 := Aside0.mk hr0_2
 have HC0_2 := Aside0.mk hc0_2
 clear hr0_2 hc0_2
 have HR0_3 := Aside0.mk hr0_3
 have HC0_3 := Aside0.mk hc0_3
 clear hr0_3 hc0_3
 have HR0_4 := Aside0.mk hr0_4
 have HC0_4 := Aside0.mk hc0_4
 clear hr0_4 hc0_4
 have HR0_5 := Aside0.mk hr0_5
 have HC0_5 := Aside0.mk hc0_5
 clear hr0_5 hc0_5
 have HR0_6 := Aside0.mk hr0_6
 have HC0_6 := Aside0.mk hc0_6
 clear hr0_6 hc0_6
 have HR0_7 := Aside0.mk hr0_7
 have HC0_7 := Aside0.mk hc0_7
 clear hr0_7 hc0_7
 have HR0_8 := Aside0.mk hr0_8
 have HC0_8 := Aside0.mk hc0_8
 clear hr0_8 hc0_8
 have HB := m_ (Below.refl w.heap.size w)
 have H : ((spec_ConfCheck.f k a0_0 a0_1 l0_2 l0_3 l0_4 l0_5 l0_6 l0_7 l0_8 a0_9).bind fun t512 => (if t512 = 0 then ((spec_l11Part.f k a0_0 a0_1 l0_2 l0_3 l0_4 l0_5 l0_6 l0_7 l0_8 a0_9 a1).bind fun t513 => (some t513)) else (some (-1)))) = some r := h
 clear h
 replace H := Option.bind_eq_some_iff.mp H
 obtain ⟨t512, A30, H⟩ := H
 replace H : (if t512 = 0 then ((spec_l11Part.f k a0_0 a0_1 l0_2 l0_3 l0_4 l0_5 l0_6 l0_7 l0_8 a0_9 a1).bind fun t513 => (some t513)) else (some (-1))) = some r := H
 have A3 := Aside0.mk A30
 clear A30
 by_cases c4 : t512 = 0
 ·rw [if_pos c4] at H
  have c4b0 : (t512 == 0) = true := beq_iff_eq.mpr c4
  have c4b1 : (t512 != 0) = false := bne_eq_false_iff_eq.mpr c4
  clear c4
  replace H := Option.bind_eq_some_iff.mp H
  obtain ⟨t513, A50, H⟩ := H
  replace H : (some t513) = some r := H
  have A5 := Aside0.mk A50
  clear A50
  obtain rfl := Option.some.inj H
  go_enter Tryd.func20, Tryd.ntmps20
  go_wp2_with (first | ((with_reducible refine gate_dst (N := 2) rfl ?_); refine box_event ?hg (N := 2) ?hd (cs := #[.int .i64 a0_0, .int .i64 a0_1, .slice A0_2 l0_2.length c0_2, .slice A0_3 l0_3.length c0_3, .slice A0_4 l0_4.length c0_4, .slice A0_5 l0_5.length c0_5, .slice A0_6 l0_6.length c0_6, .slice A0_7 l0_7.length c0_7, .slice A0_8 l0_8.length c0_8, .int .i64 a0_9]) (t := 32) ?hr ?_; (case hd => rfl); (case hg => rfl); (case hr => first | (go_simp; done) | (go_simp; rfl)); intro gb511 hg w6 hbox hb; have n0_ := m_ (below_step (bN HB.out) hb); have n1_ := m_ (hbox); have n2_ := m_ ((by rw [hg]; exact (below_size (bN HB.out)) : w.heap.size ≤ gb511)); have n3_ := m_ ((by rw [hg]; exact (below_size (bN HB.out)) : w.heap.size ≤ gb511)); clear HB; have HB := n0_; have BK511 := n1_; have GW511 := n2_; have GE511 := n3_; clear n0_ n1_ n2_ n3_ hb hbox hg; obtain ⟨⟨hcz7_0, hcz7_1, hcz7_2, hcz7_3, hcz7_4, hcz7_5, hcz7_6, hcz7_7, hcz7_8, hcz7_9⟩, hfz7_0, hfz7_1, hfz7_2, hfz7_3, hfz7_4, hfz7_5, hfz7_6, hfz7_7, hfz7_8, hfz7_9⟩ := row10 BK511.out) | ((with_reducible refine gate_callee (f := 16) rfl ?_); refine goesL_ (some 6) rfl rfl Tryd.func16 (by kernel_rfl) rfl #[.agg #[.int .i64 a0_0, .int .i64 a0_1, .slice A0_2 l0_2.length c0_2, .slice A0_3 l0_3.length c0_3, .slice A0_4 l0_4.length c0_4, .slice A0_5 l0_5.length c0_5, .slice A0_6 l0_6.length c0_6, .slice A0_7 l0_7.length c0_7, .slice A0_8 l0_8.length c0_8, .int .i64 a0_9]] rfl gl_ ?_; (with_reducible refine (spec_ConfCheck.calls k a0_0 a0_1 _ _ l0_2 _ _ l0_3 _ _ l0_4 _ _ l0_5 _ _ l0_6 _ _ l0_7 _ _ l0_8 a0_9 t512 _ ?side1 ?side2 ?side3 ?side4 ?side5 ?side6 ?side7 ?side8 ?side9 ?side10 ?side11 ?side12 ?side13 ?side14 A3.out).mono ?_); (case side1 => exact cN (Kd.C_below HR0_2.out HB.out)); (case side2 => exact HC0_2.out); (case side3 => exact cN (Kd.C_below HR0_3.out HB.out)); (case side4 => exact HC0_3.out); (case side5 => exact cN (Kd.C_below HR0_4.out HB.out)); (case side6 => exact HC0_4.out); (case side7 => exact cN (Kd.C_below HR0_5.out HB.out)); (case side8 => exact HC0_5.out); (case side9 => exact cN (Kd.C_below HR0_6.out HB.out)); (case side10 => exact HC0_6.out); (case side11 => exact cN (Kd.C_below HR0_7.out HB.out)); (case side12 => exact HC0_7.out); (case side13 => exact cN (Kd.C_below HR0_8.out HB.out)); (case side14 => exact HC0_8.out); rintro e w8 ⟨rfl, hb⟩; refine ⟨_, rfl, ?_⟩; have n0_ := m_ (blk_below (kN BK511.out) hb); have n1_ := m_ (below_step (bN HB.out) hb); clear BK511 HB; have BK511 := n0_; have HB := n1_; clear n0_ n1_; (try clear hb); (try clear hb2); (try clear hk); (try clear hi); obtain ⟨⟨hcz9_0, hcz9_1, hcz9_2, hcz9_3, hcz9_4, hcz9_5, hcz9_6, hcz9_7, hcz9_8, hcz9_9⟩, hfz9_0, hfz9_1, hfz9_2, hfz9_3, hfz9_4, hfz9_5, hfz9_6, hfz9_7, hfz9_8, hfz9_9⟩ := row10 BK511.out) | ((with_reducible refine gate_callee (f := 45) rfl ?_); refine goesL_ (some 10) rfl rfl Tryd.func45 (by kernel_rfl) rfl #[.agg #[.int .i64 a0_0, .int .i64 a0_1, .slice A0_2 l0_2.length c0_2, .slice A0_3 l0_3.length c0_3, .slice A0_4 l0_4.length c0_4, .slice A0_5 l0_5.length c0_5, .slice A0_6 l0_6.length c0_6, .slice A0_7 l0_7.length c0_7, .slice A0_8 l0_8.length c0_8, .int .i64 a0_9], .int .i64 a1] rfl gl_ ?_; (with_reducible refine (spec_l11Part.calls k a0_0 a0_1 _ _ l0_2 _ _ l0_3 _ _ l0_4 _ _ l0_5 _ _ l0_6 _ _ l0_7 _ _ l0_8 a0_9 a1 t513 _ ?side1 ?side2 ?side3 ?side4 ?side5 ?side6 ?side7 ?side8 ?side9 ?side10 ?side11 ?side12 ?side13 ?side14 A5.out).mono ?_); (case side1 => exact cN (Kd.C_below HR0_2.out HB.out)); (case side2 => exact HC0_2.out); (case side3 => exact cN (Kd.C_below HR0_3.out HB.out)); (case side4 => exact HC0_3.out); (case side5 => exact cN (Kd.C_below HR0_4.out HB.out)); (case side6 => exact HC0_4.out); (case side7 => exact cN (Kd.C_below HR0_5.out HB.out)); (case side8 => exact HC0_5.out); (case side9 => exact cN (Kd.C_below HR0_6.out HB.out)); (case side10 => exact HC0_6.out); (case side11 => exact cN (Kd.C_below HR0_7.out HB.out)); (case side12 => exact HC0_7.out); (case side13 => exact cN (Kd.C_below HR0_8.out HB.out)); (case side14 => exact HC0_8.out); rintro e w10 ⟨rfl, hb⟩; refine ⟨_, rfl, ?_⟩; have n0_ := m_ (blk_below (kN BK511.out) hb); have n1_ := m_ (below_step (bN HB.out) hb); clear BK511 HB; have BK511 := n0_; have HB := n1_; clear n0_ n1_; (try clear hb); (try clear hb2); (try clear hk); (try clear hi)))
  go_ret
  exact ⟨rf_, (hB1 HB.out GE511.out)⟩
 ·rw [if_neg c4] at H
  have c4b0 : (t512 == 0) = false := beq_eq_false_iff_ne.mpr c4
  have c4b1 : (t512 != 0) = true := bne_iff_ne.mpr c4
  obtain rfl := Option.some.inj H
  go_enter Tryd.func20, Tryd.ntmps20
  go_wp2_with (first | ((with_reducible refine gate_dst (N := 2) rfl ?_); refine box_event ?hg (N := 2) ?hd (cs := #[.int .i64 a0_0, .int .i64 a0_1, .slice A0_2 l0_2.length c0_2, .slice A0_3 l0_3.length c0_3, .slice A0_4 l0_4.length c0_4, .slice A0_5 l0_5.length c0_5, .slice A0_6 l0_6.length c0_6, .slice A0_7 l0_7.length c0_7, .slice A0_8 l0_8.length c0_8, .int .i64 a0_9]) (t := 32) ?hr ?_; (case hd => rfl); (case hg => rfl); (case hr => first | (go_simp; done) | (go_simp; rfl)); intro gb511 hg w11 hbox hb; have n0_ := m_ (below_step (bN HB.out) hb); have n1_ := m_ (hbox); have n2_ := m_ ((by rw [hg]; exact (below_size (bN HB.out)) : w.heap.size ≤ gb511)); have n3_ := m_ ((by rw [hg]; exact (below_size (bN HB.out)) : w.heap.size ≤ gb511)); clear HB; have HB := n0_; have BK511 := n1_; have GW511 := n2_; have GE511 := n3_; clear n0_ n1_ n2_ n3_ hb hbox hg; obtain ⟨⟨hcz12_0, hcz12_1, hcz12_2, hcz12_3, hcz12_4, hcz12_5, hcz12_6, hcz12_7, hcz12_8, hcz12_9⟩, hfz12_0, hfz12_1, hfz12_2, hfz12_3, hfz12_4, hfz12_5, hfz12_6, hfz12_7, hfz12_8, hfz12_9⟩ := row10 BK511.out) | ((with_reducible refine gate_callee (f := 16) rfl ?_); refine goesL_ (some 6) rfl rfl Tryd.func16 (by kernel_rfl) rfl #[.agg #[.int .i64 a0_0, .int .i64 a0_1, .slice A0_2 l0_2.length c0_2, .slice A0_3 l0_3.length c0_3, .slice A0_4 l0_4.length c0_4, .slice A0_5 l0_5.length c0_5, .slice A0_6 l0_6.length c0_6, .slice A0_7 l0_7.length c0_7, .slice A0_8 l0_8.length c0_8, .int .i64 a0_9]] rfl gl_ ?_; (with_reducible refine (spec_ConfCheck.calls k a0_0 a0_1 _ _ l0_2 _ _ l0_3 _ _ l0_4 _ _ l0_5 _ _ l0_6 _ _ l0_7 _ _ l0_8 a0_9 t512 _ ?side1 ?side2 ?side3 ?side4 ?side5 ?side6 ?side7 ?side8 ?side9 ?side10 ?side11 ?side12 ?side13 ?side14 A3.out).mono ?_); (case side1 => exact cN (Kd.C_below HR0_2.out HB.out)); (case side2 => exact HC0_2.out); (case side3 => exact cN (Kd.C_below HR0_3.out HB.out)); (case side4 => exact HC0_3.out); (case side5 => exact cN (Kd.C_below HR0_4.out HB.out)); (case side6 => exact HC0_4.out); (case side7 => exact cN (Kd.C_below HR0_5.out HB.out)); (case side8 => exact HC0_5.out); (case side9 => exact cN (Kd.C_below HR0_6.out HB.out)); (case side10 => exact HC0_6.out); (case side11 => exact cN (Kd.C_below HR0_7.out HB.out)); (case side12 => exact HC0_7.out); (case side13 => exact cN (Kd.C_below HR0_8.out HB.out)); (case side14 => exact HC0_8.out); rintro e w13 ⟨rfl, hb⟩; refine ⟨_, rfl, ?_⟩; have n0_ := m_ (blk_below (kN BK511.out) hb); have n1_ := m_ (below_step (bN HB.out) hb); clear BK511 HB; have BK511 := n0_; have HB := n1_; clear n0_ n1_; (try clear hb); (try clear hb2); (try clear hk); (try clear hi)))
  go_ret
  exact ⟨rf_, (hB1 HB.out GE511.out)⟩

end Go.Proofs.YtcenmlpfbpogoaaDoor.P
