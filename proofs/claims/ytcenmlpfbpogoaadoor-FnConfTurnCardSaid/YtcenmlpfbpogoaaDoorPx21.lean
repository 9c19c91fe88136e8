/- The machine side of these statements, function by function: what each Go function answers (as a Lean function), and that it does. Written by a program (mp.py) for this claim. -/
import Derived.Test.YtcenmlpfbpogoaaDoorPx0
import Derived.Test.YtcenmlpfbpogoaaDoorPx1
import Derived.Test.YtcenmlpfbpogoaaDoorPx6
import Derived.Test.YtcenmlpfbpogoaaDoorPx10
import Derived.Test.YtcenmlpfbpogoaaDoorPx11
import Derived.Test.YtcenmlpfbpogoaaDoorPx14
import Derived.Test.YtcenmlpfbpogoaaDoorPx15
import Derived.Test.YtcenmlpfbpogoaaDoorPx20
namespace Go.Proofs.YtcenmlpfbpogoaaDoor.P
open Go.RowKit Go.Proofs.YtcenmlpfbpogoaaDoorW.PrintWords Go.Proofs.YtcenmlpfbpogoaaDoorW.PrintLast Go.Proofs.YtcenmlpfbpogoaaDoorW.PrintMore
attribute [local go_sem] max2_int min2_int max_two min_two max_three min_three max_four min_four   -- for this text's walks alone
set_option linter.unusedVariables false
set_option linter.unusedSimpArgs false

/-! ### spec_DrawConfTurn: function 21 -/
def spec_DrawConfTurn.f (k : Nat) (l0 : List Int) : Option (Int × Int × (List (List (S107))) × List Int × List Int × List Int × List Int × List Int × (List (S78)) × Int × Int × Int) := (spec_l1Open.f l0).bind fun bt557 => ((spec_l15AnyConf.f k bt557.1 bt557.2).bind fun bt560 => ((some (([0, 1, 2] : List Int) : List Int)).bind fun y586 => ((spec_l1Rd_pick.f k bt557.1 bt560.2.2.2.2.2.2.2.2.2.2 9).bind fun bt589 => (if 0 ≤ (wrap64 (Int.tdiv (wrap64 (bt589.1 * 3)) 9)) then (if (wrap64 (Int.tdiv (wrap64 (bt589.1 * 3)) 9)) < (y586.length : Int) then ((spec_l1Rd_pick.f k bt557.1 bt589.2 (wrap64 ((bt560.2.2.2.2.2.1.length : Int) + 2))).bind fun bt592 => (some (bt560.1, bt560.2.1, bt560.2.2.1, bt560.2.2.2.1, bt560.2.2.2.2.1, bt560.2.2.2.2.2.1, bt560.2.2.2.2.2.2.1, bt560.2.2.2.2.2.2.2.1, bt560.2.2.2.2.2.2.2.2.1, bt560.2.2.2.2.2.2.2.2.2.1, rd y586 (wrap64 (Int.tdiv (wrap64 (bt589.1 * 3)) 9)), wrap64 (bt592.1 - 1)))) else (none)) else (none)))))
theorem spec_DrawConfTurn.mono : ∀ a0 k, LeO (spec_DrawConfTurn.f k a0) (spec_DrawConfTurn.f (k + 1) a0) := by
 intro a0 k
 unfold spec_DrawConfTurn.f
 repeat' first
   | (with_reducible exact spec_l15AnyConf.mono _ _ _)
   | (with_reducible exact spec_l1Rd_pick.mono _ _ _ _)
   | (with_reducible exact LeO.refl _)
   | (with_reducible exact LeO.none _)
   | (with_reducible refine LeO.ite ?_ ?_)
   | (with_reducible refine LeO.bind ?_ (fun _ => ?_))
   | exact spec_l15AnyConf.mono _ _ _
   | exact spec_l1Rd_pick.mono _ _ _ _
   | exact LeO.none _
   | refine LeO.ite ?_ ?_
   | refine LeO.bind ?_ (fun _ => ?_)
def spec_DrawConfTurn.T3 : Bool × List (List Nat × List Nat) := (true, [([], []), ([], []), ([], []), ([2], [2]), ([3], [3]), ([4], [4]), ([1, 5], [1, 5]), ([6], [6]), ([], []), ([], []), ([9], [9]), ([10], [10]), ([11], [11]), ([8, 12, 3], [8, 12]), ([13], [13]), ([0, 13, 0], [0]), ([7, 15, 0, 1, 2, 3, 4, 5, 6, 7, 15], [7]), ([14, 16, 0, 1, 2, 3, 4, 5, 6, 7, 8, 9, 10, 11, 12, 13, 14, 15, 16], [14])])
def spec_DrawConfTurn.B3 : List Nat := [0, 0, 0, 4, 12, 28, 62, 126, 0, 0, 512, 1536, 3584, 7948, 16140, 16141, 49151, 131071]
theorem spec_DrawConfTurn.tab3 : rtab .any (opsOf Tryd.f21 3) = spec_DrawConfTurn.T3 := by kernel_rfl
theorem spec_DrawConfTurn.bits3 : waitsOk spec_DrawConfTurn.T3.2 spec_DrawConfTurn.B3 = true := by kernel_rfl
set_option maxHeartbeats 8000000 in
set_option maxRecDepth 100000 in
theorem spec_DrawConfTurn.calls (k : Nat) (A0 : Option Addr) (c0 : Nat) (l0 : List Int) (r1 : Int) (r2 : Int) (r3 : List (List (S107))) (r4 : List Int) (r5 : List Int) (r6 : List Int) (r7 : List Int) (r8 : List Int) (r9 : List (S78)) (r10 : Int) (r11 : Int) (r12 : Int) (w : World) (hr0 : Kd.C (Kd.int .u8) w A0 l0.length l0) (hc0 : l0.length ≤ c0) (h : spec_DrawConfTurn.f k l0 = some (r1, r2, r3, r4, r5, r6, r7, r8, r9, r10, r11, r12)) :
  Calls Tryd.prog 21 #[.slice A0 l0.length c0] w fun e w' => ∃ v2_ v3_ v4_ v5_ v6_ v7_ v8_ : Value, e = .returned (.tuple #[.agg #[.int .i64 r1, .int .i64 r2, v2_, v3_, v4_, v5_, v6_, v7_, v8_, .int .i64 r10], .int .i64 r11, .int .i64 r12]) ∧ Kd.N (Kd.slice 107 k107) 75 w' w.heap.size (fun k_ => (w.heap.size ≤ k_) ∧ some k_ ≠ (v3_ : Value).ownBlock ∧ some k_ ≠ (v4_ : Value).ownBlock ∧ some k_ ≠ (v5_ : Value).ownBlock ∧ some k_ ≠ (v6_ : Value).ownBlock ∧ some k_ ≠ (v7_ : Value).ownBlock ∧ some k_ ≠ (v8_ : Value).ownBlock) v2_ r3 ∧ Kd.R (Kd.int .i64) 3 w' w.heap.size (fun k_ => (w.heap.size ≤ k_) ∧ some k_ ≠ (v4_ : Value).ownBlock ∧ some k_ ≠ (v5_ : Value).ownBlock ∧ some k_ ≠ (v6_ : Value).ownBlock ∧ some k_ ≠ (v7_ : Value).ownBlock) v3_ r4 ∧ Kd.R (Kd.int .i64) 3 w' w.heap.size (fun k_ => (w.heap.size ≤ k_) ∧ some k_ ≠ (v3_ : Value).ownBlock ∧ some k_ ≠ (v5_ : Value).ownBlock ∧ some k_ ≠ (v6_ : Value).ownBlock ∧ some k_ ≠ (v7_ : Value).ownBlock) v4_ r5 ∧ Kd.R (Kd.int .i64) 3 w' w.heap.size (fun k_ => (w.heap.size ≤ k_) ∧ some k_ ≠ (v3_ : Value).ownBlock ∧ some k_ ≠ (v4_ : Value).ownBlock ∧ some k_ ≠ (v6_ : Value).ownBlock ∧ some k_ ≠ (v7_ : Value).ownBlock) v5_ r6 ∧ Kd.R (Kd.int .i64) 3 w' w.heap.size (fun k_ => (w.heap.size ≤ k_) ∧ some k_ ≠ (v3_ : Value).ownBlock ∧ some k_ ≠ (v4_ : Value).ownBlock ∧ some k_ ≠ (v5_ : Value).ownBlock ∧ some k_ ≠ (v7_ : Value).ownBlock) v6_ r7 ∧ Kd.R (Kd.int .i64) 3 w' w.heap.size (fun k_ => (w.heap.size ≤ k_) ∧ some k_ ≠ (v3_ : Value).ownBlock ∧ some k_ ≠ (v4_ : Value).ownBlock ∧ some k_ ≠ (v5_ : Value).ownBlock ∧ some k_ ≠ (v6_ : Value).ownBlock) v7_ r8 ∧ Kd.R k78 78 w' w.heap.size (fun k_ => (w.heap.size ≤ k_)) v8_ r9 ∧ Below w.heap.size w w' := by
 have hu32 := Tryd.underlying32
 have HR0 := Aside0.mk hr0
 have HC0 := Aside0.mk hc0
 clear hr0 hc0
 have HB := m_ (Below.refl w.heap.size w)
 have H : ((spec_l1Open.f l0).bind fun bt557 => ((spec_l15AnyConf.f k bt557.1 bt557.2).bind fun bt560 => ((some (([0, 1, 2] : List Int) : List Int)).bind fun y586 => ((spec_l1Rd_pick.f k bt557.1 bt560.2.2.2.2.2.2.2.2.2.2 9).bind fun bt589 => (if 0 ≤ (wrap64 (Int.tdiv (wrap64 (bt589.1 * 3)) 9)) then (if (wrap64 (Int.tdiv (wrap64 (bt589.1 * 3)) 9)) < (y586.length : Int) then ((spec_l1Rd_pick.f k bt557.1 bt589.2 (wrap64 ((bt560.2.2.2.2.2.1.length : Int) + 2))).bind fun bt592 => (some (bt560.1, bt560.2.1, bt560.2.2.1, bt560.2.2.2.1, bt560.2.2.2.2.1, bt560.2.2.2.2.2.1, bt560.2.2.2.2.2.2.1, bt560.2.2.2.2.2.2.2.1, bt560.2.2.2.2.2.2.2.2.1, bt560.2.2.2.2.2.2.2.2.2.1, rd y586 (wrap64 (Int.tdiv (wrap64 (bt589.1 * 3)) 9)), wrap64 (bt592.1 - 1)))) else (none)) else (none)))))) = some (r1, r2, r3, r4, r5, r6, r7, r8, r9, r10, r11, r12) := h
 clear h
 replace H := Option.bind_eq_some_iff.mp H
 obtain ⟨⟨t557, t558⟩, A20, H⟩ := H
 replace H : ((spec_l15AnyConf.f k t557 t558).bind fun bt560 => ((some (([0, 1, 2] : List Int) : List Int)).bind fun y586 => ((spec_l1Rd_pick.f k t557 bt560.2.2.2.2.2.2.2.2.2.2 9).bind fun bt589 => (if 0 ≤ (wrap64 (Int.tdiv (wrap64 (bt589.1 * 3)) 9)) then (if (wrap64 (Int.tdiv (wrap64 (bt589.1 * 3)) 9)) < (y586.length : Int) then ((spec_l1Rd_pick.f k t557 bt589.2 (wrap64 ((bt560.2.2.2.2.2.1.length : Int) + 2))).bind fun bt592 => (some (bt560.1, bt560.2.1, bt560.2.2.1, bt560.2.2.2.1, bt560.2.2.2.2.1, bt560.2.2.2.2.2.1, bt560.2.2.2.2.2.2.1, bt560.2.2.2.2.2.2.2.1, bt560.2.2.2.2.2.2.2.2.1, bt560.2.2.2.2.2.2.2.2.2.1, rd y586 (wrap64 (Int.tdiv (wrap64 (bt589.1 * 3)) 9)), wrap64 (bt592.1 - 1)))) else (none)) else (none))))) = some (r1, r2, r3, r4, r5, r6, r7, r8, r9, r10, r11, r12) := H
 have A2 := Aside0.mk A20
 clear A20
 replace H := Option.bind_eq_some_iff.mp H
 obtain ⟨⟨t560, t561, t562, t565, t568, t571, t574, t577, t580, t583, t584⟩, A30, H⟩ := H
 replace H : ((some (([0, 1, 2] : List Int) : List Int)).bind fun y586 => ((spec_l1Rd_pick.f k t557 t584 9).bind fun bt589 => (if 0 ≤ (wrap64 (Int.tdiv (wrap64 (bt589.1 * 3)) 9)) then (if (wrap64 (Int.tdiv (wrap64 (bt589.1 * 3)) 9)) < (y586.length : Int) then ((spec_l1Rd_pick.f k t557 bt589.2 (wrap64 ((t571.length : Int) + 2))).bind fun bt592 => (some (t560, t561, t562, t565, t568, t571, t574, t577, t580, t583, rd y586 (wrap64 (Int.tdiv (wrap64 (bt589.1 * 3)) 9)), wrap64 (bt592.1 - 1)))) else (none)) else (none)))) = some (r1, r2, r3, r4, r5, r6, r7, r8, r9, r10, r11, r12) := H
 have A3 := Aside0.mk A30
 clear A30
 obtain ⟨y586, hy586⟩ : ∃ y_ : List Int, y_ = (([0, 1, 2] : List Int)) := ⟨_, rfl⟩
 replace H : ((spec_l1Rd_pick.f k t557 t584 9).bind fun bt589 => (if 0 ≤ (wrap64 (Int.tdiv (wrap64 (bt589.1 * 3)) 9)) then (if (wrap64 (Int.tdiv (wrap64 (bt589.1 * 3)) 9)) < (y586.length : Int) then ((spec_l1Rd_pick.f k t557 bt589.2 (wrap64 ((t571.length : Int) + 2))).bind fun bt592 => (some (t560, t561, t562, t565, t568, t571, t574, t577, t580, t583, rd y586 (wrap64 (Int.tdiv (wrap64 (bt589.1 * 3)) 9)), wrap64 (bt592.1 - 1)))) else (none)) else (none))) = some (r1, r2, r3, r4, r5, r6, r7, r8, r9, r10, r11, r12) := by first | (rw [hy586]; with_reducible exact H) | (have H2_ := (Option.bind_some _ _).symm.trans H; rw [hy586]; with_reducible exact H2_) | (have H2_ := (Option.bind_some _ _).symm.trans H; with_reducible exact H2_) | with_reducible exact H | (rw [hy586]; exact H) | exact H
 have Ny586 := Aside0.mk hy586
 clear hy586
 replace H := Option.bind_eq_some_iff.mp H
 obtain ⟨⟨t589, t590⟩, A40, H⟩ := H
 replace H : (if 0 ≤ (wrap64 (Int.tdiv (wrap64 (t589 * 3)) 9)) then (if (wrap64 (Int.tdiv (wrap64 (t589 * 3)) 9)) < (y586.length : Int) then ((spec_l1Rd_pick.f k t557 t590 (wrap64 ((t571.length : Int) + 2))).bind fun bt592 => (some (t560, t561, t562, t565, t568, t571, t574, t577, t580, t583, rd y586 (wrap64 (Int.tdiv (wrap64 (t589 * 3)) 9)), wrap64 (bt592.1 - 1)))) else (none)) else (none)) = some (r1, r2, r3, r4, r5, r6, r7, r8, r9, r10, r11, r12) := H
 have A4 := Aside0.mk A40
 clear A40
 obtain ⟨ji5, hji5⟩ : ∃ j_ : Int, (wrap64 (Int.tdiv (wrap64 (t589 * 3)) 9)) = j_ := ⟨_, rfl⟩
 replace H : (if 0 ≤ (ji5) then (if (ji5) < (y586.length : Int) then ((spec_l1Rd_pick.f k t557 t590 (wrap64 ((t571.length : Int) + 2))).bind fun bt592 => (some (t560, t561, t562, t565, t568, t571, t574, t577, t580, t583, rd y586 (ji5), wrap64 (bt592.1 - 1)))) else (none)) else (none)) = some (r1, r2, r3, r4, r5, r6, r7, r8, r9, r10, r11, r12) := by first | (rw [hji5] at H; exact H) | (simp only [hji5] at H ⊢; exact H)
 (try rw [hji5] at A2)
 (try rw [hji5] at A3)
 (try rw [hji5] at A4)
 have hji5w : (IntKind.i64.wrap (Int.tdiv (wrap64 (t589 * 3)) 9)) = ji5 := (i64_w _).trans hji5
 by_cases c6 : 0 ≤ (ji5)
 ·rw [if_pos c6] at H
  have c6b0 : decide (0 ≤ (ji5)) = true := decide_eq_true c6
  clear c6
  by_cases c7 : (ji5) < (y586.length : Int)
  ·rw [if_pos c7] at H
   have c7b0 : decide ((ji5) < (y586.length : Int)) = true := decide_eq_true c7
   clear c7
   replace H := Option.bind_eq_some_iff.mp H
   obtain ⟨⟨t592, t593⟩, A80, H⟩ := H
   replace H : (some (t560, t561, t562, t565, t568, t571, t574, t577, t580, t583, rd y586 (ji5), wrap64 (t592 - 1))) = some (r1, r2, r3, r4, r5, r6, r7, r8, r9, r10, r11, r12) := H
   have A8 := Aside0.mk A80
   clear A80
   simp only [Option.some.injEq, Prod.mk.injEq] at H
   obtain ⟨rfl, rfl, rfl, rfl, rfl, rfl, rfl, rfl, rfl, rfl, rfl, rfl⟩ := H
   go_enter Tryd.func21, Tryd.ntmps21
   try go_wp2_with (first | ((with_reducible refine gate_dst (N := 2) rfl ?_); refine box_event ?hg (N := 2) ?hd (cs := #[.int .i64 0, .int .i64 0, .slice none 0 0, .slice none 0 0, .slice none 0 0, .slice none 0 0, .slice none 0 0, .slice none 0 0, .slice none 0 0, .int .i64 0]) (t := 32) ?hr ?_; (case hd => rfl); (case hg => rfl); (case hr => first | (go_simp; done) | (go_simp; rfl)); intro gb556 hg w9 hbox hb; have n0_ := m_ (below_step (bN HB.out) hb); have n1_ := m_ (hbox); have n2_ := m_ ((by rw [hg]; exact (below_size (bN HB.out)) : w.heap.size ≤ gb556)); have n3_ := m_ ((by rw [hg]; exact (below_size (bN HB.out)) : w.heap.size ≤ gb556)); clear HB; have HB := n0_; have BK556 := n1_; have GW556 := n2_; have GE556 := n3_; clear n0_ n1_ n2_ n3_ hb hbox hg) | ((with_reducible refine gate_callee (f := 35) rfl ?_); refine goesL_ (some 8) rfl rfl Tryd.func35 (by kernel_rfl) rfl #[.slice A0 l0.length c0] rfl gl_ ?_; (with_reducible refine (spec_l1Open.calls _ _ l0 t557 t558 w _ ?side1 ?side2 ?side3 A2.out).mono ?_); (case side1 => exact hB1 HB.out GE556.out); (case side2 => exact HR0.out); (case side3 => exact HC0.out); rintro e w10 ⟨g559, rfl, hi, hb, hb2⟩; refine ⟨_, rfl, ?_⟩; have n0_ := m_ (blk_below (kN BK556.out) hb2); have n1_ := m_ (hb); have n2_ := m_ (hi); have n3_ := m_ (IsS86.ne_blk hi (blk_below (kN BK556.out) hb2) (by decide)); have n4_ := m_ (Ne.symm (IsS86.ne_blk hi (blk_below (kN BK556.out) hb2) (by decide))); clear BK556 HB; have BK556 := n0_; have HB := n1_; have HI559 := n2_; have NB559_556 := n3_; have NB556_559 := n4_; clear n0_ n1_ n2_ n3_ n4_; (try clear hb); (try clear hb2); (try clear hk); (try clear hi)) | ((with_reducible refine gate_callee (f := 34) rfl ?_); refine goesL_ (some 10) rfl rfl Tryd.func34 (by kernel_rfl) rfl #[.pointer (some ⟨g559, 0, none⟩)] rfl gl_ ?_; (with_reducible refine (spec_l15AnyConf.calls k g559 t557 t558 t560 t561 t562 t565 t568 t571 t574 t577 t580 t583 t584 w _ ?side1 ?side2 A3.out).mono ?_); (case side1 => exact hI1 HI559.out NB559_556.out); (case side2 => exact hB2 HB.out (IsS86.ge HI559.out) GE556.out); rintro e w11 ⟨v563, v566, v569, v572, v575, v578, v581, rfl, ho0, ho1, ho2, ho3, ho4, ho5, ho6, hi, hb, hk⟩; refine ⟨_, rfl, ?_⟩; have n0_ := m_ (KeepBut.blk hk (g' := gb556) (o := .cells #[.int .i64 0, .int .i64 0, .slice none 0 0, .slice none 0 0, .slice none 0 0, .slice none 0 0, .slice none 0 0, .slice none 0 0, .slice none 0 0, .int .i64 0] 32 (0, 0)) (kN BK556.out) NB556_559.out (by simp)); have n1_ := m_ (Kd.N_lower (Kd.N_mono (ok' := fun k_ => (w.heap.size ≤ k_) ∧ some k_ ≠ (v566 : Value).ownBlock ∧ some k_ ≠ (v569 : Value).ownBlock ∧ some k_ ≠ (v572 : Value).ownBlock ∧ some k_ ≠ (v575 : Value).ownBlock ∧ some k_ ≠ (v578 : Value).ownBlock ∧ some k_ ≠ (v581 : Value).ownBlock ∧ k_ ≠ gb556 ∧ k_ ≠ g559) ho0 (fun k_ hk_ => ⟨(Nat.le_trans (below_size ((hB2 HB.out (IsS86.ge HI559.out) GE556.out))) hk_.1), hk_.2.1, hk_.2.2.1, hk_.2.2.2.1, hk_.2.2.2.2.1, hk_.2.2.2.2.2.1, hk_.2.2.2.2.2.2, (Kd.freshB (g := gb556) (o := .cells #[.int .i64 0, .int .i64 0, .slice none 0 0, .slice none 0 0, .slice none 0 0, .slice none 0 0, .slice none 0 0, .slice none 0 0, .slice none 0 0, .int .i64 0] 32 (0, 0)) (kN BK556.out) k_ hk_.1), (IsS86.fresh ((hI1 HI559.out NB559_556.out)) k_ hk_.1)⟩)) (below_size ((hB2 HB.out (IsS86.ge HI559.out) GE556.out)))); have n2_ := m_ (Kd.R_lower (Kd.R_newM (M := fun k_ => (w.heap.size ≤ k_)) (Kd.R_mono (ok' := fun k_ => some k_ ≠ (v569 : Value).ownBlock ∧ some k_ ≠ (v572 : Value).ownBlock ∧ some k_ ≠ (v575 : Value).ownBlock ∧ some k_ ≠ (v578 : Value).ownBlock) ho1 (fun _ hk_ => hk_.2)) (below_size ((hB2 HB.out (IsS86.ge HI559.out) GE556.out))) (fun k_ h_ => h_)) (below_size ((hB2 HB.out (IsS86.ge HI559.out) GE556.out)))); have n3_ := m_ (Kd.R_lower (Kd.R_newM (M := fun k_ => (w.heap.size ≤ k_)) (Kd.R_mono (ok' := fun k_ => some k_ ≠ (v566 : Value).ownBlock ∧ some k_ ≠ (v572 : Value).ownBlock ∧ some k_ ≠ (v575 : Value).ownBlock ∧ some k_ ≠ (v578 : Value).ownBlock) ho2 (fun _ hk_ => hk_.2)) (below_size ((hB2 HB.out (IsS86.ge HI559.out) GE556.out))) (fun k_ h_ => h_)) (below_size ((hB2 HB.out (IsS86.ge HI559.out) GE556.out)))); have n4_ := m_ (Kd.R_lower (Kd.R_newM (M := fun k_ => (w.heap.size ≤ k_)) (Kd.R_mono (ok' := fun k_ => some k_ ≠ (v566 : Value).ownBlock ∧ some k_ ≠ (v569 : Value).ownBlock ∧ some k_ ≠ (v575 : Value).ownBlock ∧ some k_ ≠ (v578 : Value).ownBlock) ho3 (fun _ hk_ => hk_.2)) (below_size ((hB2 HB.out (IsS86.ge HI559.out) GE556.out))) (fun k_ h_ => h_)) (below_size ((hB2 HB.out (IsS86.ge HI559.out) GE556.out)))); have n5_ := m_ (Kd.R_lower (Kd.R_newM (M := fun k_ => (w.heap.size ≤ k_)) (Kd.R_mono (ok' := fun k_ => some k_ ≠ (v566 : Value).ownBlock ∧ some k_ ≠ (v569 : Value).ownBlock ∧ some k_ ≠ (v572 : Value).ownBlock ∧ some k_ ≠ (v578 : Value).ownBlock) ho4 (fun _ hk_ => hk_.2)) (below_size ((hB2 HB.out (IsS86.ge HI559.out) GE556.out))) (fun k_ h_ => h_)) (below_size ((hB2 HB.out (IsS86.ge HI559.out) GE556.out)))); have n6_ := m_ (Kd.R_lower (Kd.R_newM (M := fun k_ => (w.heap.size ≤ k_)) (Kd.R_mono (ok' := fun k_ => some k_ ≠ (v566 : Value).ownBlock ∧ some k_ ≠ (v569 : Value).ownBlock ∧ some k_ ≠ (v572 : Value).ownBlock ∧ some k_ ≠ (v575 : Value).ownBlock) ho5 (fun _ hk_ => hk_.2)) (below_size ((hB2 HB.out (IsS86.ge HI559.out) GE556.out))) (fun k_ h_ => h_)) (below_size ((hB2 HB.out (IsS86.ge HI559.out) GE556.out)))); have n7_ := m_ (Kd.R_lower (Kd.R_newM (M := fun k_ => (w.heap.size ≤ k_)) (Kd.R_mono (ok' := fun k_ => True) ho6 (fun _ hk_ => trivial)) (below_size ((hB2 HB.out (IsS86.ge HI559.out) GE556.out))) (fun k_ h_ => h_)) (below_size ((hB2 HB.out (IsS86.ge HI559.out) GE556.out)))); have n8_ := m_ (hb); have n9_ := m_ (hi); clear BK556 HB HI559; have BK556 := n0_; have HO564 := n1_; have HO567 := n2_; have HO570 := n3_; have HO573 := n4_; have HO576 := n5_; have HO579 := n6_; have HO582 := n7_; have HB := n8_; have HI559 := n9_; clear n0_ n1_ n2_ n3_ n4_ n5_ n6_ n7_ n8_ n9_; (try clear hb); (try clear hb2); (try clear hk); (try clear hi); (try clear ho0); (try clear ho1); (try clear ho2); (try clear ho3); (try clear ho4); (try clear ho5); (try clear ho6)) | ((with_reducible refine gate_dst (N := 6) rfl ?_); refine box_event ?hg (N := 6) ?hd (cs := #[.int .i64 0, .int .i64 0, .slice none 0 0, .slice none 0 0, .slice none 0 0, .slice none 0 0, .slice none 0 0, .slice none 0 0, .slice none 0 0, .int .i64 0]) (t := 32) ?hr ?_; (case hd => rfl); (case hg => rfl); (case hr => first | (go_simp; done) | (go_simp; rfl)); intro gb585 hg w12 hbox hb; have n0_ := m_ (Kd.N_below (Kd.N_elderB (by (with_reducible repeat (first | apply Kd.N_alloc | apply Kd.N_drewN | apply Kd.N_drew)); exact HO564.out) gb585 (Nat.le_of_eq hg.symm)) hb); have n1_ := m_ (Kd.R_below (rN HO567.out) hb); have n2_ := m_ (Kd.R_below (rN HO570.out) hb); have n3_ := m_ (Kd.R_below (rN HO573.out) hb); have n4_ := m_ (Kd.R_below (rN HO576.out) hb); have n5_ := m_ (Kd.R_below (rN HO579.out) hb); have n6_ := m_ (Kd.R_below (rN HO582.out) hb); have n7_ := m_ (blk_below (kN BK556.out) hb); have n8_ := m_ (IsS86.below ((hI1 HI559.out NB559_556.out)) hb); have n9_ := m_ (below_step ((hB2 HB.out (IsS86.ge HI559.out) GE556.out)) hb); have n10_ := m_ (hbox); have n11_ := m_ ((by rw [hg]; exact (below_size ((hB2 HB.out (IsS86.ge HI559.out) GE556.out))) : w.heap.size ≤ gb585)); have n12_ := m_ ((by rw [hg]; exact (below_size ((hB2 HB.out (IsS86.ge HI559.out) GE556.out))) : w.heap.size ≤ gb585)); have n13_ := m_ (nL hg BK556.out); have n14_ := m_ (nG hg BK556.out); have n15_ := m_ ((by rw [hg]; exact Nat.ne_of_lt (IsS86.lt (show IsS86 w _ g559 t557 t584 from (hI1 HI559.out NB559_556.out))) : g559 ≠ gb585)); have n16_ := m_ ((by rw [hg]; exact Nat.ne_of_gt (IsS86.lt (show IsS86 w _ g559 t557 t584 from (hI1 HI559.out NB559_556.out))) : gb585 ≠ g559)); clear HO564 HO567 HO570 HO573 HO576 HO579 HO582 BK556 HI559 HB; have HO564 := n0_; have HO567 := n1_; have HO570 := n2_; have HO573 := n3_; have HO576 := n4_; have HO579 := n5_; have HO582 := n6_; have BK556 := n7_; have HI559 := n8_; have HB := n9_; have BK585 := n10_; have GW585 := n11_; have GE585 := n12_; have NB556_585 := n13_; have NB585_556 := n14_; have NB559_585 := n15_; have NB585_559 := n16_; clear n0_ n1_ n2_ n3_ n4_ n5_ n6_ n7_ n8_ n9_ n10_ n11_ n12_ n13_ n14_ n15_ n16_ hb hbox hg; have hnb13 := NB585_556.out; have hnc13 := NB556_585.out; have hnb14 := NB585_559.out; have hnc14 := NB559_585.out; obtain ⟨⟨hcz15_0, hcz15_1, hcz15_2, hcz15_3, hcz15_4, hcz15_5, hcz15_6, hcz15_7, hcz15_8, hcz15_9⟩, hfz15_0, hfz15_1, hfz15_2, hfz15_3, hfz15_4, hfz15_5, hfz15_6, hfz15_7, hfz15_8, hfz15_9⟩ := row10 BK585.out; obtain ⟨Ao16, co16, eo16⟩ := Kd.N_slice HO564.out; subst eo16; obtain ⟨Ao17, co17, eo17⟩ := Kd.R_slice HO567.out; subst eo17; obtain ⟨Ao18, co18, eo18⟩ := Kd.R_slice HO570.out; subst eo18; obtain ⟨Ao19, co19, eo19⟩ := Kd.R_slice HO573.out; subst eo19; obtain ⟨Ao20, co20, eo20⟩ := Kd.R_slice HO576.out; subst eo20; obtain ⟨Ao21, co21, eo21⟩ := Kd.R_slice HO579.out; subst eo21; obtain ⟨Ao22, co22, eo22⟩ := Kd.R_slice HO582.out; subst eo22))
   have pi591 : (0 ≤ ((ji5) : Int)) = True := eq_true (of_decide_eq_true (by first | (with_reducible assumption) | assumption))
   have qi591 : ((ji5) < (y586.length : Int)) = True := eq_true (of_decide_eq_true (by first | (with_reducible assumption) | assumption))
   have n0_ : Aside0 (Kd.N (Kd.slice 107 k107) 75 ((((((((((w12.setCell ⟨gb585, 0, none⟩ (.int .i64 t560)).setCell ⟨gb585, 1, none⟩ (.int .i64 t561)).setCell ⟨gb585, 2, none⟩ (.slice Ao16 t562.length co16)).setCell ⟨gb585, 3, none⟩ (.slice Ao17 t565.length co17)).setCell ⟨gb585, 4, none⟩ (.slice Ao18 t568.length co18)).setCell ⟨gb585, 5, none⟩ (.slice Ao19 t571.length co19)).setCell ⟨gb585, 6, none⟩ (.slice Ao20 t574.length co20)).setCell ⟨gb585, 7, none⟩ (.slice Ao21 t577.length co21)).setCell ⟨gb585, 8, none⟩ (.slice Ao22 t580.length co22)).setCell ⟨gb585, 9, none⟩ (.int .i64 t583)) w.heap.size (fun k_ => (w.heap.size ≤ k_) ∧ nb Ao17 t565.length co17 k_ ∧ nb Ao18 t568.length co18 k_ ∧ nb Ao19 t571.length co19 k_ ∧ nb Ao20 t574.length co20 k_ ∧ nb Ao21 t577.length co21 k_ ∧ nb Ao22 t580.length co22 k_ ∧ k_ ≠ gb556 ∧ k_ ≠ g559 ∧ k_ ≠ gb585) (.slice Ao16 t562.length co16) t562) := ⟨by (with_reducible repeat (first | apply Kd.N_alloc | apply Kd.N_drewN | apply Kd.N_drew)); exact Kd.N_mono (Kd.N_far (p := ⟨gb585, 9, none⟩) (Kd.N_far (p := ⟨gb585, 8, none⟩) (Kd.N_far (p := ⟨gb585, 7, none⟩) (Kd.N_far (p := ⟨gb585, 6, none⟩) (Kd.N_far (p := ⟨gb585, 5, none⟩) (Kd.N_far (p := ⟨gb585, 4, none⟩) (Kd.N_far (p := ⟨gb585, 3, none⟩) (Kd.N_far (p := ⟨gb585, 2, none⟩) (Kd.N_far (p := ⟨gb585, 1, none⟩) (Kd.N_far (p := ⟨gb585, 0, none⟩) (Kd.N_mono HO564.out (fun k_ hk => (⟨hk, hk.2⟩ : _ ∧ k_ ≠ gb585))) (fun _ hk => hk.2) (.int .i64 t560)) (fun _ hk => hk.2) (.int .i64 t561)) (fun _ hk => hk.2) (.slice Ao16 t562.length co16)) (fun _ hk => hk.2) (.slice Ao17 t565.length co17)) (fun _ hk => hk.2) (.slice Ao18 t568.length co18)) (fun _ hk => hk.2) (.slice Ao19 t571.length co19)) (fun _ hk => hk.2) (.slice Ao20 t574.length co20)) (fun _ hk => hk.2) (.slice Ao21 t577.length co21)) (fun _ hk => hk.2) (.slice Ao22 t580.length co22)) (fun _ hk => hk.2) (.int .i64 t583)) (fun _ hk => ⟨hk.1.1.1, ⟨hk.1.1.2.1, ⟨hk.1.1.2.2.1, ⟨hk.1.1.2.2.2.1, ⟨hk.1.1.2.2.2.2.1, ⟨hk.1.1.2.2.2.2.2.1, ⟨hk.1.1.2.2.2.2.2.2.1, ⟨hk.1.1.2.2.2.2.2.2.2.1, ⟨hk.1.1.2.2.2.2.2.2.2.2, hk.1.2⟩⟩⟩⟩⟩⟩⟩⟩⟩)⟩
   have n1_ : Aside0 (Kd.R (Kd.int .i64) 3 ((((((((((w12.setCell ⟨gb585, 0, none⟩ (.int .i64 t560)).setCell ⟨gb585, 1, none⟩ (.int .i64 t561)).setCell ⟨gb585, 2, none⟩ (.slice Ao16 t562.length co16)).setCell ⟨gb585, 3, none⟩ (.slice Ao17 t565.length co17)).setCell ⟨gb585, 4, none⟩ (.slice Ao18 t568.length co18)).setCell ⟨gb585, 5, none⟩ (.slice Ao19 t571.length co19)).setCell ⟨gb585, 6, none⟩ (.slice Ao20 t574.length co20)).setCell ⟨gb585, 7, none⟩ (.slice Ao21 t577.length co21)).setCell ⟨gb585, 8, none⟩ (.slice Ao22 t580.length co22)).setCell ⟨gb585, 9, none⟩ (.int .i64 t583)) w.heap.size (fun k_ => (w.heap.size ≤ k_) ∧ nb Ao18 t568.length co18 k_ ∧ nb Ao19 t571.length co19 k_ ∧ nb Ao20 t574.length co20 k_ ∧ nb Ao21 t577.length co21 k_) (.slice Ao17 t565.length co17) t565) := ⟨frM (Kd.R_types HO567.out BK585.out (by decide))⟩
   have n2_ : Aside0 (Kd.R (Kd.int .i64) 3 ((((((((((w12.setCell ⟨gb585, 0, none⟩ (.int .i64 t560)).setCell ⟨gb585, 1, none⟩ (.int .i64 t561)).setCell ⟨gb585, 2, none⟩ (.slice Ao16 t562.length co16)).setCell ⟨gb585, 3, none⟩ (.slice Ao17 t565.length co17)).setCell ⟨gb585, 4, none⟩ (.slice Ao18 t568.length co18)).setCell ⟨gb585, 5, none⟩ (.slice Ao19 t571.length co19)).setCell ⟨gb585, 6, none⟩ (.slice Ao20 t574.length co20)).setCell ⟨gb585, 7, none⟩ (.slice Ao21 t577.length co21)).setCell ⟨gb585, 8, none⟩ (.slice Ao22 t580.length co22)).setCell ⟨gb585, 9, none⟩ (.int .i64 t583)) w.heap.size (fun k_ => (w.heap.size ≤ k_) ∧ nb Ao17 t565.length co17 k_ ∧ nb Ao19 t571.length co19 k_ ∧ nb Ao20 t574.length co20 k_ ∧ nb Ao21 t577.length co21 k_) (.slice Ao18 t568.length co18) t568) := ⟨frM (Kd.R_types HO570.out BK585.out (by decide))⟩
   have n3_ : Aside0 (Kd.R (Kd.int .i64) 3 ((((((((((w12.setCell ⟨gb585, 0, none⟩ (.int .i64 t560)).setCell ⟨gb585, 1, none⟩ (.int .i64 t561)).setCell ⟨gb585, 2, none⟩ (.slice Ao16 t562.length co16)).setCell ⟨gb585, 3, none⟩ (.slice Ao17 t565.length co17)).setCell ⟨gb585, 4, none⟩ (.slice Ao18 t568.length co18)).setCell ⟨gb585, 5, none⟩ (.slice Ao19 t571.length co19)).setCell ⟨gb585, 6, none⟩ (.slice Ao20 t574.length co20)).setCell ⟨gb585, 7, none⟩ (.slice Ao21 t577.length co21)).setCell ⟨gb585, 8, none⟩ (.slice Ao22 t580.length co22)).setCell ⟨gb585, 9, none⟩ (.int .i64 t583)) w.heap.size (fun k_ => (w.heap.size ≤ k_) ∧ nb Ao17 t565.length co17 k_ ∧ nb Ao18 t568.length co18 k_ ∧ nb Ao20 t574.length co20 k_ ∧ nb Ao21 t577.length co21 k_) (.slice Ao19 t571.length co19) t571) := ⟨frM (Kd.R_types HO573.out BK585.out (by decide))⟩
   have n4_ : Aside0 (Kd.R (Kd.int .i64) 3 ((((((((((w12.setCell ⟨gb585, 0, none⟩ (.int .i64 t560)).setCell ⟨gb585, 1, none⟩ (.int .i64 t561)).setCell ⟨gb585, 2, none⟩ (.slice Ao16 t562.length co16)).setCell ⟨gb585, 3, none⟩ (.slice Ao17 t565.length co17)).setCell ⟨gb585, 4, none⟩ (.slice Ao18 t568.length co18)).setCell ⟨gb585, 5, none⟩ (.slice Ao19 t571.length co19)).setCell ⟨gb585, 6, none⟩ (.slice Ao20 t574.length co20)).setCell ⟨gb585, 7, none⟩ (.slice Ao21 t577.length co21)).setCell ⟨gb585, 8, none⟩ (.slice Ao22 t580.length co22)).setCell ⟨gb585, 9, none⟩ (.int .i64 t583)) w.heap.size (fun k_ => (w.heap.size ≤ k_) ∧ nb Ao17 t565.length co17 k_ ∧ nb Ao18 t568.length co18 k_ ∧ nb Ao19 t571.length co19 k_ ∧ nb Ao21 t577.length co21 k_) (.slice Ao20 t574.length co20) t574) := ⟨frM (Kd.R_types HO576.out BK585.out (by decide))⟩
   have n5_ : Aside0 (Kd.R (Kd.int .i64) 3 ((((((((((w12.setCell ⟨gb585, 0, none⟩ (.int .i64 t560)).setCell ⟨gb585, 1, none⟩ (.int .i64 t561)).setCell ⟨gb585, 2, none⟩ (.slice Ao16 t562.length co16)).setCell ⟨gb585, 3, none⟩ (.slice Ao17 t565.length co17)).setCell ⟨gb585, 4, none⟩ (.slice Ao18 t568.length co18)).setCell ⟨gb585, 5, none⟩ (.slice Ao19 t571.length co19)).setCell ⟨gb585, 6, none⟩ (.slice Ao20 t574.length co20)).setCell ⟨gb585, 7, none⟩ (.slice Ao21 t577.length co21)).setCell ⟨gb585, 8, none⟩ (.slice Ao22 t580.length co22)).setCell ⟨gb585, 9, none⟩ (.int .i64 t583)) w.heap.size (fun k_ => (w.heap.size ≤ k_) ∧ nb Ao17 t565.length co17 k_ ∧ nb Ao18 t568.length co18 k_ ∧ nb Ao19 t571.length co19 k_ ∧ nb Ao20 t574.length co20 k_) (.slice Ao21 t577.length co21) t577) := ⟨frM (Kd.R_types HO579.out BK585.out (by decide))⟩
   have n6_ : Aside0 (Kd.R k78 78 ((((((((((w12.setCell ⟨gb585, 0, none⟩ (.int .i64 t560)).setCell ⟨gb585, 1, none⟩ (.int .i64 t561)).setCell ⟨gb585, 2, none⟩ (.slice Ao16 t562.length co16)).setCell ⟨gb585, 3, none⟩ (.slice Ao17 t565.length co17)).setCell ⟨gb585, 4, none⟩ (.slice Ao18 t568.length co18)).setCell ⟨gb585, 5, none⟩ (.slice Ao19 t571.length co19)).setCell ⟨gb585, 6, none⟩ (.slice Ao20 t574.length co20)).setCell ⟨gb585, 7, none⟩ (.slice Ao21 t577.length co21)).setCell ⟨gb585, 8, none⟩ (.slice Ao22 t580.length co22)).setCell ⟨gb585, 9, none⟩ (.int .i64 t583)) w.heap.size (fun k_ => (w.heap.size ≤ k_)) (.slice Ao22 t580.length co22) t580) := ⟨frM (Kd.R_types HO582.out BK585.out (by decide))⟩
   have n7_ : Aside0 (((((((((((w12.setCell ⟨gb585, 0, none⟩ (.int .i64 t560)).setCell ⟨gb585, 1, none⟩ (.int .i64 t561)).setCell ⟨gb585, 2, none⟩ (.slice Ao16 t562.length co16)).setCell ⟨gb585, 3, none⟩ (.slice Ao17 t565.length co17)).setCell ⟨gb585, 4, none⟩ (.slice Ao18 t568.length co18)).setCell ⟨gb585, 5, none⟩ (.slice Ao19 t571.length co19)).setCell ⟨gb585, 6, none⟩ (.slice Ao20 t574.length co20)).setCell ⟨gb585, 7, none⟩ (.slice Ao21 t577.length co21)).setCell ⟨gb585, 8, none⟩ (.slice Ao22 t580.length co22)).setCell ⟨gb585, 9, none⟩ (.int .i64 t583)).heap[gb556]? = some (.cells #[.int .i64 0, .int .i64 0, .slice none 0 0, .slice none 0 0, .slice none 0 0, .slice none 0 0, .slice none 0 0, .slice none 0 0, .slice none 0 0, .int .i64 0] 32 (0, 0))) := ⟨kF BK556.out NB556_585.out⟩
   have n8_ : Aside0 (((((((((((w12.setCell ⟨gb585, 0, none⟩ (.int .i64 t560)).setCell ⟨gb585, 1, none⟩ (.int .i64 t561)).setCell ⟨gb585, 2, none⟩ (.slice Ao16 t562.length co16)).setCell ⟨gb585, 3, none⟩ (.slice Ao17 t565.length co17)).setCell ⟨gb585, 4, none⟩ (.slice Ao18 t568.length co18)).setCell ⟨gb585, 5, none⟩ (.slice Ao19 t571.length co19)).setCell ⟨gb585, 6, none⟩ (.slice Ao20 t574.length co20)).setCell ⟨gb585, 7, none⟩ (.slice Ao21 t577.length co21)).setCell ⟨gb585, 8, none⟩ (.slice Ao22 t580.length co22)).setCell ⟨gb585, 9, none⟩ (.int .i64 t583)).heap[gb585]? = some (.cells #[.int .i64 t560, .int .i64 t561, .slice Ao16 t562.length co16, .slice Ao17 t565.length co17, .slice Ao18 t568.length co18, .slice Ao19 t571.length co19, .slice Ao20 t574.length co20, .slice Ao21 t577.length co21, .slice Ao22 t580.length co22, .int .i64 t583] 32 (0, 0))) := ⟨by (with_reducible repeat (first | refine blk_drewN ?_ _ | refine blk_drew ?_ | refine blk_alloc ?_ _)); apply put10; (with_reducible repeat (first | refine blk_drewN ?_ _ | refine blk_drew ?_ | refine blk_alloc ?_ _)); exact BK585.out⟩
   have n9_ : Aside0 (IsS86 w ((((((((((w12.setCell ⟨gb585, 0, none⟩ (.int .i64 t560)).setCell ⟨gb585, 1, none⟩ (.int .i64 t561)).setCell ⟨gb585, 2, none⟩ (.slice Ao16 t562.length co16)).setCell ⟨gb585, 3, none⟩ (.slice Ao17 t565.length co17)).setCell ⟨gb585, 4, none⟩ (.slice Ao18 t568.length co18)).setCell ⟨gb585, 5, none⟩ (.slice Ao19 t571.length co19)).setCell ⟨gb585, 6, none⟩ (.slice Ao20 t574.length co20)).setCell ⟨gb585, 7, none⟩ (.slice Ao21 t577.length co21)).setCell ⟨gb585, 8, none⟩ (.slice Ao22 t580.length co22)).setCell ⟨gb585, 9, none⟩ (.int .i64 t583)) g559 t557 t584) := ⟨(hI2 HI559.out NB559_556.out NB559_585.out)⟩
   have n10_ : Aside0 (Below w.heap.size w ((((((((((w12.setCell ⟨gb585, 0, none⟩ (.int .i64 t560)).setCell ⟨gb585, 1, none⟩ (.int .i64 t561)).setCell ⟨gb585, 2, none⟩ (.slice Ao16 t562.length co16)).setCell ⟨gb585, 3, none⟩ (.slice Ao17 t565.length co17)).setCell ⟨gb585, 4, none⟩ (.slice Ao18 t568.length co18)).setCell ⟨gb585, 5, none⟩ (.slice Ao19 t571.length co19)).setCell ⟨gb585, 6, none⟩ (.slice Ao20 t574.length co20)).setCell ⟨gb585, 7, none⟩ (.slice Ao21 t577.length co21)).setCell ⟨gb585, 8, none⟩ (.slice Ao22 t580.length co22)).setCell ⟨gb585, 9, none⟩ (.int .i64 t583))) := ⟨(hB3 HB.out (IsS86.ge HI559.out) GE556.out GE585.out)⟩
   (try clear HO564)
   (try clear HO567)
   (try clear HO570)
   (try clear HO573)
   (try clear HO576)
   (try clear HO579)
   (try clear HO582)
   (try clear BK556)
   (try clear BK585)
   (try clear HI559)
   (try clear HB)
   generalize ((((((((((w12.setCell ⟨gb585, 0, none⟩ (.int .i64 t560)).setCell ⟨gb585, 1, none⟩ (.int .i64 t561)).setCell ⟨gb585, 2, none⟩ (.slice Ao16 t562.length co16)).setCell ⟨gb585, 3, none⟩ (.slice Ao17 t565.length co17)).setCell ⟨gb585, 4, none⟩ (.slice Ao18 t568.length co18)).setCell ⟨gb585, 5, none⟩ (.slice Ao19 t571.length co19)).setCell ⟨gb585, 6, none⟩ (.slice Ao20 t574.length co20)).setCell ⟨gb585, 7, none⟩ (.slice Ao21 t577.length co21)).setCell ⟨gb585, 8, none⟩ (.slice Ao22 t580.length co22)).setCell ⟨gb585, 9, none⟩ (.int .i64 t583)) = w23 at n0_ n1_ n2_ n3_ n4_ n5_ n6_ n7_ n8_ n9_ n10_ ⊢
   have HO564 := n0_; have HO567 := n1_
   have HO570 := n2_; have HO573 := n3_
   have HO576 := n4_; have HO579 := n5_
   have HO582 := n6_; have BK556 := n7_; have BK585 := n8_
   have HI559 := n9_; have HB := n10_
   clear n0_ n1_ n2_ n3_ n4_ n5_ n6_ n7_ n8_ n9_ n10_
   have n0_ := m_ (Kd.N_drew HO564.out)
   have n1_ := m_ (Kd.R_drew HO567.out)
   have n2_ := m_ (Kd.R_drew HO570.out)
   have n3_ := m_ (Kd.R_drew HO573.out)
   have n4_ := m_ (Kd.R_drew HO576.out)
   have n5_ := m_ (Kd.R_drew HO579.out)
   have n6_ := m_ (Kd.R_drew HO582.out)
   have n7_ := m_ (blk_drew BK556.out)
   have n8_ := m_ (blk_drew BK585.out)
   have n9_ := m_ (IsS86.drew HI559.out)
   have n10_ := m_ (below_drew1 HB.out)
   clear HO564 HO567 HO570 HO573 HO576 HO579 HO582 BK556 BK585 HI559 HB
   have HO564 := n0_; have HO567 := n1_
   have HO570 := n2_; have HO573 := n3_
   have HO576 := n4_; have HO579 := n5_
   have HO582 := n6_; have BK556 := n7_; have BK585 := n8_
   have HI559 := n9_; have HB := n10_
   clear n0_ n1_ n2_ n3_ n4_ n5_ n6_ n7_ n8_ n9_ n10_
   refine start_ (n := 18) (S := fun w' => True) (ds := []) #[false, false, false, false, false, false, false, false, false, false, false, false, false, false, false, false, false, false] (by kernel_rfl) rfl rfl trivial (fun hHeld => ?_); refine with_tabW spec_DrawConfTurn.tab3 spec_DrawConfTurn.bits3 (fun HT_ HW_ => ?_)
   generalize w23.drew = w24 at HO564 HO567 HO570 HO573 HO576 HO579 HO582 BK556 BK585 HI559 HB hHeld ⊢
   refine pu 2 13 HT_ (h := ?_)
   refine pu 8 19 HT_ (h := ?_)
   refine pu 9 20 HT_ (h := ?_)
   refine inv_at [0, 1, 3, 4, 5, 6, 7, 10, 11, 12, 13, 14, 15, 16, 17] (fun a0_ b a w' => ∃ (v587 : Value) (adz_v587 : Addr) (m6_ : Value), a = putSel a0_ b [(0, 11, .agg #[.int .i64 t560, .int .i64 t561, .slice Ao16 t562.length co16, .slice Ao17 t565.length co17, .slice Ao18 t568.length co18, .slice Ao19 t571.length co19, .slice Ao20 t574.length co20, .slice Ao21 t577.length co21, .slice Ao22 t580.length co22, .int .i64 t583]), (1, 12, v587), (3, 14, .int .i64 t589), (4, 15, .int .i64 (wrap64 (t589 * 3))), (5, 16, .int .i64 ji5), (6, 17, m6_), (7, 18, .int .i64 (rd y586 (ji5))), (10, 21, .slice Ao19 t571.length co19), (11, 22, .int .i64 (t571.length : Int)), (12, 23, .int .i64 (wrap64 ((t571.length : Int) + 2))), (13, 24, .int .i64 t592), (14, 25, .int .i64 (wrap64 (t592 - 1))), (16, 3, .int .i64 (rd y586 (ji5))), (17, 4, .int .i64 (wrap64 (t592 - 1)))] ∧ (Kd.N (Kd.slice 107 k107) 75 w' w.heap.size (fun k_ => (w.heap.size ≤ k_) ∧ nb Ao17 t565.length co17 k_ ∧ nb Ao18 t568.length co18 k_ ∧ nb Ao19 t571.length co19 k_ ∧ nb Ao20 t574.length co20 k_ ∧ nb Ao21 t577.length co21 k_ ∧ nb Ao22 t580.length co22 k_ ∧ k_ ≠ gb556 ∧ k_ ≠ g559 ∧ k_ ≠ gb585) (.slice Ao16 t562.length co16) t562) ∧ (Kd.R (Kd.int .i64) 3 w' w.heap.size (fun k_ => (w.heap.size ≤ k_) ∧ nb Ao18 t568.length co18 k_ ∧ nb Ao19 t571.length co19 k_ ∧ nb Ao20 t574.length co20 k_ ∧ nb Ao21 t577.length co21 k_) (.slice Ao17 t565.length co17) t565) ∧ (Kd.R (Kd.int .i64) 3 w' w.heap.size (fun k_ => (w.heap.size ≤ k_) ∧ nb Ao17 t565.length co17 k_ ∧ nb Ao19 t571.length co19 k_ ∧ nb Ao20 t574.length co20 k_ ∧ nb Ao21 t577.length co21 k_) (.slice Ao18 t568.length co18) t568) ∧ (Kd.R (Kd.int .i64) 3 w' w.heap.size (fun k_ => (w.heap.size ≤ k_) ∧ nb Ao17 t565.length co17 k_ ∧ nb Ao18 t568.length co18 k_ ∧ nb Ao20 t574.length co20 k_ ∧ nb Ao21 t577.length co21 k_) (.slice Ao19 t571.length co19) t571) ∧ (Kd.R (Kd.int .i64) 3 w' w.heap.size (fun k_ => (w.heap.size ≤ k_) ∧ nb Ao17 t565.length co17 k_ ∧ nb Ao18 t568.length co18 k_ ∧ nb Ao19 t571.length co19 k_ ∧ nb Ao21 t577.length co21 k_) (.slice Ao20 t574.length co20) t574) ∧ (Kd.R (Kd.int .i64) 3 w' w.heap.size (fun k_ => (w.heap.size ≤ k_) ∧ nb Ao17 t565.length co17 k_ ∧ nb Ao18 t568.length co18 k_ ∧ nb Ao19 t571.length co19 k_ ∧ nb Ao20 t574.length co20 k_) (.slice Ao21 t577.length co21) t577) ∧ (Kd.R k78 78 w' w.heap.size (fun k_ => (w.heap.size ≤ k_)) (.slice Ao22 t580.length co22) t580) ∧ (b 15 = false → w'.heap[gb556]? = some (.cells #[.int .i64 0, .int .i64 0, .slice none 0 0, .slice none 0 0, .slice none 0 0, .slice none 0 0, .slice none 0 0, .slice none 0 0, .slice none 0 0, .int .i64 0] 32 (0, 0))) ∧ (w'.heap[gb585]? = some (.cells #[.int .i64 t560, .int .i64 t561, .slice Ao16 t562.length co16, .slice Ao17 t565.length co17, .slice Ao18 t568.length co18, .slice Ao19 t571.length co19, .slice Ao20 t574.length co20, .slice Ao21 t577.length co21, .slice Ao22 t580.length co22, .int .i64 t583] 32 (0, 0))) ∧ (b 3 = false → IsS86 w w' g559 t557 t584) ∧ (Below w.heap.size w w') ∧ (b 1 = true → Kd.R (Kd.int .i64) 3 w' w.heap.size (fun k_ => (w.heap.size ≤ k_) ∧ nb Ao17 t565.length co17 k_ ∧ nb Ao18 t568.length co18 k_ ∧ nb Ao19 t571.length co19 k_ ∧ nb Ao20 t574.length co20 k_ ∧ nb Ao21 t577.length co21 k_) v587 y586) ∧ (b 1 = true → ∃ c_, (v587 : Value) = .slice (some adz_v587) y586.length c_) ∧ (b 3 = true → b 13 = false → IsS86 w w' g559 t557 t590) ∧ (b 13 = true → IsS86 w w' g559 t557 t593) ∧ (b 15 = true → w'.heap[gb556]? = some (.cells #[.int .i64 t560, .int .i64 t561, .slice Ao16 t562.length co16, .slice Ao17 t565.length co17, .slice Ao18 t568.length co18, .slice Ao19 t571.length co19, .slice Ao20 t574.length co20, .slice Ao21 t577.length co21, .slice Ao22 t580.length co22, .int .i64 t583] 32 (0, 0))) ∧ (b 6 = true → (m6_ : Value) = .pointer (some (adz_v587.add ((ji5)).toNat)))) HT_.out HW_.out (by kernel_rfl) (by kernel_rfl) ?_ ?_ ?_
   ·exact ⟨.bool false, ⟨0, 0, none⟩, .bool false, by simp only [putSel, Bool.false_eq_true, if_false], HO564.out, HO567.out, HO570.out, HO573.out, HO576.out, HO579.out, HO582.out, fun _ => BK556.out, BK585.out, fun _ => HI559.out, HB.out, fun h_ => absurd h_ (by decide), fun h_ => absurd h_ (by decide), fun h_ => absurd h_ (by decide), fun h_ => absurd h_ (by decide), fun h_ => absurd h_ (by decide), fun h_ => absurd h_ (by decide)⟩
   ·skip
    clear BK556 BK585 HB HI559 HO564 HO567 HO570 HO573 HO576 HO579 HO582
    refine steps_cons ?_ ?_
    ·rintro b a w' ⟨v587, adz_v587, m6_, ha, Q_HO564, Q_HO567, Q_HO570, Q_HO573, Q_HO576, Q_HO579, Q_HO582, Q_BK556, Q_BK585, Q_HI559, Q_HB, Q_HO588, Q_HA_HO588, Q_HI559_e3, Q_HI559_e13, Q_BK556_e15, Q_X6_⟩ hb_ hon hoff
     refine ⟨_, rfl, fun K hK => ?_⟩
     have e6 : a.tmps[6]? = some (.pointer (some ⟨gb585, 0, none⟩)) := by rw [ha]; exact (putSel_off rfl).trans rfl
     replace ha := Aside0.mk ha
     have HO564 := Aside0.mk Q_HO564
     have HO567 := Aside0.mk Q_HO567
     have HO570 := Aside0.mk Q_HO570
     have HO573 := Aside0.mk Q_HO573
     have HO576 := Aside0.mk Q_HO576
     have HO579 := Aside0.mk Q_HO579
     have HO582 := Aside0.mk Q_HO582
     have BK556 := m_ (Q_BK556 (hoff 15 (by kernel_rfl)))
     have BK585 := Aside0.mk Q_BK585
     have HB := Aside0.mk Q_HB
     have hc0_ : w'.cell? ⟨gb585, 0, none⟩ = some (.int .i64 t560) := bc BK585 0
     have hc1_ : w'.cell? ⟨gb585, 1, none⟩ = some (.int .i64 t561) := bc BK585 1
     have hc2_ : w'.cell? ⟨gb585, 2, none⟩ = some (.slice Ao16 t562.length co16) := bc BK585 2
     have hc3_ : w'.cell? ⟨gb585, 3, none⟩ = some (.slice Ao17 t565.length co17) := bc BK585 3
     have hc4_ : w'.cell? ⟨gb585, 4, none⟩ = some (.slice Ao18 t568.length co18) := bc BK585 4
     have hc5_ : w'.cell? ⟨gb585, 5, none⟩ = some (.slice Ao19 t571.length co19) := bc BK585 5
     have hc6_ : w'.cell? ⟨gb585, 6, none⟩ = some (.slice Ao20 t574.length co20) := bc BK585 6
     have hc7_ : w'.cell? ⟨gb585, 7, none⟩ = some (.slice Ao21 t577.length co21) := bc BK585 7
     have hc8_ : w'.cell? ⟨gb585, 8, none⟩ = some (.slice Ao22 t580.length co22) := bc BK585 8
     have hc9_ : w'.cell? ⟨gb585, 9, none⟩ = some (.int .i64 t583) := bc BK585 9
     refine value_ (w1 := w') (v := .agg #[.int .i64 t560, .int .i64 t561, .slice Ao16 t562.length co16, .slice Ao17 t565.length co17, .slice Ao18 t568.length co18, .slice Ao19 t571.length co19, .slice Ao20 t574.length co20, .slice Ao21 t577.length co21, .slice Ao22 t580.length co22, .int .i64 t583]) (by rfl) rfl ?_ ?_
     ·go_simp
      (try simp only [i64_w])
      try rfl
     refine hK.out _ _ ⟨v587, adz_v587, m6_, (by rw [ha.out]; exact putSel_upk 0 hb_ rfl rfl rfl), Q_HO564, Q_HO567, Q_HO570, Q_HO573, Q_HO576, Q_HO579, Q_HO582, Q_BK556, Q_BK585, Q_HI559, Q_HB, Q_HO588, Q_HA_HO588, Q_HI559_e3, Q_HI559_e13, fun h0_ => absurd ((hoff 15 (by kernel_rfl)).symm.trans h0_) (by decide), Q_X6_⟩
    refine steps_cons ?_ ?_
    ·rintro b a w' ⟨v587, adz_v587, m6_, ha, Q_HO564, Q_HO567, Q_HO570, Q_HO573, Q_HO576, Q_HO579, Q_HO582, Q_BK556, Q_BK585, Q_HI559, Q_HB, Q_HO588, Q_HA_HO588, Q_HI559_e3, Q_HI559_e13, Q_BK556_e15, Q_X6_⟩ hb_ hon hoff
     refine ⟨_, rfl, fun K hK => ?_⟩
     replace ha := Aside0.mk ha
     have HO564 := Aside0.mk Q_HO564
     have HO567 := Aside0.mk Q_HO567
     have HO570 := Aside0.mk Q_HO570
     have HO573 := Aside0.mk Q_HO573
     have HO576 := Aside0.mk Q_HO576
     have HO579 := Aside0.mk Q_HO579
     have HO582 := Aside0.mk Q_HO582
     have BK585 := Aside0.mk Q_BK585
     have HB := Aside0.mk Q_HB
     refine Kd.R_lit_step (Kd.int .i64) _ 3 ?hg (N := 12) ?hd (xs := ([0, 1, 2] : List Int)) (inner := [.int .i64 0, .int .i64 1, .int .i64 2]) (ok := fun _ => True) (okp := fun _ => True) ?hr ?hp (fun _ hk => hk) trivial (Below.refl _ _) (Nat.le_refl _) (by simp) ?_; (case hd => rfl); (case hg => rfl); (case hr => first | (go_simp; done) | (go_simp; rfl)); (case hp => exact (Reps.one (show Kd.M (Kd.int .i64) _ _ _ 0 [.int .i64 0] from rfl) (Reps.one (show Kd.M (Kd.int .i64) _ _ _ 1 [.int .i64 1] from rfl) (Reps.one (show Kd.M (Kd.int .i64) _ _ _ 2 [.int .i64 2] from rfl) (Reps.none _ _)))))
     intro v587 w25 ho26 hb hg_ hnew_
     clear hg_ hnew_
     (first | rw [← Ny586.out] at ho26 | (simp only [Int.reduceToNat] at ho26; rw [← Ny586.out] at ho26))
     have n0_ := m_ (Kd.N_elder' (by (with_reducible repeat (first | apply Kd.N_alloc | apply Kd.N_drewN | apply Kd.N_drew)); exact HO564.out) (Kd.R_base ho26) hb)
     have n1_ := m_ (Kd.R_elder' (rN HO567.out) (Kd.R_base ho26) hb)
     have n2_ := m_ (Kd.R_elder' (rN HO570.out) (Kd.R_base ho26) hb)
     have n3_ := m_ (Kd.R_elder' (rN HO573.out) (Kd.R_base ho26) hb)
     have n4_ := m_ (Kd.R_elder' (rN HO576.out) (Kd.R_base ho26) hb)
     have n5_ := m_ (Kd.R_elder' (rN HO579.out) (Kd.R_base ho26) hb)
     have n6_ := m_ (Kd.R_below (rN HO582.out) hb)
     have n7_ := m_ (Kd.R_lower (Kd.R_new' (Kd.R_new' (Kd.R_new' (Kd.R_new' (Kd.R_new' (Kd.R_newM (M := fun k_ => (w.heap.size ≤ k_)) ho26 (below_size (bN HB.out)) (fun k_ h_ => h_)) (Kd.R_lt (rN HO567.out))) (Kd.R_lt (rN HO570.out))) (Kd.R_lt (rN HO573.out))) (Kd.R_lt (rN HO576.out))) (Kd.R_lt (rN HO579.out))) (below_size (bN HB.out)))
     have n10_ := m_ (blk_below (kN BK585.out) hb)
     have n11_ := m_ (below_step (bN HB.out) hb)
     have z_BK556 := fun (h0_ : b 15 = false) => (show w25.heap[gb556]? = some (.cells #[.int .i64 0, .int .i64 0, .slice none 0 0, .slice none 0 0, .slice none 0 0, .slice none 0 0, .slice none 0 0, .slice none 0 0, .slice none 0 0, .int .i64 0] 32 (0, 0)) from by first | exact (blk_below (g := gb556) (o := .cells #[.int .i64 0, .int .i64 0, .slice none 0 0, .slice none 0 0, .slice none 0 0, .slice none 0 0, .slice none 0 0, .slice none 0 0, .slice none 0 0, .int .i64 0] 32 (0, 0)) (by (with_reducible repeat (first | refine blk_drewN ?_ _ | refine blk_drew ?_ | refine blk_alloc ?_ _)); exact (Q_BK556 h0_)) hb))
     have z_HI559 := fun (h0_ : b 3 = false) => (show IsS86 w w25 g559 t557 t584 from by first | exact (IsS86.below (by repeat (first | (with_reducible first | exact (Q_HI559 h0_) | apply IsS86.alloc | apply IsS86.drewN | apply IsS86.drew | apply IsS86.set_1 | refine IsS86.far ?_ NB559_556.out _ | refine IsS86.far ?_ NB559_585.out _) | exact (Q_HI559 h0_))) hb))
     have z_HI559_e3 := fun (h0_ : b 3 = true) (h1_ : b 13 = false) => (show IsS86 w w25 g559 t557 t590 from by first | exact (IsS86.below (by repeat (first | (with_reducible first | exact (Q_HI559_e3 h0_ h1_) | apply IsS86.alloc | apply IsS86.drewN | apply IsS86.drew | apply IsS86.set_1 | refine IsS86.far ?_ NB559_556.out _ | refine IsS86.far ?_ NB559_585.out _) | exact (Q_HI559_e3 h0_ h1_))) hb))
     have z_HI559_e13 := fun (h0_ : b 13 = true) => (show IsS86 w w25 g559 t557 t593 from by first | exact (IsS86.below (by repeat (first | (with_reducible first | exact (Q_HI559_e13 h0_) | apply IsS86.alloc | apply IsS86.drewN | apply IsS86.drew | apply IsS86.set_1 | refine IsS86.far ?_ NB559_556.out _ | refine IsS86.far ?_ NB559_585.out _) | exact (Q_HI559_e13 h0_))) hb))
     have z_BK556_e15 := fun (h0_ : b 15 = true) => (show w25.heap[gb556]? = some (.cells #[.int .i64 t560, .int .i64 t561, .slice Ao16 t562.length co16, .slice Ao17 t565.length co17, .slice Ao18 t568.length co18, .slice Ao19 t571.length co19, .slice Ao20 t574.length co20, .slice Ao21 t577.length co21, .slice Ao22 t580.length co22, .int .i64 t583] 32 (0, 0)) from by first | exact (blk_below (g := gb556) (o := .cells #[.int .i64 t560, .int .i64 t561, .slice Ao16 t562.length co16, .slice Ao17 t565.length co17, .slice Ao18 t568.length co18, .slice Ao19 t571.length co19, .slice Ao20 t574.length co20, .slice Ao21 t577.length co21, .slice Ao22 t580.length co22, .int .i64 t583] 32 (0, 0)) (by (with_reducible repeat (first | refine blk_drewN ?_ _ | refine blk_drew ?_ | refine blk_alloc ?_ _)); exact (Q_BK556_e15 h0_)) hb))
     clear HO564 HO567 HO570 HO573 HO576 HO579 HO582 BK585 HB
     have HO564 := n0_; have HO567 := n1_
     have HO570 := n2_; have HO573 := n3_
     have HO576 := n4_; have HO579 := n5_
     have HO582 := n6_; have HO588 := n7_; have BK585 := n10_; have HB := n11_
     clear n0_ n1_ n2_ n3_ n4_ n5_ n6_ n7_ n10_ n11_ hb ho26
     obtain ⟨Ao27, co27, eo27⟩ := Kd.R_slice HO588.out
     subst eo27
     obtain ⟨ado27, fo27, _⟩ := Kd.at_int (Kd.R_reads' HO588.out).2.2 0 (by decide) (by rw [Ny586.out]; simp)
     cases fo27
     refine hK.out _ _ ⟨.slice (some ado27) y586.length co27, ado27, m6_, (by rw [ha.out]; exact putSel_upk 1 hb_ rfl rfl rfl), (by (with_reducible repeat (first | apply Kd.N_alloc | apply Kd.N_drewN | apply Kd.N_drew)); exact Kd.N_mono HO564.out (fun _ hk => by (try simp only [nb] at hk ⊢); simp only [hk, ne_eq, not_false_eq_true, and_self])), (by (with_reducible repeat (first | apply Kd.R_alloc | apply Kd.R_drewN | apply Kd.R_drew)); exact Kd.R_mono HO567.out (fun _ hk => by (try simp only [nb] at hk ⊢); simp only [hk, ne_eq, not_false_eq_true, and_self])), (by (with_reducible repeat (first | apply Kd.R_alloc | apply Kd.R_drewN | apply Kd.R_drew)); exact Kd.R_mono HO570.out (fun _ hk => by (try simp only [nb] at hk ⊢); simp only [hk, ne_eq, not_false_eq_true, and_self])), (by (with_reducible repeat (first | apply Kd.R_alloc | apply Kd.R_drewN | apply Kd.R_drew)); exact Kd.R_mono HO573.out (fun _ hk => by (try simp only [nb] at hk ⊢); simp only [hk, ne_eq, not_false_eq_true, and_self])), (by (with_reducible repeat (first | apply Kd.R_alloc | apply Kd.R_drewN | apply Kd.R_drew)); exact Kd.R_mono HO576.out (fun _ hk => by (try simp only [nb] at hk ⊢); simp only [hk, ne_eq, not_false_eq_true, and_self])), (by (with_reducible repeat (first | apply Kd.R_alloc | apply Kd.R_drewN | apply Kd.R_drew)); exact Kd.R_mono HO579.out (fun _ hk => by (try simp only [nb] at hk ⊢); simp only [hk, ne_eq, not_false_eq_true, and_self])), (rN HO582.out), z_BK556, (kN BK585.out), z_HI559, (bN HB.out), fun _ => (by (with_reducible repeat (first | apply Kd.R_alloc | apply Kd.R_drewN | apply Kd.R_drew)); exact Kd.R_mono HO588.out (fun _ hk => by (try simp only [nb] at hk ⊢); simp only [hk, ne_eq, not_false_eq_true, and_self])), fun _ => ⟨_, rfl⟩, z_HI559_e3, z_HI559_e13, z_BK556_e15, fun h0_ => absurd ((hoff 6 (by kernel_rfl)).symm.trans h0_) (by decide)⟩
    refine steps_cons ?_ ?_
    ·rintro b a w' ⟨v587, adz_v587, m6_, ha, Q_HO564, Q_HO567, Q_HO570, Q_HO573, Q_HO576, Q_HO579, Q_HO582, Q_BK556, Q_BK585, Q_HI559, Q_HB, Q_HO588, Q_HA_HO588, Q_HI559_e3, Q_HI559_e13, Q_BK556_e15, Q_X6_⟩ hb_ hon hoff
     refine ⟨_, rfl, fun K hK => ?_⟩
     have e13 : a.tmps[13]? = some (.pointer (some ⟨g559, 0, none⟩)) := by rw [ha]; exact (putSel_off rfl).trans rfl
     replace ha := Aside0.mk ha
     have HO564 := Aside0.mk Q_HO564
     have HO567 := Aside0.mk Q_HO567
     have HO570 := Aside0.mk Q_HO570
     have HO573 := Aside0.mk Q_HO573
     have HO576 := Aside0.mk Q_HO576
     have HO579 := Aside0.mk Q_HO579
     have HO582 := Aside0.mk Q_HO582
     have BK556 := m_ (Q_BK556 (hoff 15 (by kernel_rfl)))
     have BK585 := Aside0.mk Q_BK585
     have HI559 := m_ (Q_HI559 hb_)
     have HB := Aside0.mk Q_HB
     refine goes_ Tryd.func46 (by kernel_rfl) rfl #[.pointer (some ⟨g559, 0, none⟩), .int .i64 9] (by rfl) rfl rfl (by first | (simp only [List.map_toArray, List.map_cons, List.map_nil, Act.eval, Array.getD_eq_getD_getElem?, Option.getD_some, e13]; done) | (simp only [List.map_toArray, List.map_cons, List.map_nil, Act.eval, Array.getD_eq_getD_getElem?, Option.getD_some, e13]; rfl)) ?_
     with_reducible refine (spec_l1Rd_pick.calls k g559 t557 t584 9 t589 t590 w _ ?side1 ?side2 A4.out).mono ?_
     (case side1 => exact hI2 HI559.out NB559_556.out NB559_585.out)
     (case side2 => exact hB3 HB.out (IsS86.ge HI559.out) GE556.out GE585.out)
     rintro e w25 ⟨rfl, hi, hb, hk⟩
     refine ⟨_, rfl, ?_⟩
     have n0_ := m_ (KeepBut.blk hk (g' := gb556) (o := .cells #[.int .i64 0, .int .i64 0, .slice none 0 0, .slice none 0 0, .slice none 0 0, .slice none 0 0, .slice none 0 0, .slice none 0 0, .slice none 0 0, .int .i64 0] 32 (0, 0)) (kN BK556.out) NB556_559.out (by simp))
     have n1_ := m_ (Kd.N_mono (Kd.N_keep (Kd.N_mono (ok := fun k_ => (((w.heap.size ≤ k_)) ∧ (nb Ao17 t565.length co17 k_ ∧ (nb Ao18 t568.length co18 k_ ∧ (nb Ao19 t571.length co19 k_ ∧ (nb Ao20 t574.length co20 k_ ∧ (nb Ao21 t577.length co21 k_ ∧ (nb Ao22 t580.length co22 k_ ∧ (k_ ≠ gb556 ∧ (k_ ≠ g559 ∧ k_ ≠ gb585)))))))))) (by (with_reducible repeat (first | apply Kd.N_alloc | apply Kd.N_drewN | apply Kd.N_drew)); exact HO564.out) (fun k_ hk_ => (⟨hk_, hk_.2.2.2.2.2.2.2.2.1⟩ : _ ∧ k_ ≠ g559))) hk (fun _ h => h.2)) (fun _ h => h.1))
     have n2_ := m_ (Kd.R_mono (Kd.R_keep (IsS86.apart (show IsS86 w _ g559 t557 t584 from (hI2 HI559.out NB559_556.out NB559_585.out)) (rN HO567.out) (by decide)) hk (fun _ h => h.2)) (fun _ h => h.1))
     have n3_ := m_ (Kd.R_mono (Kd.R_keep (IsS86.apart (show IsS86 w _ g559 t557 t584 from (hI2 HI559.out NB559_556.out NB559_585.out)) (rN HO570.out) (by decide)) hk (fun _ h => h.2)) (fun _ h => h.1))
     have n4_ := m_ (Kd.R_mono (Kd.R_keep (IsS86.apart (show IsS86 w _ g559 t557 t584 from (hI2 HI559.out NB559_556.out NB559_585.out)) (rN HO573.out) (by decide)) hk (fun _ h => h.2)) (fun _ h => h.1))
     have n5_ := m_ (Kd.R_mono (Kd.R_keep (IsS86.apart (show IsS86 w _ g559 t557 t584 from (hI2 HI559.out NB559_556.out NB559_585.out)) (rN HO576.out) (by decide)) hk (fun _ h => h.2)) (fun _ h => h.1))
     have n6_ := m_ (Kd.R_mono (Kd.R_keep (IsS86.apart (show IsS86 w _ g559 t557 t584 from (hI2 HI559.out NB559_556.out NB559_585.out)) (rN HO579.out) (by decide)) hk (fun _ h => h.2)) (fun _ h => h.1))
     have n7_ := m_ (Kd.R_mono (Kd.R_keep (IsS86.apart (show IsS86 w _ g559 t557 t584 from (hI2 HI559.out NB559_556.out NB559_585.out)) (rN HO582.out) (by decide)) hk (fun _ h => h.2)) (fun _ h => h.1))
     have n8_ := m_ (KeepBut.blk hk (g' := gb585) (o := .cells #[.int .i64 t560, .int .i64 t561, .slice Ao16 t562.length co16, .slice Ao17 t565.length co17, .slice Ao18 t568.length co18, .slice Ao19 t571.length co19, .slice Ao20 t574.length co20, .slice Ao21 t577.length co21, .slice Ao22 t580.length co22, .int .i64 t583] 32 (0, 0)) (kN BK585.out) NB585_559.out (by simp))
     have n9_ := m_ (hb)
     have n10_ := m_ (hi)
     have z_HO588 := fun (h0_ : b 1 = true) => (show Kd.R (Kd.int .i64) 3 w25 w.heap.size (fun k_ => (w.heap.size ≤ k_) ∧ nb Ao17 t565.length co17 k_ ∧ nb Ao18 t568.length co18 k_ ∧ nb Ao19 t571.length co19 k_ ∧ nb Ao20 t574.length co20 k_ ∧ nb Ao21 t577.length co21 k_) v587 y586 from by first | exact (Kd.R_mono (Kd.R_keep (IsS86.apart (show IsS86 w _ g559 t557 t584 from (hI2 HI559.out NB559_556.out NB559_585.out)) (by (with_reducible repeat (first | apply Kd.R_alloc | apply Kd.R_drewN | apply Kd.R_drew)); exact (Q_HO588 h0_)) (by decide)) hk (fun _ h => h.2)) (fun _ h => h.1)) | exact Kd.R_mono (Kd.R_mono (Kd.R_keep (IsS86.apart (show IsS86 w _ g559 t557 t584 from (hI2 HI559.out NB559_556.out NB559_585.out)) (by (with_reducible repeat (first | apply Kd.R_alloc | apply Kd.R_drewN | apply Kd.R_drew)); exact (Q_HO588 h0_)) (by decide)) hk (fun _ h => h.2)) (fun _ h => h.1)) (fun _ h_ => by first | trivial | exact h_ | exact h_.1))
     clear BK556 HO564 HO567 HO570 HO573 HO576 HO579 HO582 BK585 HB HI559
     have BK556 := n0_
     have HO564 := n1_; have HO567 := n2_
     have HO570 := n3_; have HO573 := n4_
     have HO576 := n5_; have HO579 := n6_
     have HO582 := n7_; have BK585 := n8_
     have HB := n9_; have HI559 := n10_
     clear n0_ n1_ n2_ n3_ n4_ n5_ n6_ n7_ n8_ n9_ n10_
     (try clear hb)
     (try clear hb2)
     (try clear hk)
     (try clear hi)
     refine hK.out _ _ ⟨v587, adz_v587, m6_, (by rw [ha.out]; exact putSel_upk 2 hb_ rfl rfl rfl), (by (with_reducible repeat (first | apply Kd.N_alloc | apply Kd.N_drewN | apply Kd.N_drew)); exact HO564.out), (rN HO567.out), (rN HO570.out), (rN HO573.out), (rN HO576.out), (rN HO579.out), (rN HO582.out), fun _ => (kN BK556.out), (kN BK585.out), fun h0_ => absurd ((up_self b 3).symm.trans h0_) (by decide), ((hB3 HB.out (IsS86.ge HI559.out) GE556.out GE585.out)), z_HO588, Q_HA_HO588, fun _ _ => ((hI2 HI559.out NB559_556.out NB559_585.out)), fun h0_ => absurd ((hoff 13 (by kernel_rfl)).symm.trans h0_) (by decide), fun h0_ => absurd ((hoff 15 (by kernel_rfl)).symm.trans h0_) (by decide), fun h0_ => absurd ((hoff 6 (by kernel_rfl)).symm.trans h0_) (by decide)⟩
    refine steps_cons ?_ ?_
    ·rintro b a w' ⟨v587, adz_v587, m6_, ha, Q_HO564, Q_HO567, Q_HO570, Q_HO573, Q_HO576, Q_HO579, Q_HO582, Q_BK556, Q_BK585, Q_HI559, Q_HB, Q_HO588, Q_HA_HO588, Q_HI559_e3, Q_HI559_e13, Q_BK556_e15, Q_X6_⟩ hb_ hon hoff
     refine ⟨_, rfl, fun K hK => ?_⟩
     have e14 : a.tmps[14]? = some (.int .i64 t589) := by rw [ha]; exact putSel_on (e := (3, 14, .int .i64 t589)) 2 rfl rfl (hon 3 (by kernel_rfl)) rfl
     replace ha := Aside0.mk ha
     have HO564 := Aside0.mk Q_HO564
     have HO567 := Aside0.mk Q_HO567
     have HO570 := Aside0.mk Q_HO570
     have HO573 := Aside0.mk Q_HO573
     have HO576 := Aside0.mk Q_HO576
     have HO579 := Aside0.mk Q_HO579
     have HO582 := Aside0.mk Q_HO582
     have BK585 := Aside0.mk Q_BK585
     have HB := Aside0.mk Q_HB
     refine value_ (w1 := w') (v := .int .i64 (wrap64 (t589 * 3))) (by rfl) rfl ?_ ?_
     ·go_simp
      (try simp only [i64_w])
      try rfl
     refine hK.out _ _ ⟨v587, adz_v587, m6_, (by rw [ha.out]; exact putSel_upk 3 hb_ rfl rfl rfl), Q_HO564, Q_HO567, Q_HO570, Q_HO573, Q_HO576, Q_HO579, Q_HO582, Q_BK556, Q_BK585, fun h0_ => absurd ((hon 3 (by kernel_rfl)).symm.trans h0_) (by decide), Q_HB, Q_HO588, Q_HA_HO588, Q_HI559_e3, Q_HI559_e13, Q_BK556_e15, fun h0_ => absurd ((hoff 6 (by kernel_rfl)).symm.trans h0_) (by decide)⟩
    refine steps_cons ?_ ?_
    ·rintro b a w' ⟨v587, adz_v587, m6_, ha, Q_HO564, Q_HO567, Q_HO570, Q_HO573, Q_HO576, Q_HO579, Q_HO582, Q_BK556, Q_BK585, Q_HI559, Q_HB, Q_HO588, Q_HA_HO588, Q_HI559_e3, Q_HI559_e13, Q_BK556_e15, Q_X6_⟩ hb_ hon hoff
     refine ⟨_, rfl, fun K hK => ?_⟩
     have e15 : a.tmps[15]? = some (.int .i64 (wrap64 (t589 * 3))) := by rw [ha]; exact putSel_on (e := (4, 15, .int .i64 (wrap64 (t589 * 3)))) 3 rfl rfl (hon 4 (by kernel_rfl)) rfl
     replace ha := Aside0.mk ha
     have HO564 := Aside0.mk Q_HO564
     have HO567 := Aside0.mk Q_HO567
     have HO570 := Aside0.mk Q_HO570
     have HO573 := Aside0.mk Q_HO573
     have HO576 := Aside0.mk Q_HO576
     have HO579 := Aside0.mk Q_HO579
     have HO582 := Aside0.mk Q_HO582
     have BK585 := Aside0.mk Q_BK585
     have HB := Aside0.mk Q_HB
     refine value_ (w1 := w') (v := .int .i64 ji5) (by rfl) rfl ?_ ?_
     ·go_simp
      (try simp only [i64_w])
      try rfl
     refine hK.out _ _ ⟨v587, adz_v587, m6_, (by rw [ha.out]; exact putSel_upk 4 hb_ rfl rfl rfl), Q_HO564, Q_HO567, Q_HO570, Q_HO573, Q_HO576, Q_HO579, Q_HO582, Q_BK556, Q_BK585, fun h0_ => absurd ((hon 3 (by kernel_rfl)).symm.trans h0_) (by decide), Q_HB, Q_HO588, Q_HA_HO588, Q_HI559_e3, Q_HI559_e13, Q_BK556_e15, fun h0_ => absurd ((hoff 6 (by kernel_rfl)).symm.trans h0_) (by decide)⟩
    refine steps_cons ?_ ?_
    ·rintro b a w' ⟨v587, adz_v587, m6_, ha, Q_HO564, Q_HO567, Q_HO570, Q_HO573, Q_HO576, Q_HO579, Q_HO582, Q_BK556, Q_BK585, Q_HI559, Q_HB, Q_HO588, Q_HA_HO588, Q_HI559_e3, Q_HI559_e13, Q_BK556_e15, Q_X6_⟩ hb_ hon hoff
     refine ⟨_, rfl, fun K hK => ?_⟩
     have e12 : a.tmps[12]? = some (v587) := by rw [ha]; exact putSel_on (e := (1, 12, v587)) 1 rfl rfl (hon 1 (by kernel_rfl)) rfl
     have e16 : a.tmps[16]? = some (.int .i64 ji5) := by rw [ha]; exact putSel_on (e := (5, 16, .int .i64 ji5)) 4 rfl rfl (hon 5 (by kernel_rfl)) rfl
     replace ha := Aside0.mk ha
     have HO564 := Aside0.mk Q_HO564
     have HO567 := Aside0.mk Q_HO567
     have HO570 := Aside0.mk Q_HO570
     have HO573 := Aside0.mk Q_HO573
     have HO576 := Aside0.mk Q_HO576
     have HO579 := Aside0.mk Q_HO579
     have HO582 := Aside0.mk Q_HO582
     have BK585 := Aside0.mk Q_BK585
     have HB := Aside0.mk Q_HB
     have HO588 := m_ (Q_HO588 (hon 1 (by kernel_rfl)))
     have HA_HO588 := m_ (Q_HA_HO588 (hon 1 (by kernel_rfl)))
     obtain ⟨c_, hv_⟩ := HA_HO588.out
     rw [hv_] at e12
     refine value_ (w1 := w') (v := .pointer (some (adz_v587.add ((ji5)).toNat))) (by rfl) rfl ?_ ?_
     ·go_simp
      (try simp only [i64_w])
      try rfl
     refine hK.out _ _ ⟨v587, adz_v587, (.pointer (some (adz_v587.add ((ji5)).toNat))), (by rw [ha.out]; exact putSel_upk 5 hb_ rfl rfl rfl), Q_HO564, Q_HO567, Q_HO570, Q_HO573, Q_HO576, Q_HO579, Q_HO582, Q_BK556, Q_BK585, fun h0_ => absurd ((hon 3 (by kernel_rfl)).symm.trans h0_) (by decide), Q_HB, Q_HO588, Q_HA_HO588, Q_HI559_e3, Q_HI559_e13, Q_BK556_e15, fun _ => rfl⟩
    refine steps_cons ?_ ?_
    ·rintro b a w' ⟨v587, adz_v587, m6_, ha, Q_HO564, Q_HO567, Q_HO570, Q_HO573, Q_HO576, Q_HO579, Q_HO582, Q_BK556, Q_BK585, Q_HI559, Q_HB, Q_HO588, Q_HA_HO588, Q_HI559_e3, Q_HI559_e13, Q_BK556_e15, Q_X6_⟩ hb_ hon hoff
     refine ⟨_, rfl, fun K hK => ?_⟩
     have e17 : a.tmps[17]? = some (m6_) := by rw [ha]; exact putSel_on (e := (6, 17, m6_)) 5 rfl rfl (hon 6 (by kernel_rfl)) rfl
     rw [Q_X6_ (hon 6 (by kernel_rfl))] at e17
     replace ha := Aside0.mk ha
     have HO564 := Aside0.mk Q_HO564
     have HO567 := Aside0.mk Q_HO567
     have HO570 := Aside0.mk Q_HO570
     have HO573 := Aside0.mk Q_HO573
     have HO576 := Aside0.mk Q_HO576
     have HO579 := Aside0.mk Q_HO579
     have HO582 := Aside0.mk Q_HO582
     have BK585 := Aside0.mk Q_BK585
     have HB := Aside0.mk Q_HB
     have HO588 := m_ (Q_HO588 (hon 1 (by kernel_rfl)))
     have HA_HO588 := m_ (Q_HA_HO588 (hon 1 (by kernel_rfl)))
     obtain ⟨c_, hv_⟩ := HA_HO588.out
     have hF_ := HO588.out
     rw [hv_] at hF_
     obtain ⟨ad_, ea_, hx_⟩ := Kd.at_int (Kd.R_reads' hF_).2.2 (ji5) (of_eq_true pi591) (of_eq_true qi591)
     cases ea_
     refine value_ (w1 := w') (v := .int .i64 (rd y586 (ji5))) (by rfl) rfl ?_ ?_
     ·go_simp
      (try simp only [i64_w])
      try rfl
     refine hK.out _ _ ⟨v587, adz_v587, m6_, (by rw [ha.out]; exact putSel_upk 6 hb_ rfl rfl rfl), Q_HO564, Q_HO567, Q_HO570, Q_HO573, Q_HO576, Q_HO579, Q_HO582, Q_BK556, Q_BK585, fun h0_ => absurd ((hon 3 (by kernel_rfl)).symm.trans h0_) (by decide), Q_HB, Q_HO588, Q_HA_HO588, Q_HI559_e3, Q_HI559_e13, Q_BK556_e15, Q_X6_⟩
    refine steps_cons ?_ ?_
    ·rintro b a w' ⟨v587, adz_v587, m6_, ha, Q_HO564, Q_HO567, Q_HO570, Q_HO573, Q_HO576, Q_HO579, Q_HO582, Q_BK556, Q_BK585, Q_HI559, Q_HB, Q_HO588, Q_HA_HO588, Q_HI559_e3, Q_HI559_e13, Q_BK556_e15, Q_X6_⟩ hb_ hon hoff
     refine ⟨_, rfl, fun K hK => ?_⟩
     have e20 : a.tmps[20]? = some (.pointer (some ⟨gb585, 5, none⟩)) := by rw [ha]; exact (putSel_off rfl).trans rfl
     replace ha := Aside0.mk ha
     have HO564 := Aside0.mk Q_HO564
     have HO567 := Aside0.mk Q_HO567
     have HO570 := Aside0.mk Q_HO570
     have HO573 := Aside0.mk Q_HO573
     have HO576 := Aside0.mk Q_HO576
     have HO579 := Aside0.mk Q_HO579
     have HO582 := Aside0.mk Q_HO582
     have BK556 := m_ (Q_BK556 (hoff 15 (by kernel_rfl)))
     have BK585 := Aside0.mk Q_BK585
     have HB := Aside0.mk Q_HB
     have hc0_ : w'.cell? ⟨gb585, 0, none⟩ = some (.int .i64 t560) := bc BK585 0
     have hc1_ : w'.cell? ⟨gb585, 1, none⟩ = some (.int .i64 t561) := bc BK585 1
     have hc2_ : w'.cell? ⟨gb585, 2, none⟩ = some (.slice Ao16 t562.length co16) := bc BK585 2
     have hc3_ : w'.cell? ⟨gb585, 3, none⟩ = some (.slice Ao17 t565.length co17) := bc BK585 3
     have hc4_ : w'.cell? ⟨gb585, 4, none⟩ = some (.slice Ao18 t568.length co18) := bc BK585 4
     have hc5_ : w'.cell? ⟨gb585, 5, none⟩ = some (.slice Ao19 t571.length co19) := bc BK585 5
     have hc6_ : w'.cell? ⟨gb585, 6, none⟩ = some (.slice Ao20 t574.length co20) := bc BK585 6
     have hc7_ : w'.cell? ⟨gb585, 7, none⟩ = some (.slice Ao21 t577.length co21) := bc BK585 7
     have hc8_ : w'.cell? ⟨gb585, 8, none⟩ = some (.slice Ao22 t580.length co22) := bc BK585 8
     have hc9_ : w'.cell? ⟨gb585, 9, none⟩ = some (.int .i64 t583) := bc BK585 9
     refine value_ (w1 := w') (v := .slice Ao19 t571.length co19) (by rfl) rfl ?_ ?_
     ·go_simp
      (try simp only [i64_w])
      try rfl
     refine hK.out _ _ ⟨v587, adz_v587, m6_, (by rw [ha.out]; exact putSel_upk 7 hb_ rfl rfl rfl), Q_HO564, Q_HO567, Q_HO570, Q_HO573, Q_HO576, Q_HO579, Q_HO582, Q_BK556, Q_BK585, Q_HI559, Q_HB, Q_HO588, Q_HA_HO588, Q_HI559_e3, fun h0_ => absurd ((hoff 13 (by kernel_rfl)).symm.trans h0_) (by decide), fun h0_ => absurd ((hoff 15 (by kernel_rfl)).symm.trans h0_) (by decide), Q_X6_⟩
    refine steps_cons ?_ ?_
    ·rintro b a w' ⟨v587, adz_v587, m6_, ha, Q_HO564, Q_HO567, Q_HO570, Q_HO573, Q_HO576, Q_HO579, Q_HO582, Q_BK556, Q_BK585, Q_HI559, Q_HB, Q_HO588, Q_HA_HO588, Q_HI559_e3, Q_HI559_e13, Q_BK556_e15, Q_X6_⟩ hb_ hon hoff
     refine ⟨_, rfl, fun K hK => ?_⟩
     have e21 : a.tmps[21]? = some (.slice Ao19 t571.length co19) := by rw [ha]; exact putSel_on (e := (10, 21, .slice Ao19 t571.length co19)) 7 rfl rfl (hon 10 (by kernel_rfl)) rfl
     replace ha := Aside0.mk ha
     have HO564 := Aside0.mk Q_HO564
     have HO567 := Aside0.mk Q_HO567
     have HO570 := Aside0.mk Q_HO570
     have HO573 := Aside0.mk Q_HO573
     have HO576 := Aside0.mk Q_HO576
     have HO579 := Aside0.mk Q_HO579
     have HO582 := Aside0.mk Q_HO582
     have BK556 := m_ (Q_BK556 (hoff 15 (by kernel_rfl)))
     have BK585 := Aside0.mk Q_BK585
     have HB := Aside0.mk Q_HB
     refine value_ (w1 := w') (v := .int .i64 (t571.length : Int)) (by rfl) rfl ?_ ?_
     ·go_simp
      (try simp only [i64_w])
      try rfl
     refine hK.out _ _ ⟨v587, adz_v587, m6_, (by rw [ha.out]; exact putSel_upk 8 hb_ rfl rfl rfl), Q_HO564, Q_HO567, Q_HO570, Q_HO573, Q_HO576, Q_HO579, Q_HO582, Q_BK556, Q_BK585, Q_HI559, Q_HB, Q_HO588, Q_HA_HO588, Q_HI559_e3, fun h0_ => absurd ((hoff 13 (by kernel_rfl)).symm.trans h0_) (by decide), fun h0_ => absurd ((hoff 15 (by kernel_rfl)).symm.trans h0_) (by decide), Q_X6_⟩
    refine steps_cons ?_ ?_
    ·rintro b a w' ⟨v587, adz_v587, m6_, ha, Q_HO564, Q_HO567, Q_HO570, Q_HO573, Q_HO576, Q_HO579, Q_HO582, Q_BK556, Q_BK585, Q_HI559, Q_HB, Q_HO588, Q_HA_HO588, Q_HI559_e3, Q_HI559_e13, Q_BK556_e15, Q_X6_⟩ hb_ hon hoff
     refine ⟨_, rfl, fun K hK => ?_⟩
     have e22 : a.tmps[22]? = some (.int .i64 (t571.length : Int)) := by rw [ha]; exact putSel_on (e := (11, 22, .int .i64 (t571.length : Int))) 8 rfl rfl (hon 11 (by kernel_rfl)) rfl
     replace ha := Aside0.mk ha
     have HO564 := Aside0.mk Q_HO564
     have HO567 := Aside0.mk Q_HO567
     have HO570 := Aside0.mk Q_HO570
     have HO573 := Aside0.mk Q_HO573
     have HO576 := Aside0.mk Q_HO576
     have HO579 := Aside0.mk Q_HO579
     have HO582 := Aside0.mk Q_HO582
     have BK556 := m_ (Q_BK556 (hoff 15 (by kernel_rfl)))
     have BK585 := Aside0.mk Q_BK585
     have HB := Aside0.mk Q_HB
     refine value_ (w1 := w') (v := .int .i64 (wrap64 ((t571.length : Int) + 2))) (by rfl) rfl ?_ ?_
     ·go_simp
      (try simp only [i64_w])
      try rfl
     refine hK.out _ _ ⟨v587, adz_v587, m6_, (by rw [ha.out]; exact putSel_upk 9 hb_ rfl rfl rfl), Q_HO564, Q_HO567, Q_HO570, Q_HO573, Q_HO576, Q_HO579, Q_HO582, Q_BK556, Q_BK585, Q_HI559, Q_HB, Q_HO588, Q_HA_HO588, Q_HI559_e3, fun h0_ => absurd ((hoff 13 (by kernel_rfl)).symm.trans h0_) (by decide), fun h0_ => absurd ((hoff 15 (by kernel_rfl)).symm.trans h0_) (by decide), Q_X6_⟩
    refine steps_cons ?_ ?_
    ·rintro b a w' ⟨v587, adz_v587, m6_, ha, Q_HO564, Q_HO567, Q_HO570, Q_HO573, Q_HO576, Q_HO579, Q_HO582, Q_BK556, Q_BK585, Q_HI559, Q_HB, Q_HO588, Q_HA_HO588, Q_HI559_e3, Q_HI559_e13, Q_BK556_e15, Q_X6_⟩ hb_ hon hoff
     refine ⟨_, rfl, fun K hK => ?_⟩
     have e19 : a.tmps[19]? = some (.pointer (some ⟨g559, 0, none⟩)) := by rw [ha]; exact (putSel_off rfl).trans rfl
     have e23 : a.tmps[23]? = some (.int .i64 (wrap64 ((t571.length : Int) + 2))) := by rw [ha]; exact putSel_on (e := (12, 23, .int .i64 (wrap64 ((t571.length : Int) + 2)))) 9 rfl rfl (hon 12 (by kernel_rfl)) rfl
     replace ha := Aside0.mk ha
     have HO564 := Aside0.mk Q_HO564
     have HO567 := Aside0.mk Q_HO567
     have HO570 := Aside0.mk Q_HO570
     have HO573 := Aside0.mk Q_HO573
     have HO576 := Aside0.mk Q_HO576
     have HO579 := Aside0.mk Q_HO579
     have HO582 := Aside0.mk Q_HO582
     have BK556 := m_ (Q_BK556 (hoff 15 (by kernel_rfl)))
     have BK585 := Aside0.mk Q_BK585
     have HB := Aside0.mk Q_HB
     have HI559 := m_ (Q_HI559_e3 (hon 3 (by kernel_rfl)) hb_)
     refine goes_ Tryd.func46 (by kernel_rfl) rfl #[.pointer (some ⟨g559, 0, none⟩), .int .i64 (wrap64 ((t571.length : Int) + 2))] (by rfl) rfl rfl (by first | (simp only [List.map_toArray, List.map_cons, List.map_nil, Act.eval, Array.getD_eq_getD_getElem?, Option.getD_some, e19, e23]; done) | (simp only [List.map_toArray, List.map_cons, List.map_nil, Act.eval, Array.getD_eq_getD_getElem?, Option.getD_some, e19, e23]; rfl)) ?_
     with_reducible refine (spec_l1Rd_pick.calls k g559 t557 t590 (wrap64 ((t571.length : Int) + 2)) t592 t593 w _ ?side1 ?side2 A8.out).mono ?_
     (case side1 => exact hI2 HI559.out NB559_556.out NB559_585.out)
     (case side2 => exact hB3 HB.out (IsS86.ge HI559.out) GE556.out GE585.out)
     rintro e w27 ⟨rfl, hi, hb, hk⟩
     refine ⟨_, rfl, ?_⟩
     have n0_ := m_ (KeepBut.blk hk (g' := gb556) (o := .cells #[.int .i64 0, .int .i64 0, .slice none 0 0, .slice none 0 0, .slice none 0 0, .slice none 0 0, .slice none 0 0, .slice none 0 0, .slice none 0 0, .int .i64 0] 32 (0, 0)) (kN BK556.out) NB556_559.out (by simp))
     have n1_ := m_ (Kd.N_mono (Kd.N_keep (Kd.N_mono (ok := fun k_ => (((w.heap.size ≤ k_)) ∧ (nb Ao17 t565.length co17 k_ ∧ (nb Ao18 t568.length co18 k_ ∧ (nb Ao19 t571.length co19 k_ ∧ (nb Ao20 t574.length co20 k_ ∧ (nb Ao21 t577.length co21 k_ ∧ (nb Ao22 t580.length co22 k_ ∧ (k_ ≠ gb556 ∧ (k_ ≠ g559 ∧ k_ ≠ gb585)))))))))) (by (with_reducible repeat (first | apply Kd.N_alloc | apply Kd.N_drewN | apply Kd.N_drew)); exact HO564.out) (fun k_ hk_ => (⟨hk_, hk_.2.2.2.2.2.2.2.2.1⟩ : _ ∧ k_ ≠ g559))) hk (fun _ h => h.2)) (fun _ h => h.1))
     have n2_ := m_ (Kd.R_mono (Kd.R_keep (IsS86.apart (show IsS86 w _ g559 t557 t590 from (hI2 HI559.out NB559_556.out NB559_585.out)) (rN HO567.out) (by decide)) hk (fun _ h => h.2)) (fun _ h => h.1))
     have n3_ := m_ (Kd.R_mono (Kd.R_keep (IsS86.apart (show IsS86 w _ g559 t557 t590 from (hI2 HI559.out NB559_556.out NB559_585.out)) (rN HO570.out) (by decide)) hk (fun _ h => h.2)) (fun _ h => h.1))
     have n4_ := m_ (Kd.R_mono (Kd.R_keep (IsS86.apart (show IsS86 w _ g559 t557 t590 from (hI2 HI559.out NB559_556.out NB559_585.out)) (rN HO573.out) (by decide)) hk (fun _ h => h.2)) (fun _ h => h.1))
     have n5_ := m_ (Kd.R_mono (Kd.R_keep (IsS86.apart (show IsS86 w _ g559 t557 t590 from (hI2 HI559.out NB559_556.out NB559_585.out)) (rN HO576.out) (by decide)) hk (fun _ h => h.2)) (fun _ h => h.1))
     have n6_ := m_ (Kd.R_mono (Kd.R_keep (IsS86.apart (show IsS86 w _ g559 t557 t590 from (hI2 HI559.out NB559_556.out NB559_585.out)) (rN HO579.out) (by decide)) hk (fun _ h => h.2)) (fun _ h => h.1))
     have n7_ := m_ (Kd.R_mono (Kd.R_keep (IsS86.apart (show IsS86 w _ g559 t557 t590 from (hI2 HI559.out NB559_556.out NB559_585.out)) (rN HO582.out) (by decide)) hk (fun _ h => h.2)) (fun _ h => h.1))
     have n8_ := m_ (KeepBut.blk hk (g' := gb585) (o := .cells #[.int .i64 t560, .int .i64 t561, .slice Ao16 t562.length co16, .slice Ao17 t565.length co17, .slice Ao18 t568.length co18, .slice Ao19 t571.length co19, .slice Ao20 t574.length co20, .slice Ao21 t577.length co21, .slice Ao22 t580.length co22, .int .i64 t583] 32 (0, 0)) (kN BK585.out) NB585_559.out (by simp))
     have n9_ := m_ (hb)
     have n10_ := m_ (hi)
     have z_HO588 := fun (h0_ : b 1 = true) => (show Kd.R (Kd.int .i64) 3 w27 w.heap.size (fun k_ => (w.heap.size ≤ k_) ∧ nb Ao17 t565.length co17 k_ ∧ nb Ao18 t568.length co18 k_ ∧ nb Ao19 t571.length co19 k_ ∧ nb Ao20 t574.length co20 k_ ∧ nb Ao21 t577.length co21 k_) v587 y586 from by first | exact (Kd.R_mono (Kd.R_keep (IsS86.apart (show IsS86 w _ g559 t557 t590 from (hI2 HI559.out NB559_556.out NB559_585.out)) (by (with_reducible repeat (first | apply Kd.R_alloc | apply Kd.R_drewN | apply Kd.R_drew)); exact (Q_HO588 h0_)) (by decide)) hk (fun _ h => h.2)) (fun _ h => h.1)) | exact Kd.R_mono (Kd.R_mono (Kd.R_keep (IsS86.apart (show IsS86 w _ g559 t557 t590 from (hI2 HI559.out NB559_556.out NB559_585.out)) (by (with_reducible repeat (first | apply Kd.R_alloc | apply Kd.R_drewN | apply Kd.R_drew)); exact (Q_HO588 h0_)) (by decide)) hk (fun _ h => h.2)) (fun _ h => h.1)) (fun _ h_ => by first | trivial | exact h_ | exact h_.1))
     clear BK556 HO564 HO567 HO570 HO573 HO576 HO579 HO582 BK585 HB HI559
     have BK556 := n0_
     have HO564 := n1_; have HO567 := n2_
     have HO570 := n3_; have HO573 := n4_
     have HO576 := n5_; have HO579 := n6_
     have HO582 := n7_; have BK585 := n8_
     have HB := n9_; have HI559 := n10_
     clear n0_ n1_ n2_ n3_ n4_ n5_ n6_ n7_ n8_ n9_ n10_
     (try clear hb)
     (try clear hb2)
     (try clear hk)
     (try clear hi)
     refine hK.out _ _ ⟨v587, adz_v587, m6_, (by rw [ha.out]; exact putSel_upk 10 hb_ rfl rfl rfl), (by (with_reducible repeat (first | apply Kd.N_alloc | apply Kd.N_drewN | apply Kd.N_drew)); exact HO564.out), (rN HO567.out), (rN HO570.out), (rN HO573.out), (rN HO576.out), (rN HO579.out), (rN HO582.out), fun _ => (kN BK556.out), (kN BK585.out), fun h0_ => absurd ((hon 3 (by kernel_rfl)).symm.trans h0_) (by decide), ((hB3 HB.out (IsS86.ge HI559.out) GE556.out GE585.out)), z_HO588, Q_HA_HO588, fun _ h1_ => absurd ((up_self b 13).symm.trans h1_) (by decide), fun _ => ((hI2 HI559.out NB559_556.out NB559_585.out)), fun h0_ => absurd ((hoff 15 (by kernel_rfl)).symm.trans h0_) (by decide), Q_X6_⟩
    refine steps_cons ?_ ?_
    ·rintro b a w' ⟨v587, adz_v587, m6_, ha, Q_HO564, Q_HO567, Q_HO570, Q_HO573, Q_HO576, Q_HO579, Q_HO582, Q_BK556, Q_BK585, Q_HI559, Q_HB, Q_HO588, Q_HA_HO588, Q_HI559_e3, Q_HI559_e13, Q_BK556_e15, Q_X6_⟩ hb_ hon hoff
     refine ⟨_, rfl, fun K hK => ?_⟩
     have e24 : a.tmps[24]? = some (.int .i64 t592) := by rw [ha]; exact putSel_on (e := (13, 24, .int .i64 t592)) 10 rfl rfl (hon 13 (by kernel_rfl)) rfl
     replace ha := Aside0.mk ha
     have HO564 := Aside0.mk Q_HO564
     have HO567 := Aside0.mk Q_HO567
     have HO570 := Aside0.mk Q_HO570
     have HO573 := Aside0.mk Q_HO573
     have HO576 := Aside0.mk Q_HO576
     have HO579 := Aside0.mk Q_HO579
     have HO582 := Aside0.mk Q_HO582
     have BK585 := Aside0.mk Q_BK585
     have HB := Aside0.mk Q_HB
     have HI559 := m_ (Q_HI559_e13 (hon 13 (by kernel_rfl)))
     refine value_ (w1 := w') (v := .int .i64 (wrap64 (t592 - 1))) (by rfl) rfl ?_ ?_
     ·go_simp
      (try simp only [i64_w])
      try rfl
     refine hK.out _ _ ⟨v587, adz_v587, m6_, (by rw [ha.out]; exact putSel_upk 11 hb_ rfl rfl rfl), Q_HO564, Q_HO567, Q_HO570, Q_HO573, Q_HO576, Q_HO579, Q_HO582, Q_BK556, Q_BK585, fun h0_ => absurd ((hon 3 (by kernel_rfl)).symm.trans h0_) (by decide), Q_HB, Q_HO588, Q_HA_HO588, fun _ h1_ => absurd ((hon 13 (by kernel_rfl)).symm.trans h1_) (by decide), Q_HI559_e13, Q_BK556_e15, Q_X6_⟩
    refine steps_cons ?_ ?_
    ·rintro b a w' ⟨v587, adz_v587, m6_, ha, Q_HO564, Q_HO567, Q_HO570, Q_HO573, Q_HO576, Q_HO579, Q_HO582, Q_BK556, Q_BK585, Q_HI559, Q_HB, Q_HO588, Q_HA_HO588, Q_HI559_e3, Q_HI559_e13, Q_BK556_e15, Q_X6_⟩ hb_ hon hoff
     refine ⟨_, rfl, fun K hK => ?_⟩
     have e2 : a.tmps[2]? = some (.pointer (some ⟨gb556, 0, none⟩)) := by rw [ha]; exact (putSel_off rfl).trans rfl
     have e11 : a.tmps[11]? = some (.agg #[.int .i64 t560, .int .i64 t561, .slice Ao16 t562.length co16, .slice Ao17 t565.length co17, .slice Ao18 t568.length co18, .slice Ao19 t571.length co19, .slice Ao20 t574.length co20, .slice Ao21 t577.length co21, .slice Ao22 t580.length co22, .int .i64 t583]) := by rw [ha]; exact putSel_on (e := (0, 11, .agg #[.int .i64 t560, .int .i64 t561, .slice Ao16 t562.length co16, .slice Ao17 t565.length co17, .slice Ao18 t568.length co18, .slice Ao19 t571.length co19, .slice Ao20 t574.length co20, .slice Ao21 t577.length co21, .slice Ao22 t580.length co22, .int .i64 t583])) 0 rfl rfl (hon 0 (by kernel_rfl)) rfl
     replace ha := Aside0.mk ha
     have HO564 := Aside0.mk Q_HO564
     have HO567 := Aside0.mk Q_HO567
     have HO570 := Aside0.mk Q_HO570
     have HO573 := Aside0.mk Q_HO573
     have HO576 := Aside0.mk Q_HO576
     have HO579 := Aside0.mk Q_HO579
     have HO582 := Aside0.mk Q_HO582
     have BK556 := m_ (Q_BK556 hb_)
     have BK585 := Aside0.mk Q_BK585
     have HB := Aside0.mk Q_HB
     have HI559 := m_ (Q_HI559_e13 (hon 13 (by kernel_rfl)))
     have hs28 : w'.cell? ⟨gb556, 0, none⟩ = some (.int .i64 0) := bc BK556 0
     have hfs28 := blk_frozen BK556.out 0
     have hns28_1 := NB585_556.out
     have hms28_1 := NB556_585.out
     have hs29 : w'.cell? ⟨gb556, 1, none⟩ = some (.int .i64 0) := bc BK556 1
     have hfs29 := blk_frozen BK556.out 1
     have hns29_1 := NB585_556.out
     have hms29_1 := NB556_585.out
     have hs30 : w'.cell? ⟨gb556, 2, none⟩ = some (.slice none 0 0) := bc BK556 2
     have hfs30 := blk_frozen BK556.out 2
     have hns30_1 := NB585_556.out
     have hms30_1 := NB556_585.out
     have hs31 : w'.cell? ⟨gb556, 3, none⟩ = some (.slice none 0 0) := bc BK556 3
     have hfs31 := blk_frozen BK556.out 3
     have hns31_1 := NB585_556.out
     have hms31_1 := NB556_585.out
     have hs32 : w'.cell? ⟨gb556, 4, none⟩ = some (.slice none 0 0) := bc BK556 4
     have hfs32 := blk_frozen BK556.out 4
     have hns32_1 := NB585_556.out
     have hms32_1 := NB556_585.out
     have hs33 : w'.cell? ⟨gb556, 5, none⟩ = some (.slice none 0 0) := bc BK556 5
     have hfs33 := blk_frozen BK556.out 5
     have hns33_1 := NB585_556.out
     have hms33_1 := NB556_585.out
     have hs34 : w'.cell? ⟨gb556, 6, none⟩ = some (.slice none 0 0) := bc BK556 6
     have hfs34 := blk_frozen BK556.out 6
     have hns34_1 := NB585_556.out
     have hms34_1 := NB556_585.out
     have hs35 : w'.cell? ⟨gb556, 7, none⟩ = some (.slice none 0 0) := bc BK556 7
     have hfs35 := blk_frozen BK556.out 7
     have hns35_1 := NB585_556.out
     have hms35_1 := NB556_585.out
     have hs36 : w'.cell? ⟨gb556, 8, none⟩ = some (.slice none 0 0) := bc BK556 8
     have hfs36 := blk_frozen BK556.out 8
     have hns36_1 := NB585_556.out
     have hms36_1 := NB556_585.out
     have hs37 : w'.cell? ⟨gb556, 9, none⟩ = some (.int .i64 0) := bc BK556 9
     have hfs37 := blk_frozen BK556.out 9
     have hns37_1 := NB585_556.out
     have hms37_1 := NB556_585.out
     refine skip_ (w1 := ?_) (by rfl) rfl ?_ ?_
     rotate_left
     ·go_simp
      rfl
     refine hK.out _ _ ⟨v587, adz_v587, m6_, (by rw [ha.out]; exact putSel_none (v := undef) rfl), (by (with_reducible repeat (first | apply Kd.N_alloc | apply Kd.N_drewN | apply Kd.N_drew)); exact Kd.N_mono (Kd.N_far (p := ⟨gb556, 9, none⟩) (Kd.N_far (p := ⟨gb556, 8, none⟩) (Kd.N_far (p := ⟨gb556, 7, none⟩) (Kd.N_far (p := ⟨gb556, 6, none⟩) (Kd.N_far (p := ⟨gb556, 5, none⟩) (Kd.N_far (p := ⟨gb556, 4, none⟩) (Kd.N_far (p := ⟨gb556, 3, none⟩) (Kd.N_far (p := ⟨gb556, 2, none⟩) (Kd.N_far (p := ⟨gb556, 1, none⟩) (Kd.N_far (p := ⟨gb556, 0, none⟩) (Kd.N_mono HO564.out (fun k_ hk => (⟨hk, hk.2.2.2.2.2.2.2.1⟩ : _ ∧ k_ ≠ gb556))) (fun _ hk => hk.2) (.int .i64 t560)) (fun _ hk => hk.2) (.int .i64 t561)) (fun _ hk => hk.2) (.slice Ao16 t562.length co16)) (fun _ hk => hk.2) (.slice Ao17 t565.length co17)) (fun _ hk => hk.2) (.slice Ao18 t568.length co18)) (fun _ hk => hk.2) (.slice Ao19 t571.length co19)) (fun _ hk => hk.2) (.slice Ao20 t574.length co20)) (fun _ hk => hk.2) (.slice Ao21 t577.length co21)) (fun _ hk => hk.2) (.slice Ao22 t580.length co22)) (fun _ hk => hk.2) (.int .i64 t583)) (fun _ hk => ⟨hk.1.1, ⟨hk.1.2.1, ⟨hk.1.2.2.1, ⟨hk.1.2.2.2.1, ⟨hk.1.2.2.2.2.1, ⟨hk.1.2.2.2.2.2.1, ⟨hk.1.2.2.2.2.2.2.1, ⟨hk.1.2.2.2.2.2.2.2.1, ⟨hk.1.2.2.2.2.2.2.2.2.1, hk.1.2.2.2.2.2.2.2.2.2⟩⟩⟩⟩⟩⟩⟩⟩⟩)), (frM (Kd.R_types HO567.out BK556.out (by decide))), (frM (Kd.R_types HO570.out BK556.out (by decide))), (frM (Kd.R_types HO573.out BK556.out (by decide))), (frM (Kd.R_types HO576.out BK556.out (by decide))), (frM (Kd.R_types HO579.out BK556.out (by decide))), (frM (Kd.R_types HO582.out BK556.out (by decide))), fun h0_ => absurd ((up_self b 15).symm.trans h0_) (by decide), (kF BK585.out NB585_556.out), fun h0_ => absurd ((hon 3 (by kernel_rfl)).symm.trans h0_) (by decide), ((hB3 HB.out (IsS86.ge HI559.out) GE556.out GE585.out)), fun h0_ => (frM (Kd.R_types (Q_HO588 h0_) BK556.out (by decide))), Q_HA_HO588, fun _ h1_ => absurd ((hon 13 (by kernel_rfl)).symm.trans h1_) (by decide), fun _ => ((hI2 HI559.out NB559_556.out NB559_585.out)), fun _ => (by (with_reducible repeat (first | refine blk_drewN ?_ _ | refine blk_drew ?_ | refine blk_alloc ?_ _)); apply put10; (with_reducible repeat (first | refine blk_drewN ?_ _ | refine blk_drew ?_ | refine blk_alloc ?_ _)); exact BK556.out), Q_X6_⟩
    refine steps_cons ?_ ?_
    ·rintro b a w' ⟨v587, adz_v587, m6_, ha, Q_HO564, Q_HO567, Q_HO570, Q_HO573, Q_HO576, Q_HO579, Q_HO582, Q_BK556, Q_BK585, Q_HI559, Q_HB, Q_HO588, Q_HA_HO588, Q_HI559_e3, Q_HI559_e13, Q_BK556_e15, Q_X6_⟩ hb_ hon hoff
     refine ⟨_, rfl, fun K hK => ?_⟩
     have e18 : a.tmps[18]? = some (.int .i64 (rd y586 (ji5))) := by rw [ha]; exact putSel_on (e := (7, 18, .int .i64 (rd y586 (ji5)))) 6 rfl rfl (hon 7 (by kernel_rfl)) rfl
     replace ha := Aside0.mk ha
     have HO564 := Aside0.mk Q_HO564
     have HO567 := Aside0.mk Q_HO567
     have HO570 := Aside0.mk Q_HO570
     have HO573 := Aside0.mk Q_HO573
     have HO576 := Aside0.mk Q_HO576
     have HO579 := Aside0.mk Q_HO579
     have HO582 := Aside0.mk Q_HO582
     have BK585 := Aside0.mk Q_BK585
     have HB := Aside0.mk Q_HB
     have HO588 := m_ (Q_HO588 (hon 1 (by kernel_rfl)))
     have HA_HO588 := m_ (Q_HA_HO588 (hon 1 (by kernel_rfl)))
     have HI559 := m_ (Q_HI559_e13 (hon 13 (by kernel_rfl)))
     have BK556 := m_ (Q_BK556_e15 (hon 15 (by kernel_rfl)))
     refine value_ (w1 := w') (v := .int .i64 (rd y586 (ji5))) (by rfl) rfl ?_ ?_
     ·go_simp
      (try simp only [i64_w])
      try rfl
     refine hK.out _ _ ⟨v587, adz_v587, m6_, (by rw [ha.out]; exact putSel_upk 12 hb_ rfl rfl rfl), Q_HO564, Q_HO567, Q_HO570, Q_HO573, Q_HO576, Q_HO579, Q_HO582, fun h0_ => absurd ((hon 15 (by kernel_rfl)).symm.trans h0_) (by decide), Q_BK585, fun h0_ => absurd ((hon 3 (by kernel_rfl)).symm.trans h0_) (by decide), Q_HB, Q_HO588, Q_HA_HO588, fun _ h1_ => absurd ((hon 13 (by kernel_rfl)).symm.trans h1_) (by decide), Q_HI559_e13, Q_BK556_e15, Q_X6_⟩
    refine steps_cons ?_ ?_
    ·rintro b a w' ⟨v587, adz_v587, m6_, ha, Q_HO564, Q_HO567, Q_HO570, Q_HO573, Q_HO576, Q_HO579, Q_HO582, Q_BK556, Q_BK585, Q_HI559, Q_HB, Q_HO588, Q_HA_HO588, Q_HI559_e3, Q_HI559_e13, Q_BK556_e15, Q_X6_⟩ hb_ hon hoff
     refine ⟨_, rfl, fun K hK => ?_⟩
     have e25 : a.tmps[25]? = some (.int .i64 (wrap64 (t592 - 1))) := by rw [ha]; exact putSel_on (e := (14, 25, .int .i64 (wrap64 (t592 - 1)))) 11 rfl rfl (hon 14 (by kernel_rfl)) rfl
     replace ha := Aside0.mk ha
     have HO564 := Aside0.mk Q_HO564
     have HO567 := Aside0.mk Q_HO567
     have HO570 := Aside0.mk Q_HO570
     have HO573 := Aside0.mk Q_HO573
     have HO576 := Aside0.mk Q_HO576
     have HO579 := Aside0.mk Q_HO579
     have HO582 := Aside0.mk Q_HO582
     have BK585 := Aside0.mk Q_BK585
     have HB := Aside0.mk Q_HB
     have HO588 := m_ (Q_HO588 (hon 1 (by kernel_rfl)))
     have HA_HO588 := m_ (Q_HA_HO588 (hon 1 (by kernel_rfl)))
     have HI559 := m_ (Q_HI559_e13 (hon 13 (by kernel_rfl)))
     have BK556 := m_ (Q_BK556_e15 (hon 15 (by kernel_rfl)))
     refine value_ (w1 := w') (v := .int .i64 (wrap64 (t592 - 1))) (by rfl) rfl ?_ ?_
     ·go_simp
      (try simp only [i64_w])
      try rfl
     refine hK.out _ _ ⟨v587, adz_v587, m6_, (by rw [ha.out]; exact putSel_upk 13 hb_ rfl rfl rfl), Q_HO564, Q_HO567, Q_HO570, Q_HO573, Q_HO576, Q_HO579, Q_HO582, fun h0_ => absurd ((hon 15 (by kernel_rfl)).symm.trans h0_) (by decide), Q_BK585, fun h0_ => absurd ((hon 3 (by kernel_rfl)).symm.trans h0_) (by decide), Q_HB, Q_HO588, Q_HA_HO588, fun _ h1_ => absurd ((hon 13 (by kernel_rfl)).symm.trans h1_) (by decide), Q_HI559_e13, Q_BK556_e15, Q_X6_⟩
    exact steps_nil
   rintro b a w40 hall ⟨v587, adz_v587, m6_, ha, Q_HO564, Q_HO567, Q_HO570, Q_HO573, Q_HO576, Q_HO579, Q_HO582, Q_BK556, Q_BK585, Q_HI559, Q_HB, Q_HO588, Q_HA_HO588, Q_HI559_e3, Q_HI559_e13, Q_BK556_e15, Q_X6_⟩
   clear BK556 BK585 HB HI559 HO564 HO567 HO570 HO573 HO576 HO579 HO582
   have hb0_ := hall 0 (by kernel_rfl)
   have hb1_ := hall 1 (by kernel_rfl)
   have hb3_ := hall 3 (by kernel_rfl)
   have hb4_ := hall 4 (by kernel_rfl)
   have hb5_ := hall 5 (by kernel_rfl)
   have hb6_ := hall 6 (by kernel_rfl)
   have hb7_ := hall 7 (by kernel_rfl)
   have hb10_ := hall 10 (by kernel_rfl)
   have hb11_ := hall 11 (by kernel_rfl)
   have hb12_ := hall 12 (by kernel_rfl)
   have hb13_ := hall 13 (by kernel_rfl)
   have hb14_ := hall 14 (by kernel_rfl)
   have hb15_ := hall 15 (by kernel_rfl)
   have hb16_ := hall 16 (by kernel_rfl)
   have hb17_ := hall 17 (by kernel_rfl)
   subst ha
   obtain rfl := Q_X6_ hb6_
   simp only [putSel, hb0_, hb1_, hb3_, hb4_, hb5_, hb6_, hb7_, hb10_, hb11_, hb12_, hb13_, hb14_, hb15_, hb16_, hb17_, if_true, Act.put, List.setIfInBounds_toArray, List.set_cons_zero, List.set_cons_succ]
   have HO564 := Aside0.mk Q_HO564
   clear Q_HO564
   have HO567 := Aside0.mk Q_HO567
   clear Q_HO567
   have HO570 := Aside0.mk Q_HO570
   clear Q_HO570
   have HO573 := Aside0.mk Q_HO573
   clear Q_HO573
   have HO576 := Aside0.mk Q_HO576
   clear Q_HO576
   have HO579 := Aside0.mk Q_HO579
   clear Q_HO579
   have HO582 := Aside0.mk Q_HO582
   clear Q_HO582 Q_BK556
   have BK585 := Aside0.mk Q_BK585
   clear Q_BK585 Q_HI559
   have HB := Aside0.mk Q_HB
   clear Q_HB
   have HO588 := m_ (Q_HO588 hb1_)
   clear Q_HO588
   have HA_HO588 := m_ (Q_HA_HO588 hb1_)
   clear Q_HA_HO588 Q_HI559_e3
   have HI559 := m_ (Q_HI559_e13 hb13_)
   clear Q_HI559_e13
   have BK556 := m_ (Q_BK556_e15 hb15_)
   clear Q_BK556_e15 hall hb0_ hb1_ hb3_ hb4_ hb5_ hb6_ hb7_ hb10_ hb11_ hb12_ hb13_ hb14_ hb15_ hb16_ hb17_
   obtain ⟨co41, eo41⟩ := HA_HO588.out
   clear HA_HO588
   subst eo41
   try go_wp2
   refine bodyPost_ret (results_ctt rfl _ _ gb556 32 #[.int .i64 t560, .int .i64 t561, .slice Ao16 t562.length co16, .slice Ao17 t565.length co17, .slice Ao18 t568.length co18, .slice Ao19 t571.length co19, .slice Ao20 t574.length co20, .slice Ao21 t577.length co21, .slice Ao22 t580.length co22, .int .i64 t583] (0, 0) _ rfl (kN BK556.out) Tryd.underlying32 rfl (by kernel_rfl)) rfl ?_
   exact ⟨_, _, _, _, _, _, _, by first | rfl | (simp [errW_none, errW_some] <;> rfl) | (simp only [← hji5]; first | rfl | (simp [errW_none, errW_some] <;> rfl)) | (simp [*, errW_none, errW_some] <;> rfl), by (with_reducible repeat (first | apply Kd.N_alloc | apply Kd.N_drewN | apply Kd.N_drew)); exact Kd.N_mono HO564.out (fun _ hk => by (try simp only [nb] at hk ⊢); simp only [hk, ne_eq, not_false_eq_true, and_self]), by (with_reducible repeat (first | apply Kd.R_alloc | apply Kd.R_drewN | apply Kd.R_drew)); exact Kd.R_mono HO567.out (fun _ hk => by (try simp only [nb] at hk ⊢); simp only [hk, ne_eq, not_false_eq_true, and_self]), by (with_reducible repeat (first | apply Kd.R_alloc | apply Kd.R_drewN | apply Kd.R_drew)); exact Kd.R_mono HO570.out (fun _ hk => by (try simp only [nb] at hk ⊢); simp only [hk, ne_eq, not_false_eq_true, and_self]), by (with_reducible repeat (first | apply Kd.R_alloc | apply Kd.R_drewN | apply Kd.R_drew)); exact Kd.R_mono HO573.out (fun _ hk => by (try simp only [nb] at hk ⊢); simp only [hk, ne_eq, not_false_eq_true, and_self]), by (with_reducible repeat (first | apply Kd.R_alloc | apply Kd.R_drewN | apply Kd.R_drew)); exact Kd.R_mono HO576.out (fun _ hk => by (try simp only [nb] at hk ⊢); simp only [hk, ne_eq, not_false_eq_true, and_self]), by (with_reducible repeat (first | apply Kd.R_alloc | apply Kd.R_drewN | apply Kd.R_drew)); exact Kd.R_mono HO579.out (fun _ hk => by (try simp only [nb] at hk ⊢); simp only [hk, ne_eq, not_false_eq_true, and_self]), rN HO582.out, (hB3 HB.out (IsS86.ge HI559.out) GE556.out GE585.out)⟩
  ·rw [if_neg c7] at H
   exact absurd H (by simp)
 ·rw [if_neg c6] at H
  exact absurd H (by simp)

/-! ### laws_FnConfTurn: function 6 -/
def laws_FnConfTurn.f (k : Nat) (l0 : List Int) : Option (Bool) := if (l0.length : Int) > 1048576 then (some true) else ((spec_DrawConfTurn.f k l0).bind fun bt594 => ((impl_ConfTurn.f k bt594.1 bt594.2.1 bt594.2.2.1 bt594.2.2.2.1 bt594.2.2.2.2.1 bt594.2.2.2.2.2.1 bt594.2.2.2.2.2.2.1 bt594.2.2.2.2.2.2.2.1 bt594.2.2.2.2.2.2.2.2.1 bt594.2.2.2.2.2.2.2.2.2.1 bt594.2.2.2.2.2.2.2.2.2.2.1 bt594.2.2.2.2.2.2.2.2.2.2.2).bind fun t621 => ((spec_ConfTurn.f k bt594.1 bt594.2.1 bt594.2.2.1 bt594.2.2.2.1 bt594.2.2.2.2.1 bt594.2.2.2.2.2.1 bt594.2.2.2.2.2.2.1 bt594.2.2.2.2.2.2.2.1 bt594.2.2.2.2.2.2.2.2.1 bt594.2.2.2.2.2.2.2.2.2.1 bt594.2.2.2.2.2.2.2.2.2.2.1 bt594.2.2.2.2.2.2.2.2.2.2.2).bind fun t622 => (if t621 = t622 then ((spec_ConfCheck.f k bt594.1 bt594.2.1 bt594.2.2.1 bt594.2.2.2.1 bt594.2.2.2.2.1 bt594.2.2.2.2.2.1 bt594.2.2.2.2.2.2.1 bt594.2.2.2.2.2.2.2.1 bt594.2.2.2.2.2.2.2.2.1 bt594.2.2.2.2.2.2.2.2.2.1).bind fun t623 => (if t623 = 0 then (if bt594.2.2.2.2.2.2.2.2.2.2.1 > 1 then (some (t621 == (-1))) else (if bt594.2.2.2.2.2.2.2.2.2.2.2 < 0 then (some (t621 == (-1))) else (if bt594.2.2.2.2.2.2.2.2.2.2.2 ≥ (bt594.2.2.2.2.2.1.length : Int) then (some (t621 == (-1))) else ((laws_skIn.f t621 (-1) (wrap64 ((bt594.2.2.1.length : Int) - 1))).bind fun t624 => (some t624))))) else (some (t621 == (-1))))) else (none)))))
theorem laws_FnConfTurn.mono : ∀ a0 k, LeO (laws_FnConfTurn.f k a0) (laws_FnConfTurn.f (k + 1) a0) := by
 intro a0 k
 unfold laws_FnConfTurn.f
 repeat' first
   | (with_reducible exact impl_ConfTurn.mono _ _ _ _ _ _ _ _ _ _ _ _ _)
   | (with_reducible exact spec_ConfCheck.mono _ _ _ _ _ _ _ _ _ _ _)
   | (with_reducible exact spec_ConfTurn.mono _ _ _ _ _ _ _ _ _ _ _ _ _)
   | (with_reducible exact spec_DrawConfTurn.mono _ _)
   | (with_reducible exact LeO.refl _)
   | (with_reducible exact LeO.none _)
   | (with_reducible refine LeO.ite ?_ ?_)
   | (with_reducible refine LeO.bind ?_ (fun _ => ?_))
   | exact impl_ConfTurn.mono _ _ _ _ _ _ _ _ _ _ _ _ _
   | exact spec_ConfCheck.mono _ _ _ _ _ _ _ _ _ _ _
   | exact spec_ConfTurn.mono _ _ _ _ _ _ _ _ _ _ _ _ _
   | exact spec_DrawConfTurn.mono _ _
   | exact LeO.none _
   | refine LeO.ite ?_ ?_
   | refine LeO.bind ?_ (fun _ => ?_)
set_option maxHeartbeats 8000000 in
set_option maxRecDepth 100000 in
theorem laws_FnConfTurn.calls (k : Nat) (A0 : Option Addr) (c0 : Nat) (l0 : List Int) (r : Bool) (w : World) (hr0 : Kd.C (Kd.int .u8) w A0 l0.length l0) (hc0 : l0.length ≤ c0) (h : laws_FnConfTurn.f k l0 = some r) (hG : GErr w) :
  Calls Tryd.prog 6 #[.slice A0 l0.length c0] w fun e w' => e = .returned (.bool r) ∧ Below w.heap.size w w' := by
 have HG0 := Aside0.mk hG
 clear hG
 have hu32 := Tryd.underlying32
 have HR0 := Aside0.mk hr0
 have HC0 := Aside0.mk hc0
 clear hr0 hc0
 have HB := m_ (Below.refl w.heap.size w)
 have H : (if (l0.length : Int) > 1048576 then (some true) else ((spec_DrawConfTurn.f k l0).bind fun bt594 => ((impl_ConfTurn.f k bt594.1 bt594.2.1 bt594.2.2.1 bt594.2.2.2.1 bt594.2.2.2.2.1 bt594.2.2.2.2.2.1 bt594.2.2.2.2.2.2.1 bt594.2.2.2.2.2.2.2.1 bt594.2.2.2.2.2.2.2.2.1 bt594.2.2.2.2.2.2.2.2.2.1 bt594.2.2.2.2.2.2.2.2.2.2.1 bt594.2.2.2.2.2.2.2.2.2.2.2).bind fun t621 => ((spec_ConfTurn.f k bt594.1 bt594.2.1 bt594.2.2.1 bt594.2.2.2.1 bt594.2.2.2.2.1 bt594.2.2.2.2.2.1 bt594.2.2.2.2.2.2.1 bt594.2.2.2.2.2.2.2.1 bt594.2.2.2.2.2.2.2.2.1 bt594.2.2.2.2.2.2.2.2.2.1 bt594.2.2.2.2.2.2.2.2.2.2.1 bt594.2.2.2.2.2.2.2.2.2.2.2).bind fun t622 => (if t621 = t622 then ((spec_ConfCheck.f k bt594.1 bt594.2.1 bt594.2.2.1 bt594.2.2.2.1 bt594.2.2.2.2.1 bt594.2.2.2.2.2.1 bt594.2.2.2.2.2.2.1 bt594.2.2.2.2.2.2.2.1 bt594.2.2.2.2.2.2.2.2.1 bt594.2.2.2.2.2.2.2.2.2.1).bind fun t623 => (if t623 = 0 then (if bt594.2.2.2.2.2.2.2.2.2.2.1 > 1 then (some (t621 == (-1))) else (if bt594.2.2.2.2.2.2.2.2.2.2.2 < 0 then (some (t621 == (-1))) else (if bt594.2.2.2.2.2.2.2.2.2.2.2 ≥ (bt594.2.2.2.2.2.1.length : Int) then (some (t621 == (-1))) else ((laws_skIn.f t621 (-1) (wrap64 ((bt594.2.2.1.length : Int) - 1))).bind fun t624 => (some t624))))) else (some (t621 == (-1))))) else (none)))))) = some r := h
 clear h
 by_cases c2 : (l0.length : Int) > 1048576
 ·rw [if_pos c2] at H
  have c2b0 : decide (1048576 < (l0.length : Int)) = true := decide_eq_true c2
  have c2b1 : decide (1048576 < l0.length) = true := decide_eq_true (by omega)
  clear c2
  obtain rfl := Option.some.inj H
  go_enter Tryd.func6, Tryd.ntmps6
  go_wp2
  go_ret
  exact ⟨rf_, (hB0 HB.out)⟩
 ·rw [if_neg c2] at H
  have c2b0 : decide (1048576 < (l0.length : Int)) = false := decide_eq_false c2
  have c2b1 : decide (1048576 < l0.length) = false := decide_eq_false (by omega)
  clear c2
  replace H := Option.bind_eq_some_iff.mp H
  obtain ⟨⟨t594, t595, t596, t599, t602, t605, t608, t611, t614, t617, t618, t619⟩, A30, H⟩ := H
  replace H : ((impl_ConfTurn.f k t594 t595 t596 t599 t602 t605 t608 t611 t614 t617 t618 t619).bind fun t621 => ((spec_ConfTurn.f k t594 t595 t596 t599 t602 t605 t608 t611 t614 t617 t618 t619).bind fun t622 => (if t621 = t622 then ((spec_ConfCheck.f k t594 t595 t596 t599 t602 t605 t608 t611 t614 t617).bind fun t623 => (if t623 = 0 then (if t618 > 1 then (some (t621 == (-1))) else (if t619 < 0 then (some (t621 == (-1))) else (if t619 ≥ (t605.length : Int) then (some (t621 == (-1))) else ((laws_skIn.f t621 (-1) (wrap64 ((t596.length : Int) - 1))).bind fun t624 => (some t624))))) else (some (t621 == (-1))))) else (none)))) = some r := H
  have A3 := Aside0.mk A30
  clear A30
  replace H := Option.bind_eq_some_iff.mp H
  obtain ⟨t621, A40, H⟩ := H
  replace H : ((spec_ConfTurn.f k t594 t595 t596 t599 t602 t605 t608 t611 t614 t617 t618 t619).bind fun t622 => (if t621 = t622 then ((spec_ConfCheck.f k t594 t595 t596 t599 t602 t605 t608 t611 t614 t617).bind fun t623 => (if t623 = 0 then (if t618 > 1 then (some (t621 == (-1))) else (if t619 < 0 then (some (t621 == (-1))) else (if t619 ≥ (t605.length : Int) then (some (t621 == (-1))) else ((laws_skIn.f t621 (-1) (wrap64 ((t596.length : Int) - 1))).bind fun t624 => (some t624))))) else (some (t621 == (-1))))) else (none))) = some r := H
  have A4 := Aside0.mk A40
  clear A40
  replace H := Option.bind_eq_some_iff.mp H
  obtain ⟨t622, A50, H⟩ := H
  replace H : (if t621 = t622 then ((spec_ConfCheck.f k t594 t595 t596 t599 t602 t605 t608 t611 t614 t617).bind fun t623 => (if t623 = 0 then (if t618 > 1 then (some (t621 == (-1))) else (if t619 < 0 then (some (t621 == (-1))) else (if t619 ≥ (t605.length : Int) then (some (t621 == (-1))) else ((laws_skIn.f t621 (-1) (wrap64 ((t596.length : Int) - 1))).bind fun t624 => (some t624))))) else (some (t621 == (-1))))) else (none)) = some r := H
  have A5 := Aside0.mk A50
  clear A50
  by_cases c6 : t621 = t622
  ·rw [if_pos c6] at H
   have c6b0 : (t621 == t622) = true := beq_iff_eq.mpr c6
   have c6b1 : (t621 != t622) = false := bne_eq_false_iff_eq.mpr c6
   clear c6
   replace H := Option.bind_eq_some_iff.mp H
   obtain ⟨t623, A70, H⟩ := H
   replace H : (if t623 = 0 then (if t618 > 1 then (some (t621 == (-1))) else (if t619 < 0 then (some (t621 == (-1))) else (if t619 ≥ (t605.length : Int) then (some (t621 == (-1))) else ((laws_skIn.f t621 (-1) (wrap64 ((t596.length : Int) - 1))).bind fun t624 => (some t624))))) else (some (t621 == (-1)))) = some r := H
   have A7 := Aside0.mk A70
   clear A70
   by_cases c8 : t623 = 0
   rotate_left
   rw [if_neg c8] at H
   have c8b0 : (t623 == 0) = false := beq_eq_false_iff_ne.mpr c8
   have c8b1 : (t623 != 0) = true := bne_iff_ne.mpr c8
   obtain rfl := Option.some.inj H
   rotate_left
   rw [if_pos c8] at H
   have c8b0 : (t623 == 0) = true := beq_iff_eq.mpr c8
   have c8b1 : (t623 != 0) = false := bne_eq_false_iff_eq.mpr c8
   clear c8
   by_cases c9 : t618 > 1
   rw [if_pos c9] at H
   have c9b0 : decide (1 < t618) = true := decide_eq_true c9
   clear c9
   obtain rfl := Option.some.inj H
   rotate_left
   rw [if_neg c9] at H
   have c9b0 : decide (1 < t618) = false := decide_eq_false c9
   clear c9
   by_cases c25 : t619 < 0
   rw [if_pos c25] at H
   have c25b0 : decide (t619 < 0) = true := decide_eq_true c25
   clear c25
   obtain rfl := Option.some.inj H
   rotate_left
   rw [if_neg c25] at H
   have c25b0 : decide (t619 < 0) = false := decide_eq_false c25
   clear c25
   by_cases c41 : t619 ≥ (t605.length : Int)
   rw [if_pos c41] at H
   have c41b0 : decide ((t605.length : Int) ≤ t619) = true := decide_eq_true c41
   clear c41
   obtain rfl := Option.some.inj H
   rotate_left
   rw [if_neg c41] at H
   have c41b0 : decide ((t605.length : Int) ≤ t619) = false := decide_eq_false c41
   clear c41
   replace H := Option.bind_eq_some_iff.mp H
   obtain ⟨t624, A580, H⟩ := H
   replace H : (some t624) = some r := H
   have A58 := Aside0.mk A580
   clear A580
   obtain rfl := Option.some.inj H
   all_goals
    go_enter Tryd.func6, Tryd.ntmps6
    go_wp2_with (first | ((with_reducible refine gate_callee (f := 21) rfl ?_); refine goesL_ (some 12) rfl rfl Tryd.func21 (by kernel_rfl) rfl #[.slice A0 l0.length c0] rfl gl_ ?_; (with_reducible refine (spec_DrawConfTurn.calls k _ _ l0 t594 t595 t596 t599 t602 t605 t608 t611 t614 t617 t618 t619 _ ?side1 ?side2 A3.out).mono ?_); (case side1 => exact cN HR0.out); (case side2 => exact HC0.out); rintro e w59 ⟨v597, v600, v603, v606, v609, v612, v615, rfl, ho0, ho1, ho2, ho3, ho4, ho5, ho6, hb⟩; refine ⟨_, rfl, ?_⟩; have n0_ := m_ (Kd.N_lower (Kd.N_mono (ok' := fun k_ => some k_ ≠ (v600 : Value).ownBlock ∧ some k_ ≠ (v603 : Value).ownBlock ∧ some k_ ≠ (v606 : Value).ownBlock ∧ some k_ ≠ (v609 : Value).ownBlock ∧ some k_ ≠ (v612 : Value).ownBlock ∧ some k_ ≠ (v615 : Value).ownBlock) ho0 (fun k_ hk_ => ⟨hk_.2.1, hk_.2.2.1, hk_.2.2.2.1, hk_.2.2.2.2.1, hk_.2.2.2.2.2.1, hk_.2.2.2.2.2.2⟩)) (below_size (bN HB.out))); have n1_ := m_ (Kd.R_lower (Kd.R_mono (ok' := fun k_ => some k_ ≠ (v603 : Value).ownBlock ∧ some k_ ≠ (v606 : Value).ownBlock ∧ some k_ ≠ (v609 : Value).ownBlock ∧ some k_ ≠ (v612 : Value).ownBlock) ho1 (fun _ hk_ => hk_.2)) (below_size (bN HB.out))); have n2_ := m_ (Kd.R_lower (Kd.R_mono (ok' := fun k_ => some k_ ≠ (v600 : Value).ownBlock ∧ some k_ ≠ (v606 : Value).ownBlock ∧ some k_ ≠ (v609 : Value).ownBlock ∧ some k_ ≠ (v612 : Value).ownBlock) ho2 (fun _ hk_ => hk_.2)) (below_size (bN HB.out))); have n3_ := m_ (Kd.R_lower (Kd.R_mono (ok' := fun k_ => some k_ ≠ (v600 : Value).ownBlock ∧ some k_ ≠ (v603 : Value).ownBlock ∧ some k_ ≠ (v609 : Value).ownBlock ∧ some k_ ≠ (v612 : Value).ownBlock) ho3 (fun _ hk_ => hk_.2)) (below_size (bN HB.out))); have n4_ := m_ (Kd.R_lower (Kd.R_mono (ok' := fun k_ => some k_ ≠ (v600 : Value).ownBlock ∧ some k_ ≠ (v603 : Value).ownBlock ∧ some k_ ≠ (v606 : Value).ownBlock ∧ some k_ ≠ (v612 : Value).ownBlock) ho4 (fun _ hk_ => hk_.2)) (below_size (bN HB.out))); have n5_ := m_ (Kd.R_lower (Kd.R_mono (ok' := fun k_ => some k_ ≠ (v600 : Value).ownBlock ∧ some k_ ≠ (v603 : Value).ownBlock ∧ some k_ ≠ (v606 : Value).ownBlock ∧ some k_ ≠ (v609 : Value).ownBlock) ho5 (fun _ hk_ => hk_.2)) (below_size (bN HB.out))); have n6_ := m_ (Kd.R_lower (Kd.R_mono (ok' := fun k_ => True) ho6 (fun _ hk_ => trivial)) (below_size (bN HB.out))); have n7_ := m_ (below_step (bN HB.out) hb); clear HB; have HO598 := n0_; have HO601 := n1_; have HO604 := n2_; have HO607 := n3_; have HO610 := n4_; have HO613 := n5_; have HO616 := n6_; have HB := n7_; clear n0_ n1_ n2_ n3_ n4_ n5_ n6_ n7_; (try clear hb); (try clear hb2); (try clear hk); (try clear hi); (try clear ho0); (try clear ho1); (try clear ho2); (try clear ho3); (try clear ho4); (try clear ho5); (try clear ho6)) | ((with_reducible refine gate_dst (N := 3) rfl ?_); (try (refine gate_guard (by rfl) ?_; dsimp only)); refine box_event ?hg (N := 3) ?hd (cs := #[.int .i64 0, .int .i64 0, .slice none 0 0, .slice none 0 0, .slice none 0 0, .slice none 0 0, .slice none 0 0, .slice none 0 0, .slice none 0 0, .int .i64 0]) (t := 32) ?hr ?_; (case hd => rfl); (case hg => rfl); (case hr => first | (go_simp; done) | (go_simp; rfl)); intro gb620 hg w60 hbox hb; have n0_ := m_ (Kd.N_below (Kd.N_elderB (by (with_reducible repeat (first | apply Kd.N_alloc | apply Kd.N_drewN | apply Kd.N_drew)); exact HO598.out) gb620 (Nat.le_of_eq hg.symm)) hb); have n1_ := m_ (Kd.R_below (rN HO601.out) hb); have n2_ := m_ (Kd.R_below (rN HO604.out) hb); have n3_ := m_ (Kd.R_below (rN HO607.out) hb); have n4_ := m_ (Kd.R_below (rN HO610.out) hb); have n5_ := m_ (Kd.R_below (rN HO613.out) hb); have n6_ := m_ (Kd.R_below (rN HO616.out) hb); have n7_ := m_ (below_step (bN HB.out) hb); have n8_ := m_ (hbox); have n9_ := m_ ((by rw [hg]; exact (below_size (bN HB.out)) : w.heap.size ≤ gb620)); have n10_ := m_ ((by rw [hg]; exact (below_size (bN HB.out)) : w.heap.size ≤ gb620)); clear HO598 HO601 HO604 HO607 HO610 HO613 HO616 HB; have HO598 := n0_; have HO601 := n1_; have HO604 := n2_; have HO607 := n3_; have HO610 := n4_; have HO613 := n5_; have HO616 := n6_; have HB := n7_; have BK620 := n8_; have GW620 := n9_; have GE620 := n10_; clear n0_ n1_ n2_ n3_ n4_ n5_ n6_ n7_ n8_ n9_ n10_ hb hbox hg; obtain ⟨⟨hcz61_0, hcz61_1, hcz61_2, hcz61_3, hcz61_4, hcz61_5, hcz61_6, hcz61_7, hcz61_8, hcz61_9⟩, hfz61_0, hfz61_1, hfz61_2, hfz61_3, hfz61_4, hfz61_5, hfz61_6, hfz61_7, hfz61_8, hfz61_9⟩ := row10 BK620.out; obtain ⟨Ao62, co62, eo62⟩ := Kd.N_slice HO598.out; subst eo62; obtain ⟨Ao63, co63, eo63⟩ := Kd.R_slice HO601.out; subst eo63; obtain ⟨Ao64, co64, eo64⟩ := Kd.R_slice HO604.out; subst eo64; obtain ⟨Ao65, co65, eo65⟩ := Kd.R_slice HO607.out; subst eo65; obtain ⟨Ao66, co66, eo66⟩ := Kd.R_slice HO610.out; subst eo66; obtain ⟨Ao67, co67, eo67⟩ := Kd.R_slice HO613.out; subst eo67; obtain ⟨Ao68, co68, eo68⟩ := Kd.R_slice HO616.out; subst eo68) | ((with_reducible refine gate_callee (f := 12) rfl ?_); refine goesL_ (some 19) rfl rfl Tryd.func12 (by kernel_rfl) rfl #[.agg #[.int .i64 t594, .int .i64 t595, .slice Ao62 t596.length co62, .slice Ao63 t599.length co63, .slice Ao64 t602.length co64, .slice Ao65 t605.length co65, .slice Ao66 t608.length co66, .slice Ao67 t611.length co67, .slice Ao68 t614.length co68, .int .i64 t617], .int .i64 t618, .int .i64 t619] rfl gl_ ?_; (with_reducible refine (impl_ConfTurn.calls k t594 t595 _ _ t596 _ _ t599 _ _ t602 _ _ t605 _ _ t608 _ _ t611 _ _ t614 t617 t618 t619 t621 _ ?side1 ?side2 ?side3 ?side4 ?side5 ?side6 ?side7 ?side8 ?side9 ?side10 ?side11 ?side12 ?side13 ?side14 A4.out ?sideG).mono ?_); (case sideG => exact GErr.below (bN HB.out) HG0.out); (case side1 => refine (Kd.N_reads' (e := 75) (base := w.heap.size) (ok := fun k_ => ((nb Ao63 t599.length co63 k_ ∧ (nb Ao64 t602.length co64 k_ ∧ (nb Ao65 t605.length co65 k_ ∧ (nb Ao66 t608.length co66 k_ ∧ (nb Ao67 t611.length co67 k_ ∧ nb Ao68 t614.length co68 k_))))) ∧ k_ ≠ gb620)) (n := t596.length) (c := co62) ?_).2.2; exact (by (with_reducible repeat (first | apply Kd.N_alloc | apply Kd.N_drewN | apply Kd.N_drew)); exact (Kd.N_mono (Kd.N_far (p := ⟨gb620, 9, none⟩) (Kd.N_far (p := ⟨gb620, 8, none⟩) (Kd.N_far (p := ⟨gb620, 7, none⟩) (Kd.N_far (p := ⟨gb620, 6, none⟩) (Kd.N_far (p := ⟨gb620, 5, none⟩) (Kd.N_far (p := ⟨gb620, 4, none⟩) (Kd.N_far (p := ⟨gb620, 3, none⟩) (Kd.N_far (p := ⟨gb620, 2, none⟩) (Kd.N_far (p := ⟨gb620, 1, none⟩) (Kd.N_far (p := ⟨gb620, 0, none⟩) (Kd.N_mono HO598.out (fun k_ hk => (⟨hk, hk.2⟩ : _ ∧ k_ ≠ gb620))) (fun _ hk => hk.2) (.int .i64 t594)) (fun _ hk => hk.2) (.int .i64 t595)) (fun _ hk => hk.2) (.slice Ao62 t596.length co62)) (fun _ hk => hk.2) (.slice Ao63 t599.length co63)) (fun _ hk => hk.2) (.slice Ao64 t602.length co64)) (fun _ hk => hk.2) (.slice Ao65 t605.length co65)) (fun _ hk => hk.2) (.slice Ao66 t608.length co66)) (fun _ hk => hk.2) (.slice Ao67 t611.length co67)) (fun _ hk => hk.2) (.slice Ao68 t614.length co68)) (fun _ hk => hk.2) (.int .i64 t617)) (fun _ h_ => h_.1)))); (case side2 => exact (Kd.N_reads' HO598.out).2.1); (case side3 => refine (Kd.R_reads' (e := 3) (base := w.heap.size) (ok := fun k_ => (nb Ao64 t602.length co64 k_ ∧ (nb Ao65 t605.length co65 k_ ∧ (nb Ao66 t608.length co66 k_ ∧ nb Ao67 t611.length co67 k_)))) (n := t599.length) (c := co63) ?_).2.2; exact (frN (Kd.R_types HO601.out BK620.out (by decide)))); (case side4 => exact (Kd.R_reads' HO601.out).2.1); (case side5 => refine (Kd.R_reads' (e := 3) (base := w.heap.size) (ok := fun k_ => (nb Ao63 t599.length co63 k_ ∧ (nb Ao65 t605.length co65 k_ ∧ (nb Ao66 t608.length co66 k_ ∧ nb Ao67 t611.length co67 k_)))) (n := t602.length) (c := co64) ?_).2.2; exact (frN (Kd.R_types HO604.out BK620.out (by decide)))); (case side6 => exact (Kd.R_reads' HO604.out).2.1); (case side7 => refine (Kd.R_reads' (e := 3) (base := w.heap.size) (ok := fun k_ => (nb Ao63 t599.length co63 k_ ∧ (nb Ao64 t602.length co64 k_ ∧ (nb Ao66 t608.length co66 k_ ∧ nb Ao67 t611.length co67 k_)))) (n := t605.length) (c := co65) ?_).2.2; exact (frN (Kd.R_types HO607.out BK620.out (by decide)))); (case side8 => exact (Kd.R_reads' HO607.out).2.1); (case side9 => refine (Kd.R_reads' (e := 3) (base := w.heap.size) (ok := fun k_ => (nb Ao63 t599.length co63 k_ ∧ (nb Ao64 t602.length co64 k_ ∧ (nb Ao65 t605.length co65 k_ ∧ nb Ao67 t611.length co67 k_)))) (n := t608.length) (c := co66) ?_).2.2; exact (frN (Kd.R_types HO610.out BK620.out (by decide)))); (case side10 => exact (Kd.R_reads' HO610.out).2.1); (case side11 => refine (Kd.R_reads' (e := 3) (base := w.heap.size) (ok := fun k_ => (nb Ao63 t599.length co63 k_ ∧ (nb Ao64 t602.length co64 k_ ∧ (nb Ao65 t605.length co65 k_ ∧ nb Ao66 t608.length co66 k_)))) (n := t611.length) (c := co67) ?_).2.2; exact (frN (Kd.R_types HO613.out BK620.out (by decide)))); (case side12 => exact (Kd.R_reads' HO613.out).2.1); (case side13 => refine (Kd.R_reads' (e := 78) (base := w.heap.size) (ok := fun k_ => True) (n := t614.length) (c := co68) ?_).2.2; exact (frN (Kd.R_types HO616.out BK620.out (by decide)))); (case side14 => exact (Kd.R_reads' HO616.out).2.1); rintro e w69 ⟨rfl, hb⟩; refine ⟨_, rfl, ?_⟩; have n0_ := m_ (Kd.N_below (by (with_reducible repeat (first | apply Kd.N_alloc | apply Kd.N_drewN | apply Kd.N_drew)); exact (Kd.N_mono (Kd.N_far (p := ⟨gb620, 9, none⟩) (Kd.N_far (p := ⟨gb620, 8, none⟩) (Kd.N_far (p := ⟨gb620, 7, none⟩) (Kd.N_far (p := ⟨gb620, 6, none⟩) (Kd.N_far (p := ⟨gb620, 5, none⟩) (Kd.N_far (p := ⟨gb620, 4, none⟩) (Kd.N_far (p := ⟨gb620, 3, none⟩) (Kd.N_far (p := ⟨gb620, 2, none⟩) (Kd.N_far (p := ⟨gb620, 1, none⟩) (Kd.N_far (p := ⟨gb620, 0, none⟩) (Kd.N_mono HO598.out (fun k_ hk => (⟨hk, hk.2⟩ : _ ∧ k_ ≠ gb620))) (fun _ hk => hk.2) (.int .i64 t594)) (fun _ hk => hk.2) (.int .i64 t595)) (fun _ hk => hk.2) (.slice Ao62 t596.length co62)) (fun _ hk => hk.2) (.slice Ao63 t599.length co63)) (fun _ hk => hk.2) (.slice Ao64 t602.length co64)) (fun _ hk => hk.2) (.slice Ao65 t605.length co65)) (fun _ hk => hk.2) (.slice Ao66 t608.length co66)) (fun _ hk => hk.2) (.slice Ao67 t611.length co67)) (fun _ hk => hk.2) (.slice Ao68 t614.length co68)) (fun _ hk => hk.2) (.int .i64 t617)) (fun _ h_ => h_.1))) hb); have n1_ := m_ (Kd.R_below (frN (Kd.R_types HO601.out BK620.out (by decide))) hb); have n2_ := m_ (Kd.R_below (frN (Kd.R_types HO604.out BK620.out (by decide))) hb); have n3_ := m_ (Kd.R_below (frN (Kd.R_types HO607.out BK620.out (by decide))) hb); have n4_ := m_ (Kd.R_below (frN (Kd.R_types HO610.out BK620.out (by decide))) hb); have n5_ := m_ (Kd.R_below (frN (Kd.R_types HO613.out BK620.out (by decide))) hb); have n6_ := m_ (Kd.R_below (frN (Kd.R_types HO616.out BK620.out (by decide))) hb); have n7_ := m_ (blk_below (g := gb620) (o := .cells #[.int .i64 t594, .int .i64 t595, .slice Ao62 t596.length co62, .slice Ao63 t599.length co63, .slice Ao64 t602.length co64, .slice Ao65 t605.length co65, .slice Ao66 t608.length co66, .slice Ao67 t611.length co67, .slice Ao68 t614.length co68, .int .i64 t617] 32 (0, 0)) (by (with_reducible repeat (first | refine blk_drewN ?_ _ | refine blk_drew ?_ | refine blk_alloc ?_ _)); apply put10; (with_reducible repeat (first | refine blk_drewN ?_ _ | refine blk_drew ?_ | refine blk_alloc ?_ _)); exact BK620.out) hb); have n8_ := m_ (below_step (bN HB.out) hb); clear HO598 HO601 HO604 HO607 HO610 HO613 HO616 BK620 HB; have HO598 := n0_; have HO601 := n1_; have HO604 := n2_; have HO607 := n3_; have HO610 := n4_; have HO613 := n5_; have HO616 := n6_; have BK620 := n7_; have HB := n8_; clear n0_ n1_ n2_ n3_ n4_ n5_ n6_ n7_ n8_; (try clear hb); (try clear hb2); (try clear hk); (try clear hi); obtain ⟨⟨hcz70_0, hcz70_1, hcz70_2, hcz70_3, hcz70_4, hcz70_5, hcz70_6, hcz70_7, hcz70_8, hcz70_9⟩, hfz70_0, hfz70_1, hfz70_2, hfz70_3, hfz70_4, hfz70_5, hfz70_6, hfz70_7, hfz70_8, hfz70_9⟩ := row10 BK620.out) | ((with_reducible refine gate_callee (f := 10) rfl ?_); refine goesL_ (some 24) rfl rfl Tryd.func10 (by kernel_rfl) rfl #[.agg #[.int .i64 t594, .int .i64 t595, .slice Ao62 t596.length co62, .slice Ao63 t599.length co63, .slice Ao64 t602.length co64, .slice Ao65 t605.length co65, .slice Ao66 t608.length co66, .slice Ao67 t611.length co67, .slice Ao68 t614.length co68, .int .i64 t617], .int .i64 t618, .int .i64 t619] rfl gl_ ?_; (with_reducible refine (spec_ConfTurn.calls k t594 t595 _ _ t596 _ _ t599 _ _ t602 _ _ t605 _ _ t608 _ _ t611 _ _ t614 t617 t618 t619 t622 _ ?side1 ?side2 ?side3 ?side4 ?side5 ?side6 ?side7 ?side8 ?side9 ?side10 ?side11 ?side12 ?side13 ?side14 A5.out).mono ?_); (case side1 => exact cN (Kd.N_reads' HO598.out).2.2); (case side2 => exact (Kd.N_reads' HO598.out).2.1); (case side3 => exact cN (Kd.R_reads' HO601.out).2.2); (case side4 => exact (Kd.R_reads' HO601.out).2.1); (case side5 => exact cN (Kd.R_reads' HO604.out).2.2); (case side6 => exact (Kd.R_reads' HO604.out).2.1); (case side7 => exact cN (Kd.R_reads' HO607.out).2.2); (case side8 => exact (Kd.R_reads' HO607.out).2.1); (case side9 => exact cN (Kd.R_reads' HO610.out).2.2); (case side10 => exact (Kd.R_reads' HO610.out).2.1); (case side11 => exact cN (Kd.R_reads' HO613.out).2.2); (case side12 => exact (Kd.R_reads' HO613.out).2.1); (case side13 => exact cN (Kd.R_reads' HO616.out).2.2); (case side14 => exact (Kd.R_reads' HO616.out).2.1); rintro e w71 ⟨rfl, hb⟩; refine ⟨_, rfl, ?_⟩; have n0_ := m_ (Kd.N_below (by (with_reducible repeat (first | apply Kd.N_alloc | apply Kd.N_drewN | apply Kd.N_drew)); exact HO598.out) hb); have n1_ := m_ (Kd.R_below (rN HO601.out) hb); have n2_ := m_ (Kd.R_below (rN HO604.out) hb); have n3_ := m_ (Kd.R_below (rN HO607.out) hb); have n4_ := m_ (Kd.R_below (rN HO610.out) hb); have n5_ := m_ (Kd.R_below (rN HO613.out) hb); have n6_ := m_ (Kd.R_below (rN HO616.out) hb); have n7_ := m_ (blk_below (kN BK620.out) hb); have n8_ := m_ (below_step (bN HB.out) hb); clear HO598 HO601 HO604 HO607 HO610 HO613 HO616 BK620 HB; have HO598 := n0_; have HO601 := n1_; have HO604 := n2_; have HO607 := n3_; have HO610 := n4_; have HO613 := n5_; have HO616 := n6_; have BK620 := n7_; have HB := n8_; clear n0_ n1_ n2_ n3_ n4_ n5_ n6_ n7_ n8_; (try clear hb); (try clear hb2); (try clear hk); (try clear hi); obtain ⟨⟨hcz72_0, hcz72_1, hcz72_2, hcz72_3, hcz72_4, hcz72_5, hcz72_6, hcz72_7, hcz72_8, hcz72_9⟩, hfz72_0, hfz72_1, hfz72_2, hfz72_3, hfz72_4, hfz72_5, hfz72_6, hfz72_7, hfz72_8, hfz72_9⟩ := row10 BK620.out) | ((with_reducible refine gate_callee (f := 16) rfl ?_); refine goesL_ (some 27) rfl rfl Tryd.func16 (by kernel_rfl) rfl #[.agg #[.int .i64 t594, .int .i64 t595, .slice Ao62 t596.length co62, .slice Ao63 t599.length co63, .slice Ao64 t602.length co64, .slice Ao65 t605.length co65, .slice Ao66 t608.length co66, .slice Ao67 t611.length co67, .slice Ao68 t614.length co68, .int .i64 t617]] rfl gl_ ?_; (with_reducible refine (spec_ConfCheck.calls k t594 t595 _ _ t596 _ _ t599 _ _ t602 _ _ t605 _ _ t608 _ _ t611 _ _ t614 t617 t623 _ ?side1 ?side2 ?side3 ?side4 ?side5 ?side6 ?side7 ?side8 ?side9 ?side10 ?side11 ?side12 ?side13 ?side14 A7.out).mono ?_); (case side1 => exact cN (Kd.N_reads' HO598.out).2.2); (case side2 => exact (Kd.N_reads' HO598.out).2.1); (case side3 => exact cN (Kd.R_reads' HO601.out).2.2); (case side4 => exact (Kd.R_reads' HO601.out).2.1); (case side5 => exact cN (Kd.R_reads' HO604.out).2.2); (case side6 => exact (Kd.R_reads' HO604.out).2.1); (case side7 => exact cN (Kd.R_reads' HO607.out).2.2); (case side8 => exact (Kd.R_reads' HO607.out).2.1); (case side9 => exact cN (Kd.R_reads' HO610.out).2.2); (case side10 => exact (Kd.R_reads' HO610.out).2.1); (case side11 => exact cN (Kd.R_reads' HO613.out).2.2); (case side12 => exact (Kd.R_reads' HO613.out).2.1); (case side13 => exact cN (Kd.R_reads' HO616.out).2.2); (case side14 => exact (Kd.R_reads' HO616.out).2.1); rintro e w73 ⟨rfl, hb⟩; refine ⟨_, rfl, ?_⟩; have n0_ := m_ (Kd.N_below (by (with_reducible repeat (first | apply Kd.N_alloc | apply Kd.N_drewN | apply Kd.N_drew)); exact HO598.out) hb); have n1_ := m_ (Kd.R_below (rN HO601.out) hb); have n2_ := m_ (Kd.R_below (rN HO604.out) hb); have n3_ := m_ (Kd.R_below (rN HO607.out) hb); have n4_ := m_ (Kd.R_below (rN HO610.out) hb); have n5_ := m_ (Kd.R_below (rN HO613.out) hb); have n6_ := m_ (Kd.R_below (rN HO616.out) hb); have n7_ := m_ (blk_below (kN BK620.out) hb); have n8_ := m_ (below_step (bN HB.out) hb); clear HO598 HO601 HO604 HO607 HO610 HO613 HO616 BK620 HB; have HO598 := n0_; have HO601 := n1_; have HO604 := n2_; have HO607 := n3_; have HO610 := n4_; have HO613 := n5_; have HO616 := n6_; have BK620 := n7_; have HB := n8_; clear n0_ n1_ n2_ n3_ n4_ n5_ n6_ n7_ n8_; (try clear hb); (try clear hb2); (try clear hk); (try clear hi); obtain ⟨⟨hcz74_0, hcz74_1, hcz74_2, hcz74_3, hcz74_4, hcz74_5, hcz74_6, hcz74_7, hcz74_8, hcz74_9⟩, hfz74_0, hfz74_1, hfz74_2, hfz74_3, hfz74_4, hfz74_5, hfz74_6, hfz74_7, hfz74_8, hfz74_9⟩ := row10 BK620.out) | ((with_reducible refine gate_callee (f := 17) rfl ?_); refine goesL_ (some 51) rfl rfl Tryd.func17 (by kernel_rfl) rfl #[.int .i64 t621, .int .i64 (-1), .int .i64 (wrap64 ((t596.length : Int) - 1))] rfl gl_ ?_; (with_reducible refine (laws_skIn.calls t621 (-1) (wrap64 ((t596.length : Int) - 1)) t624 _ A58.out).mono ?_); rintro e w' ⟨rfl, ⟨nd, rfl⟩⟩; refine ⟨_, rfl, ?_⟩))
    go_ret
    exact ⟨rf_, (hB1 HB.out GE620.out)⟩
  ·rw [if_neg c6] at H
   exact absurd H (by simp)

/-- THE ONE PURE STATEMENT of laws_FnConfTurn: yours. -/
def laws_FnConfTurn.Pure : Prop := ∀ (l0 : List Int), l0.length ≤ maxLen → l0.length * 1 ≤ 140737488351232 → (∀ x ∈ l0, (Lit.int .u8 x).wf = true) → ∃ k, laws_FnConfTurn.f k l0 = some true
theorem laws_FnConfTurn.walk (P : laws_FnConfTurn.Pure) (a0 : Option Addr) (len0 cap0 : Nat) (z0 : List Int) (w : World) (w0 : (a0 = none ∧ len0 = 0 ∧ cap0 = 0 ∧ z0 = []) ∨ ∃ x, a0 = some x ∧ len0 ≤ cap0 ∧ cap0 ≤ maxLen ∧ z0.length = cap0 ∧ (∀ i, i < z0.length → w.cell? (x.add i) = some (.int .u8 (z0.getD i 0))) ∧ ∀ n ∈ z0, (Lit.int .u8 n).wf = true) (y0 : len0 * 1 ≤ 140737488351232) (hG : GErr w) :
  Calls Tryd.prog 6 #[.slice a0 len0 cap0] w fun e w' => e = .returned (.bool true) ∧ Below w.heap.size w w' := by
 obtain ⟨l0, rfl, hr0, hm0, hw0, hc0⟩ := ReadsInt.ofRowC w0
 obtain ⟨k, h⟩ := P l0 hm0 y0 hw0
 refine (laws_FnConfTurn.calls k _ _ l0 true w (Kd.C_of_reads (d := (0 : Int)) (h1 := fun _ => rfl) hr0) hc0 h hG).mono ?_
 rintro e w' ⟨rfl, hd⟩
 exact ⟨rfl, hd⟩

end Go.Proofs.YtcenmlpfbpogoaaDoor.P
