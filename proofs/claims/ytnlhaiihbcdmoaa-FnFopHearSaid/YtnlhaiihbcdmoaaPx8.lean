/- The machine side of these statements, function by function: what each Go function answers (as a Lean function), and that it does. Written by a program (mp.py) for this claim. -/
import Derived.Test.YtnlhaiihbcdmoaaPx0
import Derived.Test.YtnlhaiihbcdmoaaPx2
import Derived.Test.YtnlhaiihbcdmoaaPx7
namespace Go.Proofs.Ytnlhaiihbcdmoaa.P
open Go.RowKit Go.Proofs.YtnlhaiihbcdmoaaW.PrintWords Go.Proofs.YtnlhaiihbcdmoaaW.PrintLast Go.Proofs.YtnlhaiihbcdmoaaW.PrintMore
attribute [local go_sem] max2_int min2_int max_two min_two max_three min_three max_four min_four   -- for this text's walks alone
set_option linter.unusedVariables false
set_option linter.unusedSimpArgs false

/-! ### spec_l15Fop: function 58 -/
def spec_l15Fop.l0 : Nat → Int → List Int → Int → Int → Int → Int → List ByteArray → Bool → Option (Int × Int × Int × List ByteArray × Bool × Int)
 | 0, _, _, _, _, _, _, _, _ => none
 | k + 1, x4, x1000, x1001, x139000, x139001, x139002, x139003, x139004 => if x4 > 0 then ((spec_l15Text.f k x1000 x1001 6).bind fun bt141 => (if 1 + bt141.1.size ≤ 9223372036854775807 then (if x139003.length < 8796093022208 then (spec_l15Fop.l0 k (wrap64 (x4 - 1)) x1000 bt141.2 x139000 x139001 x139002 (x139003 ++ [(⟨#[115]⟩ : ByteArray) ++ bt141.1]) x139004) else (none)) else (none))) else (some (x139000, x139001, x139002, x139003, x139004, x1001))
def spec_l15Fop.f (k : Nat) (s0_0 : List Int) (s0_1 : Int) : Option (Int × Int × Int × List ByteArray × Bool × Int) := (spec_l1Rd_pick.f k s0_0 s0_1 8).bind fun bt126 => ((spec_l1Rd_pick.f k s0_0 bt126.2 256).bind fun bt128 => ((some (([bt126.1, bt128.1, 255] : List Int) : List Int)).bind fun y130 => ((spec_l1Rd_pick.f k s0_0 bt128.2 3).bind fun bt133 => (if 0 ≤ bt133.1 then (if bt133.1 < (y130.length : Int) then ((spec_l1Rd_pick.f k s0_0 bt133.2 6).bind fun bt136 => ((spec_l1Rd_pick.f k s0_0 bt136.2 5).bind fun bt139 => (spec_l15Fop.l0 k bt139.1 s0_0 bt139.2 5 3 (rd y130 bt133.1) ([] : List ByteArray) (bt136.1 == 0)))) else (none)) else (none)))))
theorem spec_l15Fop.mono_l : ∀ k, (∀ y0 y1 y2 y3 y4 y5 y6 y7, LeO (spec_l15Fop.l0 k y0 y1 y2 y3 y4 y5 y6 y7) (spec_l15Fop.l0 (k + 1) y0 y1 y2 y3 y4 y5 y6 y7))
 | 0 => fun _ _ _ _ _ _ _ _ r h => by simp [spec_l15Fop.l0] at h
 | k + 1 => by
  have ih0 := spec_l15Fop.mono_l k
  ·intro y0 y1 y2 y3 y4 y5 y6 y7
   unfold spec_l15Fop.l0
   repeat' first
   | (with_reducible exact ih0 _ _ _ _ _ _ _ _)
   | (with_reducible exact spec_l15Text.mono _ _ _ _)
   | (with_reducible exact spec_l1Rd_pick.mono _ _ _ _)
   | (with_reducible exact LeO.refl _)
   | (with_reducible exact LeO.none _)
   | (with_reducible refine LeO.ite ?_ ?_)
   | (with_reducible refine LeO.bind ?_ (fun _ => ?_))
   | exact ih0 _ _ _ _ _ _ _ _
   | exact spec_l15Text.mono _ _ _ _
   | exact spec_l1Rd_pick.mono _ _ _ _
   | exact LeO.none _
   | refine LeO.ite ?_ ?_
   | refine LeO.bind ?_ (fun _ => ?_)
theorem spec_l15Fop.mono : ∀ a0 a1 k, LeO (spec_l15Fop.f k a0 a1) (spec_l15Fop.f (k + 1) a0 a1) := by
 intro a0 a1 k
 have ih0 := spec_l15Fop.mono_l k
 unfold spec_l15Fop.f
 repeat' first
   | (with_reducible exact ih0 _ _ _ _ _ _ _ _)
   | (with_reducible exact spec_l15Text.mono _ _ _ _)
   | (with_reducible exact spec_l1Rd_pick.mono _ _ _ _)
   | (with_reducible exact LeO.refl _)
   | (with_reducible exact LeO.none _)
   | (with_reducible refine LeO.ite ?_ ?_)
   | (with_reducible refine LeO.bind ?_ (fun _ => ?_))
   | exact ih0 _ _ _ _ _ _ _ _
   | exact spec_l15Text.mono _ _ _ _
   | exact spec_l1Rd_pick.mono _ _ _ _
   | exact LeO.none _
   | refine LeO.ite ?_ ?_
   | refine LeO.bind ?_ (fun _ => ?_)
def spec_l15Fop.T1 : Bool × List (List Nat × List Nat) := (true, [([], []), ([0], [0]), ([], []), ([2, 1], [2]), ([1, 3], [1, 3]), ([], []), ([5, 3], [5]), ([4, 6], [4, 6]), ([7], [7]), ([], []), ([9, 6], [9]), ([10], [10]), ([8, 11], [8, 11]), ([], []), ([13, 12, 10, 0, 1, 2, 3, 4, 5, 6, 7, 8, 9, 10, 11, 12, 13], [12, 13])])
def spec_l15Fop.B1 : List Nat := [0, 1, 0, 7, 15, 0, 47, 127, 255, 0, 623, 1647, 4095, 0, 16383]
theorem spec_l15Fop.tab1 : rtab .any (opsOf Try.f58 1) = spec_l15Fop.T1 := by kernel_rfl
theorem spec_l15Fop.bits1 : waitsOk spec_l15Fop.T1.2 spec_l15Fop.B1 = true := by kernel_rfl
def spec_l15Fop.T5 : Bool × List (List Nat × List Nat) := (true, [([], []), ([0], [0]), ([], []), ([2], [2]), ([3], [3]), ([4], [4]), ([1, 5, 3], [1, 5]), ([0, 1, 2, 3, 4, 5, 6], []), ([7, 6, 6, 0, 1, 2, 3, 4, 5, 6], [6, 7])])
def spec_l15Fop.B5 : List Nat := [0, 1, 0, 4, 12, 28, 63, 127, 255]
theorem spec_l15Fop.tab5 : rtab .any (opsOf Try.f58 5) = spec_l15Fop.T5 := by kernel_rfl
theorem spec_l15Fop.bits5 : waitsOk spec_l15Fop.T5.2 spec_l15Fop.B5 = true := by kernel_rfl
set_option maxHeartbeats 8000000 in
set_option maxRecDepth 100000 in
theorem spec_l15Fop.calls (k : Nat) (g : Nat) (s0_0 : List Int) (s0_1 : Int) (r1 : Int) (r2 : Int) (r3 : Int) (r4 : List ByteArray) (r5 : Bool) (r6 : Int) (w0 w : World) (hI : IsS82 w0 w g s0_0 s0_1) (hB : Below w0.heap.size w0 w) (h : spec_l15Fop.f k s0_0 s0_1 = some (r1, r2, r3, r4, r5, r6)) :
  Calls Try.prog 58 #[.pointer (some ⟨g, 0, none⟩)] w fun e w' => ∃ v3_ : Value, e = .returned (.agg #[.int .i64 r1, .int .i64 r2, .int .i64 r3, v3_, .bool r5]) ∧ Kd.R Kd.string 9 w' w.heap.size (fun _ => True) v3_ r4 ∧ IsS82 w0 w' g s0_0 r6 ∧ Below w0.heap.size w0 w' ∧ KeepBut w w' g none := by
 have hu25 := Try.underlying25
 have HI0 := Aside0.mk hI
 have HK := m_ (KeepBut.refl w g none)
 have HL := Aside0.mk hB.size
 clear hI
 have HW0 := Aside0.mk hB.size
 have HB := Aside0.mk hB
 clear hB
 have H : ((spec_l1Rd_pick.f k s0_0 s0_1 8).bind fun bt126 => ((spec_l1Rd_pick.f k s0_0 bt126.2 256).bind fun bt128 => ((some (([bt126.1, bt128.1, 255] : List Int) : List Int)).bind fun y130 => ((spec_l1Rd_pick.f k s0_0 bt128.2 3).bind fun bt133 => (if 0 ≤ bt133.1 then (if bt133.1 < (y130.length : Int) then ((spec_l1Rd_pick.f k s0_0 bt133.2 6).bind fun bt136 => ((spec_l1Rd_pick.f k s0_0 bt136.2 5).bind fun bt139 => (spec_l15Fop.l0 k bt139.1 s0_0 bt139.2 5 3 (rd y130 bt133.1) ([] : List ByteArray) (bt136.1 == 0)))) else (none)) else (none)))))) = some (r1, r2, r3, r4, r5, r6) := h
 clear h
 replace H := Option.bind_eq_some_iff.mp H
 obtain ⟨⟨t126, t127⟩, A20, H⟩ := H
 replace H : ((spec_l1Rd_pick.f k s0_0 t127 256).bind fun bt128 => ((some (([t126, bt128.1, 255] : List Int) : List Int)).bind fun y130 => ((spec_l1Rd_pick.f k s0_0 bt128.2 3).bind fun bt133 => (if 0 ≤ bt133.1 then (if bt133.1 < (y130.length : Int) then ((spec_l1Rd_pick.f k s0_0 bt133.2 6).bind fun bt136 => ((spec_l1Rd_pick.f k s0_0 bt136.2 5).bind fun bt139 => (spec_l15Fop.l0 k bt139.1 s0_0 bt139.2 5 3 (rd y130 bt133.1) ([] : List ByteArray) (bt136.1 == 0)))) else (none)) else (none))))) = some (r1, r2, r3, r4, r5, r6) := H
 have A2 := Aside0.mk A20
 clear A20
 replace H := Option.bind_eq_some_iff.mp H
 obtain ⟨⟨t128, t129⟩, A30, H⟩ := H
 replace H : ((some (([t126, t128, 255] : List Int) : List Int)).bind fun y130 => ((spec_l1Rd_pick.f k s0_0 t129 3).bind fun bt133 => (if 0 ≤ bt133.1 then (if bt133.1 < (y130.length : Int) then ((spec_l1Rd_pick.f k s0_0 bt133.2 6).bind fun bt136 => ((spec_l1Rd_pick.f k s0_0 bt136.2 5).bind fun bt139 => (spec_l15Fop.l0 k bt139.1 s0_0 bt139.2 5 3 (rd y130 bt133.1) ([] : List ByteArray) (bt136.1 == 0)))) else (none)) else (none)))) = some (r1, r2, r3, r4, r5, r6) := H
 have A3 := Aside0.mk A30
 clear A30
 obtain ⟨y130, hy130⟩ : ∃ y_ : List Int, y_ = (([t126, t128, 255] : List Int)) := ⟨_, rfl⟩
 replace H : ((spec_l1Rd_pick.f k s0_0 t129 3).bind fun bt133 => (if 0 ≤ bt133.1 then (if bt133.1 < (y130.length : Int) then ((spec_l1Rd_pick.f k s0_0 bt133.2 6).bind fun bt136 => ((spec_l1Rd_pick.f k s0_0 bt136.2 5).bind fun bt139 => (spec_l15Fop.l0 k bt139.1 s0_0 bt139.2 5 3 (rd y130 bt133.1) ([] : List ByteArray) (bt136.1 == 0)))) else (none)) else (none))) = some (r1, r2, r3, r4, r5, r6) := by first | (rw [hy130]; with_reducible exact H) | (have H2_ := (Option.bind_some _ _).symm.trans H; rw [hy130]; with_reducible exact H2_) | (have H2_ := (Option.bind_some _ _).symm.trans H; with_reducible exact H2_) | with_reducible exact H | (rw [hy130]; exact H) | exact H
 have Ny130 := Aside0.mk hy130
 clear hy130
 replace H := Option.bind_eq_some_iff.mp H
 obtain ⟨⟨t133, t134⟩, A40, H⟩ := H
 replace H : (if 0 ≤ t133 then (if t133 < (y130.length : Int) then ((spec_l1Rd_pick.f k s0_0 t134 6).bind fun bt136 => ((spec_l1Rd_pick.f k s0_0 bt136.2 5).bind fun bt139 => (spec_l15Fop.l0 k bt139.1 s0_0 bt139.2 5 3 (rd y130 t133) ([] : List ByteArray) (bt136.1 == 0)))) else (none)) else (none)) = some (r1, r2, r3, r4, r5, r6) := H
 have A4 := Aside0.mk A40
 clear A40
 by_cases c5 : 0 ≤ t133
 ·rw [if_pos c5] at H
  have c5b0 : decide (0 ≤ t133) = true := decide_eq_true c5
  clear c5
  by_cases c6 : t133 < (y130.length : Int)
  ·rw [if_pos c6] at H
   have c6b0 : decide (t133 < (y130.length : Int)) = true := decide_eq_true c6
   clear c6
   replace H := Option.bind_eq_some_iff.mp H
   obtain ⟨⟨t136, t137⟩, A70, H⟩ := H
   replace H : ((spec_l1Rd_pick.f k s0_0 t137 5).bind fun bt139 => (spec_l15Fop.l0 k bt139.1 s0_0 bt139.2 5 3 (rd y130 t133) ([] : List ByteArray) (t136 == 0))) = some (r1, r2, r3, r4, r5, r6) := H
   have A7 := Aside0.mk A70
   clear A70
   replace H := Option.bind_eq_some_iff.mp H
   obtain ⟨⟨t139, t140⟩, A80, H⟩ := H
   replace H : (spec_l15Fop.l0 k t139 s0_0 t140 5 3 (rd y130 t133) ([] : List ByteArray) (t136 == 0)) = some (r1, r2, r3, r4, r5, r6) := H
   have A8 := Aside0.mk A80
   clear A80
   have H' := Aside0.mk H
   clear H
   go_enter Try.func58, Try.ntmps58
   try go_wp2_with (first | ((with_reducible refine gate_dst (N := 2) rfl ?_); refine box_event ?hg (N := 2) ?hd (cs := #[.int .i64 0, .int .i64 0, .int .i64 0, .slice none 0 0, .bool false]) (t := 25) ?hr ?_; (case hd => rfl); (case hg => rfl); (case hr => first | (go_simp; done) | (go_simp; rfl)); intro gb125 hg w9 hbox hb; have n0_ := m_ (IsS82.below (by repeat (first | (with_reducible first | exact HI0.out | apply IsS82.alloc | apply IsS82.drewN | apply IsS82.drew | apply IsS82.set_1) | exact HI0.out)) hb); have n1_ := m_ (KeepBut.trans (by repeat (first | (with_reducible first | exact HK.out | apply KeepBut.set_ | apply keep_drewN | apply keep_drew | apply keep_alloc) | exact HK.out)) (KeepBut.of_below hb g none) (.inl rfl)); have n2_ := m_ (below_step (by repeat (first | (with_reducible first | exact HB.out | apply below_alloc | apply pw_below_drewN | apply below_drew1 | refine below_set ?_ (IsS82.ge HI0.out)) | exact HB.out)) hb); have n3_ := m_ (hbox); have n4_ := m_ ((by rw [hg]; exact (keep_size (w := w) (g := g) (row := none) (by repeat (first | (with_reducible first | exact HK.out | apply KeepBut.set_ | apply keep_drewN | apply keep_drew | apply keep_alloc) | exact HK.out))) : w.heap.size ≤ gb125)); have n5_ := m_ ((Nat.le_trans HW0.out (by rw [hg]; exact (keep_size (w := w) (g := g) (row := none) (by repeat (first | (with_reducible first | exact HK.out | apply KeepBut.set_ | apply keep_drewN | apply keep_drew | apply keep_alloc) | exact HK.out))) : w.heap.size ≤ gb125) : w0.heap.size ≤ gb125)); have n6_ := m_ ((by rw [hg]; exact Nat.ne_of_lt (IsS82.lt (show IsS82 w0 _ g s0_0 s0_1 from by repeat (first | (with_reducible first | exact HI0.out | apply IsS82.alloc | apply IsS82.drewN | apply IsS82.drew | apply IsS82.set_1) | exact HI0.out))) : g ≠ gb125)); have n7_ := m_ ((by rw [hg]; exact Nat.ne_of_gt (IsS82.lt (show IsS82 w0 _ g s0_0 s0_1 from by repeat (first | (with_reducible first | exact HI0.out | apply IsS82.alloc | apply IsS82.drewN | apply IsS82.drew | apply IsS82.set_1) | exact HI0.out))) : gb125 ≠ g)); clear HI0; clear HK; clear HB; have HI0 := n0_; have HK := n1_; have HB := n2_; have BK125 := n3_; have GW125 := n4_; have GE125 := n5_; have NB0_125 := n6_; have NB125_0 := n7_; clear n0_ n1_ n2_ n3_ n4_ n5_ n6_ n7_; clear hb hbox hg))
   have pi135 : (0 ≤ (t133 : Int)) = True := eq_true (of_decide_eq_true (by first | (with_reducible assumption) | assumption))
   have qi135 : (t133 < (y130.length : Int)) = True := eq_true (of_decide_eq_true (by first | (with_reducible assumption) | assumption))
   have n0_ := m_ (blk_drew BK125.out)
   have n1_ := m_ (IsS82.drew HI0.out)
   have n2_ := m_ (keep_drew HK.out)
   have n3_ := m_ (below_drew1 HB.out)
   clear BK125
   clear HI0
   clear HK
   clear HB
   have BK125 := n0_
   have HI0 := n1_
   have HK := n2_
   have HB := n3_
   clear n0_ n1_ n2_ n3_
   refine start_ (n := 15) (S := fun w' => True) (ds := []) #[false, false, false, false, false, false, false, false, false, false, false, false, false, false, false] (by kernel_rfl) rfl rfl trivial (fun hHeld => ?_); refine with_tabW spec_l15Fop.tab1 spec_l15Fop.bits1 (fun HT_ HW_ => ?_)
   generalize w9.drew = w10 at BK125 HI0 HK HB hHeld ⊢
   refine pu 0 5 HT_ (h := ?_)
   refine pu 2 7 HT_ (h := ?_)
   refine pu 5 10 HT_ (h := ?_)
   refine pu 9 14 HT_ (h := ?_)
   refine join_ (σ := Value × Addr × Nat) 1 #[true, true, true, true, true, true, true, true, true, true, true, true, true, true, false] (fun s_ => [(6, .int .i64 t126), (8, .int .i64 t128), (9, s_.1), (11, .int .i64 t133), (13, .int .i64 (rd y130 t133)), (15, .int .i64 t136), (3, .pointer (some ⟨s_.2.2, 0, none⟩)), (12, .pointer (some (s_.2.1.add (t133).toNat))), (16, .bool (t136 == 0)), (17, .agg #[.int .i64 5, .int .i64 3, .int .i64 (rd y130 t133), .slice none 0 0, .bool (t136 == 0)])]) (fun s_ w' => (Kd.R (Kd.int .i64) 3 w' w.heap.size (fun _ => True) s_.1 y130) ∧ (∃ c_, (s_.1 : Value) = .slice (some s_.2.1) y130.length c_) ∧ (w'.heap[gb125]? = some (.cells #[.int .i64 0, .int .i64 0, .int .i64 0, .slice none 0 0, .bool false] 25 (0, 0))) ∧ (w'.heap[s_.2.2]? = some (.cells #[.int .i64 0, .int .i64 0, .int .i64 0, .slice none 0 0, .bool false] 25 (0, 0))) ∧ (w.heap.size ≤ s_.2.2) ∧ (w0.heap.size ≤ s_.2.2) ∧ (g ≠ s_.2.2) ∧ (s_.2.2 ≠ g) ∧ (gb125 ≠ s_.2.2) ∧ (s_.2.2 ≠ gb125) ∧ (IsS82 w0 w' g s0_0 t137) ∧ (KeepBut w w' g none) ∧ (Below w0.heap.size w0 w')) ?_ ?_
   rotate_left
   ·intro hJ1_3_4_6_8_10_13
    refine join_ (σ := Value × Addr) 2 #[true, true, true, true, true, true, true, true, true, true, true, true, true, false, false] (fun s_ => [(6, .int .i64 t126), (8, .int .i64 t128), (9, s_.1), (11, .int .i64 t133), (13, .int .i64 (rd y130 t133)), (15, .int .i64 t136), (12, .pointer (some (s_.2.add (t133).toNat))), (16, .bool (t136 == 0)), (17, .agg #[.int .i64 5, .int .i64 3, .int .i64 (rd y130 t133), .slice none 0 0, .bool (t136 == 0)])]) (fun s_ w' => (Kd.R (Kd.int .i64) 3 w' w.heap.size (fun _ => True) s_.1 y130) ∧ (∃ c_, (s_.1 : Value) = .slice (some s_.2) y130.length c_) ∧ (w'.heap[gb125]? = some (.cells #[.int .i64 0, .int .i64 0, .int .i64 0, .slice none 0 0, .bool false] 25 (0, 0))) ∧ (IsS82 w0 w' g s0_0 t137) ∧ (KeepBut w w' g none) ∧ (Below w0.heap.size w0 w')) ?_ ?_
    rotate_left
    ·intro hJ1_3_4_6_8_10
     refine join_ (σ := Value × Addr × Nat) 4 #[true, true, true, true, true, true, true, true, true, true, false, false, false, true, false] (fun s_ => [(6, .int .i64 t126), (8, .int .i64 t128), (9, s_.1), (11, .int .i64 t133), (13, .int .i64 (rd y130 t133)), (3, .pointer (some ⟨s_.2.2, 0, none⟩)), (12, .pointer (some (s_.2.1.add (t133).toNat)))]) (fun s_ w' => (Kd.R (Kd.int .i64) 3 w' w.heap.size (fun _ => True) s_.1 y130) ∧ (∃ c_, (s_.1 : Value) = .slice (some s_.2.1) y130.length c_) ∧ (w'.heap[gb125]? = some (.cells #[.int .i64 0, .int .i64 0, .int .i64 0, .slice none 0 0, .bool false] 25 (0, 0))) ∧ (w'.heap[s_.2.2]? = some (.cells #[.int .i64 0, .int .i64 0, .int .i64 0, .slice none 0 0, .bool false] 25 (0, 0))) ∧ (w.heap.size ≤ s_.2.2) ∧ (w0.heap.size ≤ s_.2.2) ∧ (g ≠ s_.2.2) ∧ (s_.2.2 ≠ g) ∧ (gb125 ≠ s_.2.2) ∧ (s_.2.2 ≠ gb125) ∧ (IsS82 w0 w' g s0_0 t134) ∧ (KeepBut w w' g none) ∧ (Below w0.heap.size w0 w')) ?_ ?_
     rotate_left
     ·intro hJ1_3_4_6_8_13
      refine join_ (σ := Value × Addr × Nat) 3 #[true, true, true, true, true, true, true, true, false, true, true, true, false, true, false] (fun s_ => [(6, .int .i64 t126), (8, .int .i64 t128), (9, s_.1), (11, .int .i64 t133), (15, .int .i64 t136), (3, .pointer (some ⟨s_.2.2, 0, none⟩)), (12, .pointer (some (s_.2.1.add (t133).toNat))), (16, .bool (t136 == 0))]) (fun s_ w' => (Kd.R (Kd.int .i64) 3 w' w.heap.size (fun _ => True) s_.1 y130) ∧ (∃ c_, (s_.1 : Value) = .slice (some s_.2.1) y130.length c_) ∧ (w'.heap[gb125]? = some (.cells #[.int .i64 0, .int .i64 0, .int .i64 0, .slice none 0 0, .bool false] 25 (0, 0))) ∧ (w'.heap[s_.2.2]? = some (.cells #[.int .i64 0, .int .i64 0, .int .i64 0, .slice none 0 0, .bool false] 25 (0, 0))) ∧ (w.heap.size ≤ s_.2.2) ∧ (w0.heap.size ≤ s_.2.2) ∧ (g ≠ s_.2.2) ∧ (s_.2.2 ≠ g) ∧ (gb125 ≠ s_.2.2) ∧ (s_.2.2 ≠ gb125) ∧ (IsS82 w0 w' g s0_0 t137) ∧ (KeepBut w w' g none) ∧ (Below w0.heap.size w0 w')) ?_ ?_
      rotate_left
      ·intro hJ1_3_4_6_10_13
       refine join_ (σ := Value × Addr) 5 #[true, true, true, true, true, true, true, true, true, true, false, false, false, false, false] (fun s_ => [(6, .int .i64 t126), (8, .int .i64 t128), (9, s_.1), (11, .int .i64 t133), (13, .int .i64 (rd y130 t133)), (12, .pointer (some (s_.2.add (t133).toNat)))]) (fun s_ w' => (Kd.R (Kd.int .i64) 3 w' w.heap.size (fun _ => True) s_.1 y130) ∧ (∃ c_, (s_.1 : Value) = .slice (some s_.2) y130.length c_) ∧ (w'.heap[gb125]? = some (.cells #[.int .i64 0, .int .i64 0, .int .i64 0, .slice none 0 0, .bool false] 25 (0, 0))) ∧ (IsS82 w0 w' g s0_0 t134) ∧ (KeepBut w w' g none) ∧ (Below w0.heap.size w0 w')) ?_ ?_
       rotate_left
       ·intro hJ1_3_4_6_8
        refine join_ (σ := Value × Addr) 4 #[true, true, true, true, true, true, true, true, false, true, true, true, false, false, false] (fun s_ => [(6, .int .i64 t126), (8, .int .i64 t128), (9, s_.1), (11, .int .i64 t133), (15, .int .i64 t136), (12, .pointer (some (s_.2.add (t133).toNat))), (16, .bool (t136 == 0))]) (fun s_ w' => (Kd.R (Kd.int .i64) 3 w' w.heap.size (fun _ => True) s_.1 y130) ∧ (∃ c_, (s_.1 : Value) = .slice (some s_.2) y130.length c_) ∧ (w'.heap[gb125]? = some (.cells #[.int .i64 0, .int .i64 0, .int .i64 0, .slice none 0 0, .bool false] 25 (0, 0))) ∧ (IsS82 w0 w' g s0_0 t137) ∧ (KeepBut w w' g none) ∧ (Below w0.heap.size w0 w')) ?_ ?_
        rotate_left
        ·intro hJ1_3_4_6_10
         refine join_ (σ := Value × Addr × Nat) 5 #[true, true, true, true, true, true, true, true, false, true, false, false, false, true, false] (fun s_ => [(6, .int .i64 t126), (8, .int .i64 t128), (9, s_.1), (11, .int .i64 t133), (3, .pointer (some ⟨s_.2.2, 0, none⟩)), (12, .pointer (some (s_.2.1.add (t133).toNat)))]) (fun s_ w' => (Kd.R (Kd.int .i64) 3 w' w.heap.size (fun _ => True) s_.1 y130) ∧ (∃ c_, (s_.1 : Value) = .slice (some s_.2.1) y130.length c_) ∧ (w'.heap[gb125]? = some (.cells #[.int .i64 0, .int .i64 0, .int .i64 0, .slice none 0 0, .bool false] 25 (0, 0))) ∧ (w'.heap[s_.2.2]? = some (.cells #[.int .i64 0, .int .i64 0, .int .i64 0, .slice none 0 0, .bool false] 25 (0, 0))) ∧ (w.heap.size ≤ s_.2.2) ∧ (w0.heap.size ≤ s_.2.2) ∧ (g ≠ s_.2.2) ∧ (s_.2.2 ≠ g) ∧ (gb125 ≠ s_.2.2) ∧ (s_.2.2 ≠ gb125) ∧ (IsS82 w0 w' g s0_0 t134) ∧ (KeepBut w w' g none) ∧ (Below w0.heap.size w0 w')) ?_ ?_
         rotate_left
         ·intro hJ1_3_4_6_13
          refine join_ (σ := Nat) 5 #[true, true, true, true, false, true, true, false, false, true, true, true, false, true, false] (fun s_ => [(6, .int .i64 t126), (8, .int .i64 t128), (11, .int .i64 t133), (15, .int .i64 t136), (3, .pointer (some ⟨s_, 0, none⟩)), (16, .bool (t136 == 0))]) (fun s_ w' => (w'.heap[gb125]? = some (.cells #[.int .i64 0, .int .i64 0, .int .i64 0, .slice none 0 0, .bool false] 25 (0, 0))) ∧ (w'.heap[s_]? = some (.cells #[.int .i64 0, .int .i64 0, .int .i64 0, .slice none 0 0, .bool false] 25 (0, 0))) ∧ (w.heap.size ≤ s_) ∧ (w0.heap.size ≤ s_) ∧ (g ≠ s_) ∧ (s_ ≠ g) ∧ (gb125 ≠ s_) ∧ (s_ ≠ gb125) ∧ (IsS82 w0 w' g s0_0 t137) ∧ (KeepBut w w' g none) ∧ (Below w0.heap.size w0 w')) ?_ ?_
          rotate_left
          ·intro hJ1_3_6_10_13
           refine join_ (σ := Value × Addr) 6 #[true, true, true, true, true, true, true, true, false, true, false, false, false, false, false] (fun s_ => [(6, .int .i64 t126), (8, .int .i64 t128), (9, s_.1), (11, .int .i64 t133), (12, .pointer (some (s_.2.add (t133).toNat)))]) (fun s_ w' => (Kd.R (Kd.int .i64) 3 w' w.heap.size (fun _ => True) s_.1 y130) ∧ (∃ c_, (s_.1 : Value) = .slice (some s_.2) y130.length c_) ∧ (w'.heap[gb125]? = some (.cells #[.int .i64 0, .int .i64 0, .int .i64 0, .slice none 0 0, .bool false] 25 (0, 0))) ∧ (IsS82 w0 w' g s0_0 t134) ∧ (KeepBut w w' g none) ∧ (Below w0.heap.size w0 w')) ?_ ?_
           rotate_left
           ·intro hJ1_3_4_6
            refine join_ (σ := Value × Addr × Nat) 7 #[true, true, true, true, true, true, false, false, false, true, false, false, false, true, false] (fun s_ => [(6, .int .i64 t126), (8, .int .i64 t128), (9, s_.1), (3, .pointer (some ⟨s_.2.2, 0, none⟩))]) (fun s_ w' => (Kd.R (Kd.int .i64) 3 w' w.heap.size (fun _ => True) s_.1 y130) ∧ (∃ c_, (s_.1 : Value) = .slice (some s_.2.1) y130.length c_) ∧ (w'.heap[gb125]? = some (.cells #[.int .i64 0, .int .i64 0, .int .i64 0, .slice none 0 0, .bool false] 25 (0, 0))) ∧ (w'.heap[s_.2.2]? = some (.cells #[.int .i64 0, .int .i64 0, .int .i64 0, .slice none 0 0, .bool false] 25 (0, 0))) ∧ (w.heap.size ≤ s_.2.2) ∧ (w0.heap.size ≤ s_.2.2) ∧ (g ≠ s_.2.2) ∧ (s_.2.2 ≠ g) ∧ (gb125 ≠ s_.2.2) ∧ (s_.2.2 ≠ gb125) ∧ (IsS82 w0 w' g s0_0 t129) ∧ (KeepBut w w' g none) ∧ (Below w0.heap.size w0 w')) ?_ ?_
            rotate_left
            ·intro hJ1_3_4_13
             refine join_ (σ := Unit) 6 #[true, true, true, true, false, true, true, false, false, true, true, true, false, false, false] (fun s_ => [(6, .int .i64 t126), (8, .int .i64 t128), (11, .int .i64 t133), (15, .int .i64 t136), (16, .bool (t136 == 0))]) (fun s_ w' => (w'.heap[gb125]? = some (.cells #[.int .i64 0, .int .i64 0, .int .i64 0, .slice none 0 0, .bool false] 25 (0, 0))) ∧ (IsS82 w0 w' g s0_0 t137) ∧ (KeepBut w w' g none) ∧ (Below w0.heap.size w0 w')) ?_ ?_
             rotate_left
             ·intro hJ1_3_6_10
              refine join_ (σ := Nat) 7 #[true, true, true, true, false, true, true, false, false, true, false, false, false, true, false] (fun s_ => [(6, .int .i64 t126), (8, .int .i64 t128), (11, .int .i64 t133), (3, .pointer (some ⟨s_, 0, none⟩))]) (fun s_ w' => (w'.heap[gb125]? = some (.cells #[.int .i64 0, .int .i64 0, .int .i64 0, .slice none 0 0, .bool false] 25 (0, 0))) ∧ (w'.heap[s_]? = some (.cells #[.int .i64 0, .int .i64 0, .int .i64 0, .slice none 0 0, .bool false] 25 (0, 0))) ∧ (w.heap.size ≤ s_) ∧ (w0.heap.size ≤ s_) ∧ (g ≠ s_) ∧ (s_ ≠ g) ∧ (gb125 ≠ s_) ∧ (s_ ≠ gb125) ∧ (IsS82 w0 w' g s0_0 t134) ∧ (KeepBut w w' g none) ∧ (Below w0.heap.size w0 w')) ?_ ?_
              rotate_left
              ·intro hJ1_3_6_13
               refine join_ (σ := Value × Addr) 8 #[true, true, true, true, true, true, false, false, false, true, false, false, false, false, false] (fun s_ => [(6, .int .i64 t126), (8, .int .i64 t128), (9, s_.1)]) (fun s_ w' => (Kd.R (Kd.int .i64) 3 w' w.heap.size (fun _ => True) s_.1 y130) ∧ (∃ c_, (s_.1 : Value) = .slice (some s_.2) y130.length c_) ∧ (w'.heap[gb125]? = some (.cells #[.int .i64 0, .int .i64 0, .int .i64 0, .slice none 0 0, .bool false] 25 (0, 0))) ∧ (IsS82 w0 w' g s0_0 t129) ∧ (KeepBut w w' g none) ∧ (Below w0.heap.size w0 w')) ?_ ?_
               rotate_left
               ·intro hJ1_3_4
                refine join_ (σ := Unit) 8 #[true, true, true, true, false, true, true, false, false, true, false, false, false, false, false] (fun s_ => [(6, .int .i64 t126), (8, .int .i64 t128), (11, .int .i64 t133)]) (fun s_ w' => (w'.heap[gb125]? = some (.cells #[.int .i64 0, .int .i64 0, .int .i64 0, .slice none 0 0, .bool false] 25 (0, 0))) ∧ (IsS82 w0 w' g s0_0 t134) ∧ (KeepBut w w' g none) ∧ (Below w0.heap.size w0 w')) ?_ ?_
                rotate_left
                ·intro hJ1_3_6
                 refine join_ (σ := Nat) 8 #[true, true, true, true, false, true, false, false, false, true, false, false, false, true, false] (fun s_ => [(6, .int .i64 t126), (8, .int .i64 t128), (3, .pointer (some ⟨s_, 0, none⟩))]) (fun s_ w' => (w'.heap[gb125]? = some (.cells #[.int .i64 0, .int .i64 0, .int .i64 0, .slice none 0 0, .bool false] 25 (0, 0))) ∧ (w'.heap[s_]? = some (.cells #[.int .i64 0, .int .i64 0, .int .i64 0, .slice none 0 0, .bool false] 25 (0, 0))) ∧ (w.heap.size ≤ s_) ∧ (w0.heap.size ≤ s_) ∧ (g ≠ s_) ∧ (s_ ≠ g) ∧ (gb125 ≠ s_) ∧ (s_ ≠ gb125) ∧ (IsS82 w0 w' g s0_0 t129) ∧ (KeepBut w w' g none) ∧ (Below w0.heap.size w0 w')) ?_ ?_
                 rotate_left
                 ·intro hJ1_3_13
                  refine join_ (σ := Unit) 9 #[true, true, true, true, false, true, false, false, false, true, false, false, false, false, false] (fun s_ => [(6, .int .i64 t126), (8, .int .i64 t128)]) (fun s_ w' => (w'.heap[gb125]? = some (.cells #[.int .i64 0, .int .i64 0, .int .i64 0, .slice none 0 0, .bool false] 25 (0, 0))) ∧ (IsS82 w0 w' g s0_0 t129) ∧ (KeepBut w w' g none) ∧ (Below w0.heap.size w0 w')) ?_ ?_
                  rotate_left
                  ·intro hJ1_3
                   refine join_ (σ := Nat) 9 #[true, true, true, false, false, true, false, false, false, true, false, false, false, true, false] (fun s_ => [(6, .int .i64 t126), (3, .pointer (some ⟨s_, 0, none⟩))]) (fun s_ w' => (w'.heap[gb125]? = some (.cells #[.int .i64 0, .int .i64 0, .int .i64 0, .slice none 0 0, .bool false] 25 (0, 0))) ∧ (w'.heap[s_]? = some (.cells #[.int .i64 0, .int .i64 0, .int .i64 0, .slice none 0 0, .bool false] 25 (0, 0))) ∧ (w.heap.size ≤ s_) ∧ (w0.heap.size ≤ s_) ∧ (g ≠ s_) ∧ (s_ ≠ g) ∧ (gb125 ≠ s_) ∧ (s_ ≠ gb125) ∧ (IsS82 w0 w' g s0_0 t127) ∧ (KeepBut w w' g none) ∧ (Below w0.heap.size w0 w')) ?_ ?_
                   rotate_left
                   ·intro hJ1_13
                    refine join_ (σ := Unit) 10 #[true, true, true, false, false, true, false, false, false, true, false, false, false, false, false] (fun s_ => [(6, .int .i64 t126)]) (fun s_ w' => (w'.heap[gb125]? = some (.cells #[.int .i64 0, .int .i64 0, .int .i64 0, .slice none 0 0, .bool false] 25 (0, 0))) ∧ (IsS82 w0 w' g s0_0 t127) ∧ (KeepBut w w' g none) ∧ (Below w0.heap.size w0 w')) ?_ ?_
                    rotate_left
                    ·intro hJ1
                     refine join_ (σ := Nat) 10 #[true, false, true, false, false, true, false, false, false, true, false, false, false, true, false] (fun s_ => [(3, .pointer (some ⟨s_, 0, none⟩))]) (fun s_ w' => (w'.heap[gb125]? = some (.cells #[.int .i64 0, .int .i64 0, .int .i64 0, .slice none 0 0, .bool false] 25 (0, 0))) ∧ (w'.heap[s_]? = some (.cells #[.int .i64 0, .int .i64 0, .int .i64 0, .slice none 0 0, .bool false] 25 (0, 0))) ∧ (w.heap.size ≤ s_) ∧ (w0.heap.size ≤ s_) ∧ (g ≠ s_) ∧ (s_ ≠ g) ∧ (gb125 ≠ s_) ∧ (s_ ≠ gb125) ∧ (IsS82 w0 w' g s0_0 s0_1) ∧ (KeepBut w w' g none) ∧ (Below w0.heap.size w0 w')) ?_ ?_
                     rotate_left
                     ·intro hJ13
                      refine two_ (i := 1) (j := 13) (Ni := some 6) (Nj := some 3) #[true, true, true, false, false, true, false, false, false, true, false, false, false, false, false] #[true, false, true, false, false, true, false, false, false, true, false, false, false, true, false] rfl rfl rfl rfl (two_of HT_.out (by kernel_rfl)) (by decide) (by decide) (fun K hK => ?_) (fun K hK => ?_)
                      ·skip
                       refine goes_ Try.func45 (by kernel_rfl) rfl #[.pointer (some ⟨g, 0, none⟩), .int .i64 8] (by rfl) rfl rfl gl_ ?_
                       with_reducible refine (spec_l1Rd_pick.calls k g s0_0 s0_1 8 t126 t127 w0 _ ?side1 ?side2 A2.out).mono ?_
                       (case side1 => repeat (first | (with_reducible first | exact HI0.out | apply IsS82.alloc | apply IsS82.drewN | apply IsS82.drew | apply IsS82.set_1 | refine IsS82.far ?_ NB0_125.out _) | exact HI0.out))
                       (case side2 => repeat (first | (with_reducible first | exact HB.out | apply below_alloc | apply pw_below_drewN | apply below_drew1 | refine below_set ?_ (IsS82.ge HI0.out) | refine below_set ?_ GE125.out) | exact HB.out))
                       rintro e w11 ⟨rfl, hi, hb, hk⟩
                       refine ⟨_, rfl, ?_⟩
                       have n0_ := m_ (KeepBut.blk hk (g' := gb125) (o := .cells #[.int .i64 0, .int .i64 0, .int .i64 0, .slice none 0 0, .bool false] 25 (0, 0)) (kN BK125.out) NB125_0.out (by simp))
                       have n1_ := m_ (KeepBut.trans (by repeat (first | (with_reducible first | exact HK.out | apply KeepBut.set_ | apply keep_drewN | apply keep_drew | apply keep_alloc | refine keep_far ?_ GW125.out _) | exact HK.out)) hk (.inl rfl))
                       have n2_ := m_ (hb)
                       have n3_ := m_ (hi)
                       clear BK125
                       clear HK
                       clear HB
                       clear HI0
                       have BK125 := n0_
                       have HK := n1_
                       have HB := n2_
                       have HI0 := n3_
                       clear n0_ n1_ n2_ n3_
                       (try clear hb)
                       (try clear hb2)
                       (try clear hk)
                       (try clear hi)
                       refine hK.out _ _ trivial (fun hHeld => ?_)
                       clear hK K
                       refine np (h := ?_)
                       exact norm_ (by first | (simp only [putAll, Act.put, List.setIfInBounds_toArray, List.set_cons_zero, List.set_cons_succ]; done) | (simp only [putAll, Act.put, List.setIfInBounds_toArray, List.set_cons_zero, List.set_cons_succ]; rfl)) (hJ1 () _ ⟨(kN BK125.out), (by repeat (first | (with_reducible first | exact HI0.out | apply IsS82.alloc | apply IsS82.drewN | apply IsS82.drew | apply IsS82.set_1 | refine IsS82.far ?_ NB0_125.out _) | exact HI0.out)), (by repeat (first | (with_reducible first | exact HK.out | apply KeepBut.set_ | apply keep_drewN | apply keep_drew | apply keep_alloc | refine keep_far ?_ GW125.out _) | exact HK.out)), (by repeat (first | (with_reducible first | exact HB.out | apply below_alloc | apply pw_below_drewN | apply below_drew1 | refine below_set ?_ (IsS82.ge HI0.out) | refine below_set ?_ GE125.out) | exact HB.out))⟩)
                      ·skip
                       refine box_step ?hg (N := 3) ?hd (cs := #[.int .i64 0, .int .i64 0, .int .i64 0, .slice none 0 0, .bool false]) (t := 25) ?hr ?_; (case hd => rfl); (case hg => rfl); (case hr => first | (go_simp; done) | (go_simp; rfl))
                       intro gb138 hg w11 hbox hb
                       have n0_ := m_ (IsS82.below (by repeat (first | (with_reducible first | exact HI0.out | apply IsS82.alloc | apply IsS82.drewN | apply IsS82.drew | apply IsS82.set_1 | refine IsS82.far ?_ NB0_125.out _) | exact HI0.out)) hb)
                       have n1_ := m_ (blk_below (kN BK125.out) hb)
                       have n2_ := m_ (KeepBut.trans (by repeat (first | (with_reducible first | exact HK.out | apply KeepBut.set_ | apply keep_drewN | apply keep_drew | apply keep_alloc | refine keep_far ?_ GW125.out _) | exact HK.out)) (KeepBut.of_below hb g none) (.inl rfl))
                       have n3_ := m_ (below_step (by repeat (first | (with_reducible first | exact HB.out | apply below_alloc | apply pw_below_drewN | apply below_drew1 | refine below_set ?_ (IsS82.ge HI0.out) | refine below_set ?_ GE125.out) | exact HB.out)) hb)
                       have n4_ := m_ (hbox)
                       have n5_ := m_ ((by rw [hg]; exact (keep_size (w := w) (g := g) (row := none) (by repeat (first | (with_reducible first | exact HK.out | apply KeepBut.set_ | apply keep_drewN | apply keep_drew | apply keep_alloc | refine keep_far ?_ GW125.out _) | exact HK.out))) : w.heap.size ≤ gb138))
                       have n6_ := m_ ((Nat.le_trans HW0.out (by rw [hg]; exact (keep_size (w := w) (g := g) (row := none) (by repeat (first | (with_reducible first | exact HK.out | apply KeepBut.set_ | apply keep_drewN | apply keep_drew | apply keep_alloc | refine keep_far ?_ GW125.out _) | exact HK.out))) : w.heap.size ≤ gb138) : w0.heap.size ≤ gb138))
                       have n7_ := m_ (nL hg BK125.out)
                       have n8_ := m_ (nG hg BK125.out)
                       have n9_ := m_ ((by rw [hg]; exact Nat.ne_of_lt (IsS82.lt (show IsS82 w0 _ g s0_0 s0_1 from by repeat (first | (with_reducible first | exact HI0.out | apply IsS82.alloc | apply IsS82.drewN | apply IsS82.drew | apply IsS82.set_1 | refine IsS82.far ?_ NB0_125.out _) | exact HI0.out))) : g ≠ gb138))
                       have n10_ := m_ ((by rw [hg]; exact Nat.ne_of_gt (IsS82.lt (show IsS82 w0 _ g s0_0 s0_1 from by repeat (first | (with_reducible first | exact HI0.out | apply IsS82.alloc | apply IsS82.drewN | apply IsS82.drew | apply IsS82.set_1 | refine IsS82.far ?_ NB0_125.out _) | exact HI0.out))) : gb138 ≠ g))
                       clear HI0
                       clear BK125
                       clear HK
                       clear HB
                       have HI0 := n0_
                       have BK125 := n1_
                       have HK := n2_
                       have HB := n3_
                       have BK138 := n4_
                       have GW138 := n5_
                       have GE138 := n6_
                       have NB125_138 := n7_
                       have NB138_125 := n8_
                       have NB0_138 := n9_
                       have NB138_0 := n10_
                       clear n0_ n1_ n2_ n3_ n4_ n5_ n6_ n7_ n8_ n9_ n10_
                       clear hb hbox hg
                       refine hK.out _ _ trivial (fun hHeld => ?_)
                       clear hK K
                       refine np (h := ?_)
                       exact norm_ (by first | (simp only [putAll, Act.put, List.setIfInBounds_toArray, List.set_cons_zero, List.set_cons_succ]; done) | (simp only [putAll, Act.put, List.setIfInBounds_toArray, List.set_cons_zero, List.set_cons_succ]; rfl)) (hJ13 (gb138) _ ⟨(kN BK125.out), (kN BK138.out), GW138.out, GE138.out, NB0_138.out, NB138_0.out, NB125_138.out, NB138_125.out, (by repeat (first | (with_reducible first | exact HI0.out | apply IsS82.alloc | apply IsS82.drewN | apply IsS82.drew | apply IsS82.set_1 | refine IsS82.far ?_ NB0_125.out _ | refine IsS82.far ?_ NB0_138.out _) | exact HI0.out)), (by repeat (first | (with_reducible first | exact HK.out | apply KeepBut.set_ | apply keep_drewN | apply keep_drew | apply keep_alloc | refine keep_far ?_ GW125.out _ | refine keep_far ?_ GW138.out _) | exact HK.out)), (by repeat (first | (with_reducible first | exact HB.out | apply below_alloc | apply pw_below_drewN | apply below_drew1 | refine below_set ?_ (IsS82.ge HI0.out) | refine below_set ?_ GE125.out | refine below_set ?_ GE138.out) | exact HB.out))⟩)
                     ·skip
                      rintro gb138 w12 ⟨h0_, h1_, h2_, h3_, h4_, h5_, h6_, h7_, h8_, h9_, h10_⟩
                      have n0_ : Aside0 (w12.heap[gb125]? = some (.cells #[.int .i64 0, .int .i64 0, .int .i64 0, .slice none 0 0, .bool false] 25 (0, 0))) := ⟨h0_⟩
                      have n1_ : Aside0 (w12.heap[gb138]? = some (.cells #[.int .i64 0, .int .i64 0, .int .i64 0, .slice none 0 0, .bool false] 25 (0, 0))) := ⟨h1_⟩
                      have n2_ : Aside0 (w.heap.size ≤ gb138) := ⟨h2_⟩
                      have n3_ : Aside0 (w0.heap.size ≤ gb138) := ⟨h3_⟩
                      have n4_ : Aside0 (g ≠ gb138) := ⟨h4_⟩
                      have n5_ : Aside0 (gb138 ≠ g) := ⟨h5_⟩
                      have n6_ : Aside0 (gb125 ≠ gb138) := ⟨h6_⟩
                      have n7_ : Aside0 (gb138 ≠ gb125) := ⟨h7_⟩
                      have n8_ : Aside0 (IsS82 w0 w12 g s0_0 s0_1) := ⟨h8_⟩
                      have n9_ : Aside0 (KeepBut w w12 g none) := ⟨h9_⟩
                      have n10_ : Aside0 (Below w0.heap.size w0 w12) := ⟨h10_⟩
                      clear BK125
                      clear HI0
                      clear HK
                      clear HB
                      clear h0_ h1_ h2_ h3_ h4_ h5_ h6_ h7_ h8_ h9_ h10_
                      have BK125 := n0_
                      have BK138 := n1_
                      have GW138 := n2_
                      have GE138 := n3_
                      have NB0_138 := n4_
                      have NB138_0 := n5_
                      have NB125_138 := n6_
                      have NB138_125 := n7_
                      have HI0 := n8_
                      have HK := n9_
                      have HB := n10_
                      clear n0_ n1_ n2_ n3_ n4_ n5_ n6_ n7_ n8_ n9_ n10_
                      have hHeld := trivial
                      refine norm_ (a' := ?_) ?_ ?_
                      rotate_left
                      ·simp only [putAll, Act.put, List.setIfInBounds_toArray, List.set_cons_zero, List.set_cons_succ]
                       rfl
                      refine one_ (i := 1) (N := some 6) #[true, true, true, false, false, true, false, false, false, true, false, false, false, true, false] rfl rfl (one_of HT_.out (by kernel_rfl)) (by decide) (fun K hK => ?_)
                      refine goes_ Try.func45 (by kernel_rfl) rfl #[.pointer (some ⟨g, 0, none⟩), .int .i64 8] (by rfl) rfl rfl gl_ ?_
                      with_reducible refine (spec_l1Rd_pick.calls k g s0_0 s0_1 8 t126 t127 w0 _ ?side1 ?side2 A2.out).mono ?_
                      (case side1 => repeat (first | (with_reducible first | exact HI0.out | apply IsS82.alloc | apply IsS82.drewN | apply IsS82.drew | apply IsS82.set_1 | refine IsS82.far ?_ NB0_125.out _ | refine IsS82.far ?_ NB0_138.out _) | exact HI0.out))
                      (case side2 => repeat (first | (with_reducible first | exact HB.out | apply below_alloc | apply pw_below_drewN | apply below_drew1 | refine below_set ?_ (IsS82.ge HI0.out) | refine below_set ?_ GE125.out | refine below_set ?_ GE138.out) | exact HB.out))
                      rintro e w13 ⟨rfl, hi, hb, hk⟩
                      refine ⟨_, rfl, ?_⟩
                      have n0_ := m_ (KeepBut.blk hk (g' := gb125) (o := .cells #[.int .i64 0, .int .i64 0, .int .i64 0, .slice none 0 0, .bool false] 25 (0, 0)) (kN BK125.out) NB125_0.out (by simp))
                      have n1_ := m_ (KeepBut.blk hk (g' := gb138) (o := .cells #[.int .i64 0, .int .i64 0, .int .i64 0, .slice none 0 0, .bool false] 25 (0, 0)) (kN BK138.out) NB138_0.out (by simp))
                      have n2_ := m_ (KeepBut.trans (by repeat (first | (with_reducible first | exact HK.out | apply KeepBut.set_ | apply keep_drewN | apply keep_drew | apply keep_alloc | refine keep_far ?_ GW125.out _ | refine keep_far ?_ GW138.out _) | exact HK.out)) hk (.inl rfl))
                      have n3_ := m_ (hb)
                      have n4_ := m_ (hi)
                      clear BK125
                      clear BK138
                      clear HK
                      clear HB
                      clear HI0
                      have BK125 := n0_
                      have BK138 := n1_
                      have HK := n2_
                      have HB := n3_
                      have HI0 := n4_
                      clear n0_ n1_ n2_ n3_ n4_
                      (try clear hb)
                      (try clear hb2)
                      (try clear hk)
                      (try clear hi)
                      refine hK.out _ _ trivial (fun hHeld => ?_)
                      clear hK K
                      refine np (h := ?_)
                      exact norm_ (by first | (simp only [putAll, Act.put, List.setIfInBounds_toArray, List.set_cons_zero, List.set_cons_succ]; done) | (simp only [putAll, Act.put, List.setIfInBounds_toArray, List.set_cons_zero, List.set_cons_succ]; rfl)) (hJ1_13 (gb138) _ ⟨(kN BK125.out), (kN BK138.out), GW138.out, GE138.out, NB0_138.out, NB138_0.out, NB125_138.out, NB138_125.out, (by repeat (first | (with_reducible first | exact HI0.out | apply IsS82.alloc | apply IsS82.drewN | apply IsS82.drew | apply IsS82.set_1 | refine IsS82.far ?_ NB0_125.out _ | refine IsS82.far ?_ NB0_138.out _) | exact HI0.out)), (by repeat (first | (with_reducible first | exact HK.out | apply KeepBut.set_ | apply keep_drewN | apply keep_drew | apply keep_alloc | refine keep_far ?_ GW125.out _ | refine keep_far ?_ GW138.out _) | exact HK.out)), (by repeat (first | (with_reducible first | exact HB.out | apply below_alloc | apply pw_below_drewN | apply below_drew1 | refine below_set ?_ (IsS82.ge HI0.out) | refine below_set ?_ GE125.out | refine below_set ?_ GE138.out) | exact HB.out))⟩)
                    ·skip
                     rintro _ w12 ⟨h0_, h1_, h2_, h3_⟩
                     have n0_ : Aside0 (w12.heap[gb125]? = some (.cells #[.int .i64 0, .int .i64 0, .int .i64 0, .slice none 0 0, .bool false] 25 (0, 0))) := ⟨h0_⟩
                     have n1_ : Aside0 (IsS82 w0 w12 g s0_0 t127) := ⟨h1_⟩
                     have n2_ : Aside0 (KeepBut w w12 g none) := ⟨h2_⟩
                     have n3_ : Aside0 (Below w0.heap.size w0 w12) := ⟨h3_⟩
                     clear BK125
                     clear HI0
                     clear HK
                     clear HB
                     clear h0_ h1_ h2_ h3_
                     have BK125 := n0_
                     have HI0 := n1_
                     have HK := n2_
                     have HB := n3_
                     clear n0_ n1_ n2_ n3_
                     have hHeld := trivial
                     refine norm_ (a' := ?_) ?_ ?_
                     rotate_left
                     ·simp only [putAll, Act.put, List.setIfInBounds_toArray, List.set_cons_zero, List.set_cons_succ]
                      rfl
                     refine two_ (i := 3) (j := 13) (Ni := some 8) (Nj := some 3) #[true, true, true, true, false, true, false, false, false, true, false, false, false, false, false] #[true, true, true, false, false, true, false, false, false, true, false, false, false, true, false] rfl rfl rfl rfl (two_of HT_.out (by kernel_rfl)) (by decide) (by decide) (fun K hK => ?_) (fun K hK => ?_)
                     ·skip
                      refine goes_ Try.func45 (by kernel_rfl) rfl #[.pointer (some ⟨g, 0, none⟩), .int .i64 256] (by rfl) rfl rfl gl_ ?_
                      with_reducible refine (spec_l1Rd_pick.calls k g s0_0 t127 256 t128 t129 w0 _ ?side1 ?side2 A3.out).mono ?_
                      (case side1 => repeat (first | (with_reducible first | exact HI0.out | apply IsS82.alloc | apply IsS82.drewN | apply IsS82.drew | apply IsS82.set_1 | refine IsS82.far ?_ NB0_125.out _) | exact HI0.out))
                      (case side2 => repeat (first | (with_reducible first | exact HB.out | apply below_alloc | apply pw_below_drewN | apply below_drew1 | refine below_set ?_ (IsS82.ge HI0.out) | refine below_set ?_ GE125.out) | exact HB.out))
                      rintro e w13 ⟨rfl, hi, hb, hk⟩
                      refine ⟨_, rfl, ?_⟩
                      have n0_ := m_ (KeepBut.blk hk (g' := gb125) (o := .cells #[.int .i64 0, .int .i64 0, .int .i64 0, .slice none 0 0, .bool false] 25 (0, 0)) (kN BK125.out) NB125_0.out (by simp))
                      have n1_ := m_ (KeepBut.trans (by repeat (first | (with_reducible first | exact HK.out | apply KeepBut.set_ | apply keep_drewN | apply keep_drew | apply keep_alloc | refine keep_far ?_ GW125.out _) | exact HK.out)) hk (.inl rfl))
                      have n2_ := m_ (hb)
                      have n3_ := m_ (hi)
                      clear BK125
                      clear HK
                      clear HB
                      clear HI0
                      have BK125 := n0_
                      have HK := n1_
                      have HB := n2_
                      have HI0 := n3_
                      clear n0_ n1_ n2_ n3_
                      (try clear hb)
                      (try clear hb2)
                      (try clear hk)
                      (try clear hi)
                      refine hK.out _ _ trivial (fun hHeld => ?_)
                      clear hK K
                      refine np (h := ?_)
                      exact norm_ (by first | (simp only [putAll, Act.put, List.setIfInBounds_toArray, List.set_cons_zero, List.set_cons_succ]; done) | (simp only [putAll, Act.put, List.setIfInBounds_toArray, List.set_cons_zero, List.set_cons_succ]; rfl)) (hJ1_3 () _ ⟨(kN BK125.out), (by repeat (first | (with_reducible first | exact HI0.out | apply IsS82.alloc | apply IsS82.drewN | apply IsS82.drew | apply IsS82.set_1 | refine IsS82.far ?_ NB0_125.out _) | exact HI0.out)), (by repeat (first | (with_reducible first | exact HK.out | apply KeepBut.set_ | apply keep_drewN | apply keep_drew | apply keep_alloc | refine keep_far ?_ GW125.out _) | exact HK.out)), (by repeat (first | (with_reducible first | exact HB.out | apply below_alloc | apply pw_below_drewN | apply below_drew1 | refine below_set ?_ (IsS82.ge HI0.out) | refine below_set ?_ GE125.out) | exact HB.out))⟩)
                     ·skip
                      refine box_step ?hg (N := 3) ?hd (cs := #[.int .i64 0, .int .i64 0, .int .i64 0, .slice none 0 0, .bool false]) (t := 25) ?hr ?_; (case hd => rfl); (case hg => rfl); (case hr => first | (go_simp; done) | (go_simp; rfl))
                      intro gb138 hg w13 hbox hb
                      have n0_ := m_ (IsS82.below (by repeat (first | (with_reducible first | exact HI0.out | apply IsS82.alloc | apply IsS82.drewN | apply IsS82.drew | apply IsS82.set_1 | refine IsS82.far ?_ NB0_125.out _) | exact HI0.out)) hb)
                      have n1_ := m_ (blk_below (kN BK125.out) hb)
                      have n2_ := m_ (KeepBut.trans (by repeat (first | (with_reducible first | exact HK.out | apply KeepBut.set_ | apply keep_drewN | apply keep_drew | apply keep_alloc | refine keep_far ?_ GW125.out _) | exact HK.out)) (KeepBut.of_below hb g none) (.inl rfl))
                      have n3_ := m_ (below_step (by repeat (first | (with_reducible first | exact HB.out | apply below_alloc | apply pw_below_drewN | apply below_drew1 | refine below_set ?_ (IsS82.ge HI0.out) | refine below_set ?_ GE125.out) | exact HB.out)) hb)
                      have n4_ := m_ (hbox)
                      have n5_ := m_ ((by rw [hg]; exact (keep_size (w := w) (g := g) (row := none) (by repeat (first | (with_reducible first | exact HK.out | apply KeepBut.set_ | apply keep_drewN | apply keep_drew | apply keep_alloc | refine keep_far ?_ GW125.out _) | exact HK.out))) : w.heap.size ≤ gb138))
                      have n6_ := m_ ((Nat.le_trans HW0.out (by rw [hg]; exact (keep_size (w := w) (g := g) (row := none) (by repeat (first | (with_reducible first | exact HK.out | apply KeepBut.set_ | apply keep_drewN | apply keep_drew | apply keep_alloc | refine keep_far ?_ GW125.out _) | exact HK.out))) : w.heap.size ≤ gb138) : w0.heap.size ≤ gb138))
                      have n7_ := m_ (nL hg BK125.out)
                      have n8_ := m_ (nG hg BK125.out)
                      have n9_ := m_ ((by rw [hg]; exact Nat.ne_of_lt (IsS82.lt (show IsS82 w0 _ g s0_0 t127 from by repeat (first | (with_reducible first | exact HI0.out | apply IsS82.alloc | apply IsS82.drewN | apply IsS82.drew | apply IsS82.set_1 | refine IsS82.far ?_ NB0_125.out _) | exact HI0.out))) : g ≠ gb138))
                      have n10_ := m_ ((by rw [hg]; exact Nat.ne_of_gt (IsS82.lt (show IsS82 w0 _ g s0_0 t127 from by repeat (first | (with_reducible first | exact HI0.out | apply IsS82.alloc | apply IsS82.drewN | apply IsS82.drew | apply IsS82.set_1 | refine IsS82.far ?_ NB0_125.out _) | exact HI0.out))) : gb138 ≠ g))
                      clear HI0
                      clear BK125
                      clear HK
                      clear HB
                      have HI0 := n0_
                      have BK125 := n1_
                      have HK := n2_
                      have HB := n3_
                      have BK138 := n4_
                      have GW138 := n5_
                      have GE138 := n6_
                      have NB125_138 := n7_
                      have NB138_125 := n8_
                      have NB0_138 := n9_
                      have NB138_0 := n10_
                      clear n0_ n1_ n2_ n3_ n4_ n5_ n6_ n7_ n8_ n9_ n10_
                      clear hb hbox hg
                      refine hK.out _ _ trivial (fun hHeld => ?_)
                      clear hK K
                      refine np (h := ?_)
                      exact norm_ (by first | (simp only [putAll, Act.put, List.setIfInBounds_toArray, List.set_cons_zero, List.set_cons_succ]; done) | (simp only [putAll, Act.put, List.setIfInBounds_toArray, List.set_cons_zero, List.set_cons_succ]; rfl)) (hJ1_13 (gb138) _ ⟨(kN BK125.out), (kN BK138.out), GW138.out, GE138.out, NB0_138.out, NB138_0.out, NB125_138.out, NB138_125.out, (by repeat (first | (with_reducible first | exact HI0.out | apply IsS82.alloc | apply IsS82.drewN | apply IsS82.drew | apply IsS82.set_1 | refine IsS82.far ?_ NB0_125.out _ | refine IsS82.far ?_ NB0_138.out _) | exact HI0.out)), (by repeat (first | (with_reducible first | exact HK.out | apply KeepBut.set_ | apply keep_drewN | apply keep_drew | apply keep_alloc | refine keep_far ?_ GW125.out _ | refine keep_far ?_ GW138.out _) | exact HK.out)), (by repeat (first | (with_reducible first | exact HB.out | apply below_alloc | apply pw_below_drewN | apply below_drew1 | refine below_set ?_ (IsS82.ge HI0.out) | refine below_set ?_ GE125.out | refine below_set ?_ GE138.out) | exact HB.out))⟩)
                   ·skip
                    rintro gb138 w13 ⟨h0_, h1_, h2_, h3_, h4_, h5_, h6_, h7_, h8_, h9_, h10_⟩
                    have n0_ : Aside0 (w13.heap[gb125]? = some (.cells #[.int .i64 0, .int .i64 0, .int .i64 0, .slice none 0 0, .bool false] 25 (0, 0))) := ⟨h0_⟩
                    have n1_ : Aside0 (w13.heap[gb138]? = some (.cells #[.int .i64 0, .int .i64 0, .int .i64 0, .slice none 0 0, .bool false] 25 (0, 0))) := ⟨h1_⟩
                    have n2_ : Aside0 (w.heap.size ≤ gb138) := ⟨h2_⟩
                    have n3_ : Aside0 (w0.heap.size ≤ gb138) := ⟨h3_⟩
                    have n4_ : Aside0 (g ≠ gb138) := ⟨h4_⟩
                    have n5_ : Aside0 (gb138 ≠ g) := ⟨h5_⟩
                    have n6_ : Aside0 (gb125 ≠ gb138) := ⟨h6_⟩
                    have n7_ : Aside0 (gb138 ≠ gb125) := ⟨h7_⟩
                    have n8_ : Aside0 (IsS82 w0 w13 g s0_0 t127) := ⟨h8_⟩
                    have n9_ : Aside0 (KeepBut w w13 g none) := ⟨h9_⟩
                    have n10_ : Aside0 (Below w0.heap.size w0 w13) := ⟨h10_⟩
                    clear BK125
                    clear HI0
                    clear HK
                    clear HB
                    clear h0_ h1_ h2_ h3_ h4_ h5_ h6_ h7_ h8_ h9_ h10_
                    have BK125 := n0_
                    have BK138 := n1_
                    have GW138 := n2_
                    have GE138 := n3_
                    have NB0_138 := n4_
                    have NB138_0 := n5_
                    have NB125_138 := n6_
                    have NB138_125 := n7_
                    have HI0 := n8_
                    have HK := n9_
                    have HB := n10_
                    clear n0_ n1_ n2_ n3_ n4_ n5_ n6_ n7_ n8_ n9_ n10_
                    have hHeld := trivial
                    refine norm_ (a' := ?_) ?_ ?_
                    rotate_left
                    ·simp only [putAll, Act.put, List.setIfInBounds_toArray, List.set_cons_zero, List.set_cons_succ]
                     rfl
                    refine one_ (i := 3) (N := some 8) #[true, true, true, true, false, true, false, false, false, true, false, false, false, true, false] rfl rfl (one_of HT_.out (by kernel_rfl)) (by decide) (fun K hK => ?_)
                    refine goes_ Try.func45 (by kernel_rfl) rfl #[.pointer (some ⟨g, 0, none⟩), .int .i64 256] (by rfl) rfl rfl gl_ ?_
                    with_reducible refine (spec_l1Rd_pick.calls k g s0_0 t127 256 t128 t129 w0 _ ?side1 ?side2 A3.out).mono ?_
                    (case side1 => repeat (first | (with_reducible first | exact HI0.out | apply IsS82.alloc | apply IsS82.drewN | apply IsS82.drew | apply IsS82.set_1 | refine IsS82.far ?_ NB0_125.out _ | refine IsS82.far ?_ NB0_138.out _) | exact HI0.out))
                    (case side2 => repeat (first | (with_reducible first | exact HB.out | apply below_alloc | apply pw_below_drewN | apply below_drew1 | refine below_set ?_ (IsS82.ge HI0.out) | refine below_set ?_ GE125.out | refine below_set ?_ GE138.out) | exact HB.out))
                    rintro e w14 ⟨rfl, hi, hb, hk⟩
                    refine ⟨_, rfl, ?_⟩
                    have n0_ := m_ (KeepBut.blk hk (g' := gb125) (o := .cells #[.int .i64 0, .int .i64 0, .int .i64 0, .slice none 0 0, .bool false] 25 (0, 0)) (kN BK125.out) NB125_0.out (by simp))
                    have n1_ := m_ (KeepBut.blk hk (g' := gb138) (o := .cells #[.int .i64 0, .int .i64 0, .int .i64 0, .slice none 0 0, .bool false] 25 (0, 0)) (kN BK138.out) NB138_0.out (by simp))
                    have n2_ := m_ (KeepBut.trans (by repeat (first | (with_reducible first | exact HK.out | apply KeepBut.set_ | apply keep_drewN | apply keep_drew | apply keep_alloc | refine keep_far ?_ GW125.out _ | refine keep_far ?_ GW138.out _) | exact HK.out)) hk (.inl rfl))
                    have n3_ := m_ (hb)
                    have n4_ := m_ (hi)
                    clear BK125
                    clear BK138
                    clear HK
                    clear HB
                    clear HI0
                    have BK125 := n0_
                    have BK138 := n1_
                    have HK := n2_
                    have HB := n3_
                    have HI0 := n4_
                    clear n0_ n1_ n2_ n3_ n4_
                    (try clear hb)
                    (try clear hb2)
                    (try clear hk)
                    (try clear hi)
                    refine hK.out _ _ trivial (fun hHeld => ?_)
                    clear hK K
                    refine np (h := ?_)
                    exact norm_ (by first | (simp only [putAll, Act.put, List.setIfInBounds_toArray, List.set_cons_zero, List.set_cons_succ]; done) | (simp only [putAll, Act.put, List.setIfInBounds_toArray, List.set_cons_zero, List.set_cons_succ]; rfl)) (hJ1_3_13 (gb138) _ ⟨(kN BK125.out), (kN BK138.out), GW138.out, GE138.out, NB0_138.out, NB138_0.out, NB125_138.out, NB138_125.out, (by repeat (first | (with_reducible first | exact HI0.out | apply IsS82.alloc | apply IsS82.drewN | apply IsS82.drew | apply IsS82.set_1 | refine IsS82.far ?_ NB0_125.out _ | refine IsS82.far ?_ NB0_138.out _) | exact HI0.out)), (by repeat (first | (with_reducible first | exact HK.out | apply KeepBut.set_ | apply keep_drewN | apply keep_drew | apply keep_alloc | refine keep_far ?_ GW125.out _ | refine keep_far ?_ GW138.out _) | exact HK.out)), (by repeat (first | (with_reducible first | exact HB.out | apply below_alloc | apply pw_below_drewN | apply below_drew1 | refine below_set ?_ (IsS82.ge HI0.out) | refine below_set ?_ GE125.out | refine below_set ?_ GE138.out) | exact HB.out))⟩)
                  ·skip
                   rintro _ w13 ⟨h0_, h1_, h2_, h3_⟩
                   have n0_ : Aside0 (w13.heap[gb125]? = some (.cells #[.int .i64 0, .int .i64 0, .int .i64 0, .slice none 0 0, .bool false] 25 (0, 0))) := ⟨h0_⟩
                   have n1_ : Aside0 (IsS82 w0 w13 g s0_0 t129) := ⟨h1_⟩
                   have n2_ : Aside0 (KeepBut w w13 g none) := ⟨h2_⟩
                   have n3_ : Aside0 (Below w0.heap.size w0 w13) := ⟨h3_⟩
                   clear BK125
                   clear HI0
                   clear HK
                   clear HB
                   clear h0_ h1_ h2_ h3_
                   have BK125 := n0_
                   have HI0 := n1_
                   have HK := n2_
                   have HB := n3_
                   clear n0_ n1_ n2_ n3_
                   have hHeld := trivial
                   refine norm_ (a' := ?_) ?_ ?_
                   rotate_left
                   ·simp only [putAll, Act.put, List.setIfInBounds_toArray, List.set_cons_zero, List.set_cons_succ]
                    rfl
                   refine three_ (i := 4) (j := 6) (k := 13) (Ni := some 9) (Nj := some 11) (Nk := some 3) #[true, true, true, true, true, true, false, false, false, true, false, false, false, false, false] #[true, true, true, true, false, true, true, false, false, true, false, false, false, false, false] #[true, true, true, true, false, true, false, false, false, true, false, false, false, true, false] rfl rfl rfl rfl rfl rfl (three_of HT_.out (by kernel_rfl)) (by decide) (by decide) (by decide) (fun K hK => ?_) (fun K hK => ?_) (fun K hK => ?_)
                   ·skip
                    refine Kd.R_lit_step (Kd.int .i64) _ 3 ?hg (N := 9) ?hd (xs := ([t126, t128, 255] : List Int)) (inner := [.int .i64 t126, .int .i64 t128, .int .i64 255]) (ok := fun _ => True) (okp := fun _ => True) ?hr ?hp (fun _ hk => hk) trivial (Below.refl _ _) (Nat.le_refl _) (by simp) ?_; (case hd => rfl); (case hg => rfl); (case hr => first | (go_simp; done) | (go_simp; rfl)); (case hp => exact (Reps.one (show Kd.M (Kd.int .i64) _ _ _ t126 [.int .i64 t126] from rfl) (Reps.one (show Kd.M (Kd.int .i64) _ _ _ t128 [.int .i64 t128] from rfl) (Reps.one (show Kd.M (Kd.int .i64) _ _ _ 255 [.int .i64 255] from rfl) (Reps.none _ _)))))
                    intro v131 w14 ho15 hb hg_ hnew_
                    clear hg_ hnew_
                    (first | rw [← Ny130.out] at ho15 | (simp only [Int.reduceToNat] at ho15; rw [← Ny130.out] at ho15))
                    have n0_ := m_ (Kd.R_lower ho15 (keep_size (w := w) (g := g) (row := none) (by repeat (first | (with_reducible first | exact HK.out | apply KeepBut.set_ | apply keep_drewN | apply keep_drew | apply keep_alloc | refine keep_far ?_ GW125.out _) | exact HK.out))))
                    have n1_ := m_ (IsS82.below (by repeat (first | (with_reducible first | exact HI0.out | apply IsS82.alloc | apply IsS82.drewN | apply IsS82.drew | apply IsS82.set_1 | refine IsS82.far ?_ NB0_125.out _) | exact HI0.out)) hb)
                    have n2_ := m_ (blk_below (kN BK125.out) hb)
                    have n3_ := m_ (KeepBut.trans (by repeat (first | (with_reducible first | exact HK.out | apply KeepBut.set_ | apply keep_drewN | apply keep_drew | apply keep_alloc | refine keep_far ?_ GW125.out _) | exact HK.out)) (KeepBut.of_below hb g none) (.inl rfl))
                    have n4_ := m_ (below_step (by repeat (first | (with_reducible first | exact HB.out | apply below_alloc | apply pw_below_drewN | apply below_drew1 | refine below_set ?_ (IsS82.ge HI0.out) | refine below_set ?_ GE125.out) | exact HB.out)) hb)
                    clear HI0
                    clear BK125
                    clear HK
                    clear HB
                    have HO132 := n0_
                    have HI0 := n1_
                    have BK125 := n2_
                    have HK := n3_
                    have HB := n4_
                    clear n0_ n1_ n2_ n3_ n4_
                    clear hb ho15
                    obtain ⟨Ao16, co16, eo16⟩ := Kd.R_slice HO132.out
                    subst eo16
                    obtain ⟨ado16, fo16, _⟩ := Kd.at_int (Kd.R_reads' HO132.out).2.2 0 (by decide) (by rw [Ny130.out]; simp)
                    cases fo16
                    refine hK.out _ _ trivial (fun hHeld => ?_)
                    clear hK K
                    refine np (h := ?_)
                    exact norm_ (by first | (simp only [putAll, Act.put, List.setIfInBounds_toArray, List.set_cons_zero, List.set_cons_succ]; done) | (simp only [putAll, Act.put, List.setIfInBounds_toArray, List.set_cons_zero, List.set_cons_succ]; rfl)) (hJ1_3_4 (.slice (some ado16) y130.length co16, ado16) _ ⟨(rN HO132.out), ⟨_, rfl⟩, (kN BK125.out), (by repeat (first | (with_reducible first | exact HI0.out | apply IsS82.alloc | apply IsS82.drewN | apply IsS82.drew | apply IsS82.set_1 | refine IsS82.far ?_ NB0_125.out _) | exact HI0.out)), (by repeat (first | (with_reducible first | exact HK.out | apply KeepBut.set_ | apply keep_drewN | apply keep_drew | apply keep_alloc | refine keep_far ?_ GW125.out _) | exact HK.out)), (by repeat (first | (with_reducible first | exact HB.out | apply below_alloc | apply pw_below_drewN | apply below_drew1 | refine below_set ?_ (IsS82.ge HI0.out) | refine below_set ?_ GE125.out) | exact HB.out))⟩)
                   ·skip
                    refine goes_ Try.func45 (by kernel_rfl) rfl #[.pointer (some ⟨g, 0, none⟩), .int .i64 3] (by rfl) rfl rfl gl_ ?_
                    with_reducible refine (spec_l1Rd_pick.calls k g s0_0 t129 3 t133 t134 w0 _ ?side1 ?side2 A4.out).mono ?_
                    (case side1 => repeat (first | (with_reducible first | exact HI0.out | apply IsS82.alloc | apply IsS82.drewN | apply IsS82.drew | apply IsS82.set_1 | refine IsS82.far ?_ NB0_125.out _) | exact HI0.out))
                    (case side2 => repeat (first | (with_reducible first | exact HB.out | apply below_alloc | apply pw_below_drewN | apply below_drew1 | refine below_set ?_ (IsS82.ge HI0.out) | refine below_set ?_ GE125.out) | exact HB.out))
                    rintro e w14 ⟨rfl, hi, hb, hk⟩
                    refine ⟨_, rfl, ?_⟩
                    have n0_ := m_ (KeepBut.blk hk (g' := gb125) (o := .cells #[.int .i64 0, .int .i64 0, .int .i64 0, .slice none 0 0, .bool false] 25 (0, 0)) (kN BK125.out) NB125_0.out (by simp))
                    have n1_ := m_ (KeepBut.trans (by repeat (first | (with_reducible first | exact HK.out | apply KeepBut.set_ | apply keep_drewN | apply keep_drew | apply keep_alloc | refine keep_far ?_ GW125.out _) | exact HK.out)) hk (.inl rfl))
                    have n2_ := m_ (hb)
                    have n3_ := m_ (hi)
                    clear BK125
                    clear HK
                    clear HB
                    clear HI0
                    have BK125 := n0_
                    have HK := n1_
                    have HB := n2_
                    have HI0 := n3_
                    clear n0_ n1_ n2_ n3_
                    (try clear hb)
                    (try clear hb2)
                    (try clear hk)
                    (try clear hi)
                    refine hK.out _ _ trivial (fun hHeld => ?_)
                    clear hK K
                    refine np (h := ?_)
                    exact norm_ (by first | (simp only [putAll, Act.put, List.setIfInBounds_toArray, List.set_cons_zero, List.set_cons_succ]; done) | (simp only [putAll, Act.put, List.setIfInBounds_toArray, List.set_cons_zero, List.set_cons_succ]; rfl)) (hJ1_3_6 () _ ⟨(kN BK125.out), (by repeat (first | (with_reducible first | exact HI0.out | apply IsS82.alloc | apply IsS82.drewN | apply IsS82.drew | apply IsS82.set_1 | refine IsS82.far ?_ NB0_125.out _) | exact HI0.out)), (by repeat (first | (with_reducible first | exact HK.out | apply KeepBut.set_ | apply keep_drewN | apply keep_drew | apply keep_alloc | refine keep_far ?_ GW125.out _) | exact HK.out)), (by repeat (first | (with_reducible first | exact HB.out | apply below_alloc | apply pw_below_drewN | apply below_drew1 | refine below_set ?_ (IsS82.ge HI0.out) | refine below_set ?_ GE125.out) | exact HB.out))⟩)
                   ·skip
                    refine box_step ?hg (N := 3) ?hd (cs := #[.int .i64 0, .int .i64 0, .int .i64 0, .slice none 0 0, .bool false]) (t := 25) ?hr ?_; (case hd => rfl); (case hg => rfl); (case hr => first | (go_simp; done) | (go_simp; rfl))
                    intro gb138 hg w14 hbox hb
                    have n0_ := m_ (IsS82.below (by repeat (first | (with_reducible first | exact HI0.out | apply IsS82.alloc | apply IsS82.drewN | apply IsS82.drew | apply IsS82.set_1 | refine IsS82.far ?_ NB0_125.out _) | exact HI0.out)) hb)
                    have n1_ := m_ (blk_below (kN BK125.out) hb)
                    have n2_ := m_ (KeepBut.trans (by repeat (first | (with_reducible first | exact HK.out | apply KeepBut.set_ | apply keep_drewN | apply keep_drew | apply keep_alloc | refine keep_far ?_ GW125.out _) | exact HK.out)) (KeepBut.of_below hb g none) (.inl rfl))
                    have n3_ := m_ (below_step (by repeat (first | (with_reducible first | exact HB.out | apply below_alloc | apply pw_below_drewN | apply below_drew1 | refine below_set ?_ (IsS82.ge HI0.out) | refine below_set ?_ GE125.out) | exact HB.out)) hb)
                    have n4_ := m_ (hbox)
                    have n5_ := m_ ((by rw [hg]; exact (keep_size (w := w) (g := g) (row := none) (by repeat (first | (with_reducible first | exact HK.out | apply KeepBut.set_ | apply keep_drewN | apply keep_drew | apply keep_alloc | refine keep_far ?_ GW125.out _) | exact HK.out))) : w.heap.size ≤ gb138))
                    have n6_ := m_ ((Nat.le_trans HW0.out (by rw [hg]; exact (keep_size (w := w) (g := g) (row := none) (by repeat (first | (with_reducible first | exact HK.out | apply KeepBut.set_ | apply keep_drewN | apply keep_drew | apply keep_alloc | refine keep_far ?_ GW125.out _) | exact HK.out))) : w.heap.size ≤ gb138) : w0.heap.size ≤ gb138))
                    have n7_ := m_ (nL hg BK125.out)
                    have n8_ := m_ (nG hg BK125.out)
                    have n9_ := m_ ((by rw [hg]; exact Nat.ne_of_lt (IsS82.lt (show IsS82 w0 _ g s0_0 t129 from by repeat (first | (with_reducible first | exact HI0.out | apply IsS82.alloc | apply IsS82.drewN | apply IsS82.drew | apply IsS82.set_1 | refine IsS82.far ?_ NB0_125.out _) | exact HI0.out))) : g ≠ gb138))
                    have n10_ := m_ ((by rw [hg]; exact Nat.ne_of_gt (IsS82.lt (show IsS82 w0 _ g s0_0 t129 from by repeat (first | (with_reducible first | exact HI0.out | apply IsS82.alloc | apply IsS82.drewN | apply IsS82.drew | apply IsS82.set_1 | refine IsS82.far ?_ NB0_125.out _) | exact HI0.out))) : gb138 ≠ g))
                    clear HI0
                    clear BK125
                    clear HK
                    clear HB
                    have HI0 := n0_
                    have BK125 := n1_
                    have HK := n2_
                    have HB := n3_
                    have BK138 := n4_
                    have GW138 := n5_
                    have GE138 := n6_
                    have NB125_138 := n7_
                    have NB138_125 := n8_
                    have NB0_138 := n9_
                    have NB138_0 := n10_
                    clear n0_ n1_ n2_ n3_ n4_ n5_ n6_ n7_ n8_ n9_ n10_
                    clear hb hbox hg
                    refine hK.out _ _ trivial (fun hHeld => ?_)
                    clear hK K
                    refine np (h := ?_)
                    exact norm_ (by first | (simp only [putAll, Act.put, List.setIfInBounds_toArray, List.set_cons_zero, List.set_cons_succ]; done) | (simp only [putAll, Act.put, List.setIfInBounds_toArray, List.set_cons_zero, List.set_cons_succ]; rfl)) (hJ1_3_13 (gb138) _ ⟨(kN BK125.out), (kN BK138.out), GW138.out, GE138.out, NB0_138.out, NB138_0.out, NB125_138.out, NB138_125.out, (by repeat (first | (with_reducible first | exact HI0.out | apply IsS82.alloc | apply IsS82.drewN | apply IsS82.drew | apply IsS82.set_1 | refine IsS82.far ?_ NB0_125.out _ | refine IsS82.far ?_ NB0_138.out _) | exact HI0.out)), (by repeat (first | (with_reducible first | exact HK.out | apply KeepBut.set_ | apply keep_drewN | apply keep_drew | apply keep_alloc | refine keep_far ?_ GW125.out _ | refine keep_far ?_ GW138.out _) | exact HK.out)), (by repeat (first | (with_reducible first | exact HB.out | apply below_alloc | apply pw_below_drewN | apply below_drew1 | refine below_set ?_ (IsS82.ge HI0.out) | refine below_set ?_ GE125.out | refine below_set ?_ GE138.out) | exact HB.out))⟩)
                 ·skip
                  rintro gb138 w14 ⟨h0_, h1_, h2_, h3_, h4_, h5_, h6_, h7_, h8_, h9_, h10_⟩
                  have n0_ : Aside0 (w14.heap[gb125]? = some (.cells #[.int .i64 0, .int .i64 0, .int .i64 0, .slice none 0 0, .bool false] 25 (0, 0))) := ⟨h0_⟩
                  have n1_ : Aside0 (w14.heap[gb138]? = some (.cells #[.int .i64 0, .int .i64 0, .int .i64 0, .slice none 0 0, .bool false] 25 (0, 0))) := ⟨h1_⟩
                  have n2_ : Aside0 (w.heap.size ≤ gb138) := ⟨h2_⟩
                  have n3_ : Aside0 (w0.heap.size ≤ gb138) := ⟨h3_⟩
                  have n4_ : Aside0 (g ≠ gb138) := ⟨h4_⟩
                  have n5_ : Aside0 (gb138 ≠ g) := ⟨h5_⟩
                  have n6_ : Aside0 (gb125 ≠ gb138) := ⟨h6_⟩
                  have n7_ : Aside0 (gb138 ≠ gb125) := ⟨h7_⟩
                  have n8_ : Aside0 (IsS82 w0 w14 g s0_0 t129) := ⟨h8_⟩
                  have n9_ : Aside0 (KeepBut w w14 g none) := ⟨h9_⟩
                  have n10_ : Aside0 (Below w0.heap.size w0 w14) := ⟨h10_⟩
                  clear BK125
                  clear HI0
                  clear HK
                  clear HB
                  clear h0_ h1_ h2_ h3_ h4_ h5_ h6_ h7_ h8_ h9_ h10_
                  have BK125 := n0_
                  have BK138 := n1_
                  have GW138 := n2_
                  have GE138 := n3_
                  have NB0_138 := n4_
                  have NB138_0 := n5_
                  have NB125_138 := n6_
                  have NB138_125 := n7_
                  have HI0 := n8_
                  have HK := n9_
                  have HB := n10_
                  clear n0_ n1_ n2_ n3_ n4_ n5_ n6_ n7_ n8_ n9_ n10_
                  have hHeld := trivial
                  refine norm_ (a' := ?_) ?_ ?_
                  rotate_left
                  ·simp only [putAll, Act.put, List.setIfInBounds_toArray, List.set_cons_zero, List.set_cons_succ]
                   rfl
                  refine two_ (i := 4) (j := 6) (Ni := some 9) (Nj := some 11) #[true, true, true, true, true, true, false, false, false, true, false, false, false, true, false] #[true, true, true, true, false, true, true, false, false, true, false, false, false, true, false] rfl rfl rfl rfl (two_of HT_.out (by kernel_rfl)) (by decide) (by decide) (fun K hK => ?_) (fun K hK => ?_)
                  ·skip
                   refine Kd.R_lit_step (Kd.int .i64) _ 3 ?hg (N := 9) ?hd (xs := ([t126, t128, 255] : List Int)) (inner := [.int .i64 t126, .int .i64 t128, .int .i64 255]) (ok := fun _ => True) (okp := fun _ => True) ?hr ?hp (fun _ hk => hk) trivial (Below.refl _ _) (Nat.le_refl _) (by simp) ?_; (case hd => rfl); (case hg => rfl); (case hr => first | (go_simp; done) | (go_simp; rfl)); (case hp => exact (Reps.one (show Kd.M (Kd.int .i64) _ _ _ t126 [.int .i64 t126] from rfl) (Reps.one (show Kd.M (Kd.int .i64) _ _ _ t128 [.int .i64 t128] from rfl) (Reps.one (show Kd.M (Kd.int .i64) _ _ _ 255 [.int .i64 255] from rfl) (Reps.none _ _)))))
                   intro v131 w15 ho16 hb hg_ hnew_
                   clear hg_ hnew_
                   (first | rw [← Ny130.out] at ho16 | (simp only [Int.reduceToNat] at ho16; rw [← Ny130.out] at ho16))
                   have n0_ := m_ (Kd.R_lower ho16 (keep_size (w := w) (g := g) (row := none) (by repeat (first | (with_reducible first | exact HK.out | apply KeepBut.set_ | apply keep_drewN | apply keep_drew | apply keep_alloc | refine keep_far ?_ GW125.out _ | refine keep_far ?_ GW138.out _) | exact HK.out))))
                   have n1_ := m_ (IsS82.below (by repeat (first | (with_reducible first | exact HI0.out | apply IsS82.alloc | apply IsS82.drewN | apply IsS82.drew | apply IsS82.set_1 | refine IsS82.far ?_ NB0_125.out _ | refine IsS82.far ?_ NB0_138.out _) | exact HI0.out)) hb)
                   have n2_ := m_ (blk_below (kN BK125.out) hb)
                   have n3_ := m_ (blk_below (kN BK138.out) hb)
                   have n4_ := m_ (KeepBut.trans (by repeat (first | (with_reducible first | exact HK.out | apply KeepBut.set_ | apply keep_drewN | apply keep_drew | apply keep_alloc | refine keep_far ?_ GW125.out _ | refine keep_far ?_ GW138.out _) | exact HK.out)) (KeepBut.of_below hb g none) (.inl rfl))
                   have n5_ := m_ (below_step (by repeat (first | (with_reducible first | exact HB.out | apply below_alloc | apply pw_below_drewN | apply below_drew1 | refine below_set ?_ (IsS82.ge HI0.out) | refine below_set ?_ GE125.out | refine below_set ?_ GE138.out) | exact HB.out)) hb)
                   clear HI0
                   clear BK125
                   clear BK138
                   clear HK
                   clear HB
                   have HO132 := n0_
                   have HI0 := n1_
                   have BK125 := n2_
                   have BK138 := n3_
                   have HK := n4_
                   have HB := n5_
                   clear n0_ n1_ n2_ n3_ n4_ n5_
                   clear hb ho16
                   obtain ⟨Ao17, co17, eo17⟩ := Kd.R_slice HO132.out
                   subst eo17
                   obtain ⟨ado17, fo17, _⟩ := Kd.at_int (Kd.R_reads' HO132.out).2.2 0 (by decide) (by rw [Ny130.out]; simp)
                   cases fo17
                   refine hK.out _ _ trivial (fun hHeld => ?_)
                   clear hK K
                   refine np (h := ?_)
                   exact norm_ (by first | (simp only [putAll, Act.put, List.setIfInBounds_toArray, List.set_cons_zero, List.set_cons_succ]; done) | (simp only [putAll, Act.put, List.setIfInBounds_toArray, List.set_cons_zero, List.set_cons_succ]; rfl)) (hJ1_3_4_13 (.slice (some ado17) y130.length co17, ado17, gb138) _ ⟨(rN HO132.out), ⟨_, rfl⟩, (kN BK125.out), (kN BK138.out), GW138.out, GE138.out, NB0_138.out, NB138_0.out, NB125_138.out, NB138_125.out, (by repeat (first | (with_reducible first | exact HI0.out | apply IsS82.alloc | apply IsS82.drewN | apply IsS82.drew | apply IsS82.set_1 | refine IsS82.far ?_ NB0_125.out _ | refine IsS82.far ?_ NB0_138.out _) | exact HI0.out)), (by repeat (first | (with_reducible first | exact HK.out | apply KeepBut.set_ | apply keep_drewN | apply keep_drew | apply keep_alloc | refine keep_far ?_ GW125.out _ | refine keep_far ?_ GW138.out _) | exact HK.out)), (by repeat (first | (with_reducible first | exact HB.out | apply below_alloc | apply pw_below_drewN | apply below_drew1 | refine below_set ?_ (IsS82.ge HI0.out) | refine below_set ?_ GE125.out | refine below_set ?_ GE138.out) | exact HB.out))⟩)
                  ·skip
                   refine goes_ Try.func45 (by kernel_rfl) rfl #[.pointer (some ⟨g, 0, none⟩), .int .i64 3] (by rfl) rfl rfl gl_ ?_
                   with_reducible refine (spec_l1Rd_pick.calls k g s0_0 t129 3 t133 t134 w0 _ ?side1 ?side2 A4.out).mono ?_
                   (case side1 => repeat (first | (with_reducible first | exact HI0.out | apply IsS82.alloc | apply IsS82.drewN | apply IsS82.drew | apply IsS82.set_1 | refine IsS82.far ?_ NB0_125.out _ | refine IsS82.far ?_ NB0_138.out _) | exact HI0.out))
                   (case side2 => repeat (first | (with_reducible first | exact HB.out | apply below_alloc | apply pw_below_drewN | apply below_drew1 | refine below_set ?_ (IsS82.ge HI0.out) | refine below_set ?_ GE125.out | refine below_set ?_ GE138.out) | exact HB.out))
                   rintro e w15 ⟨rfl, hi, hb, hk⟩
                   refine ⟨_, rfl, ?_⟩
                   have n0_ := m_ (KeepBut.blk hk (g' := gb125) (o := .cells #[.int .i64 0, .int .i64 0, .int .i64 0, .slice none 0 0, .bool false] 25 (0, 0)) (kN BK125.out) NB125_0.out (by simp))
                   have n1_ := m_ (KeepBut.blk hk (g' := gb138) (o := .cells #[.int .i64 0, .int .i64 0, .int .i64 0, .slice none 0 0, .bool false] 25 (0, 0)) (kN BK138.out) NB138_0.out (by simp))
                   have n2_ := m_ (KeepBut.trans (by repeat (first | (with_reducible first | exact HK.out | apply KeepBut.set_ | apply keep_drewN | apply keep_drew | apply keep_alloc | refine keep_far ?_ GW125.out _ | refine keep_far ?_ GW138.out _) | exact HK.out)) hk (.inl rfl))
                   have n3_ := m_ (hb)
                   have n4_ := m_ (hi)
                   clear BK125
                   clear BK138
                   clear HK
                   clear HB
                   clear HI0
                   have BK125 := n0_
                   have BK138 := n1_
                   have HK := n2_
                   have HB := n3_
                   have HI0 := n4_
                   clear n0_ n1_ n2_ n3_ n4_
                   (try clear hb)
                   (try clear hb2)
                   (try clear hk)
                   (try clear hi)
                   refine hK.out _ _ trivial (fun hHeld => ?_)
                   clear hK K
                   refine np (h := ?_)
                   exact norm_ (by first | (simp only [putAll, Act.put, List.setIfInBounds_toArray, List.set_cons_zero, List.set_cons_succ]; done) | (simp only [putAll, Act.put, List.setIfInBounds_toArray, List.set_cons_zero, List.set_cons_succ]; rfl)) (hJ1_3_6_13 (gb138) _ ⟨(kN BK125.out), (kN BK138.out), GW138.out, GE138.out, NB0_138.out, NB138_0.out, NB125_138.out, NB138_125.out, (by repeat (first | (with_reducible first | exact HI0.out | apply IsS82.alloc | apply IsS82.drewN | apply IsS82.drew | apply IsS82.set_1 | refine IsS82.far ?_ NB0_125.out _ | refine IsS82.far ?_ NB0_138.out _) | exact HI0.out)), (by repeat (first | (with_reducible first | exact HK.out | apply KeepBut.set_ | apply keep_drewN | apply keep_drew | apply keep_alloc | refine keep_far ?_ GW125.out _ | refine keep_far ?_ GW138.out _) | exact HK.out)), (by repeat (first | (with_reducible first | exact HB.out | apply below_alloc | apply pw_below_drewN | apply below_drew1 | refine below_set ?_ (IsS82.ge HI0.out) | refine below_set ?_ GE125.out | refine below_set ?_ GE138.out) | exact HB.out))⟩)
                ·skip
                 rintro _ w14 ⟨h0_, h1_, h2_, h3_⟩
                 have n0_ : Aside0 (w14.heap[gb125]? = some (.cells #[.int .i64 0, .int .i64 0, .int .i64 0, .slice none 0 0, .bool false] 25 (0, 0))) := ⟨h0_⟩
                 have n1_ : Aside0 (IsS82 w0 w14 g s0_0 t134) := ⟨h1_⟩
                 have n2_ : Aside0 (KeepBut w w14 g none) := ⟨h2_⟩
                 have n3_ : Aside0 (Below w0.heap.size w0 w14) := ⟨h3_⟩
                 clear BK125
                 clear HI0
                 clear HK
                 clear HB
                 clear h0_ h1_ h2_ h3_
                 have BK125 := n0_
                 have HI0 := n1_
                 have HK := n2_
                 have HB := n3_
                 clear n0_ n1_ n2_ n3_
                 have hHeld := trivial
                 refine norm_ (a' := ?_) ?_ ?_
                 rotate_left
                 ·simp only [putAll, Act.put, List.setIfInBounds_toArray, List.set_cons_zero, List.set_cons_succ]
                  rfl
                 refine three_ (i := 4) (j := 10) (k := 13) (Ni := some 9) (Nj := some 15) (Nk := some 3) #[true, true, true, true, true, true, true, false, false, true, false, false, false, false, false] #[true, true, true, true, false, true, true, false, false, true, true, false, false, false, false] #[true, true, true, true, false, true, true, false, false, true, false, false, false, true, false] rfl rfl rfl rfl rfl rfl (three_of HT_.out (by kernel_rfl)) (by decide) (by decide) (by decide) (fun K hK => ?_) (fun K hK => ?_) (fun K hK => ?_)
                 ·skip
                  refine Kd.R_lit_step (Kd.int .i64) _ 3 ?hg (N := 9) ?hd (xs := ([t126, t128, 255] : List Int)) (inner := [.int .i64 t126, .int .i64 t128, .int .i64 255]) (ok := fun _ => True) (okp := fun _ => True) ?hr ?hp (fun _ hk => hk) trivial (Below.refl _ _) (Nat.le_refl _) (by simp) ?_; (case hd => rfl); (case hg => rfl); (case hr => first | (go_simp; done) | (go_simp; rfl)); (case hp => exact (Reps.one (show Kd.M (Kd.int .i64) _ _ _ t126 [.int .i64 t126] from rfl) (Reps.one (show Kd.M (Kd.int .i64) _ _ _ t128 [.int .i64 t128] from rfl) (Reps.one (show Kd.M (Kd.int .i64) _ _ _ 255 [.int .i64 255] from rfl) (Reps.none _ _)))))
                  intro v131 w15 ho16 hb hg_ hnew_
                  clear hg_ hnew_
                  (first | rw [← Ny130.out] at ho16 | (simp only [Int.reduceToNat] at ho16; rw [← Ny130.out] at ho16))
                  have n0_ := m_ (Kd.R_lower ho16 (keep_size (w := w) (g := g) (row := none) (by repeat (first | (with_reducible first | exact HK.out | apply KeepBut.set_ | apply keep_drewN | apply keep_drew | apply keep_alloc | refine keep_far ?_ GW125.out _) | exact HK.out))))
                  have n1_ := m_ (IsS82.below (by repeat (first | (with_reducible first | exact HI0.out | apply IsS82.alloc | apply IsS82.drewN | apply IsS82.drew | apply IsS82.set_1 | refine IsS82.far ?_ NB0_125.out _) | exact HI0.out)) hb)
                  have n2_ := m_ (blk_below (kN BK125.out) hb)
                  have n3_ := m_ (KeepBut.trans (by repeat (first | (with_reducible first | exact HK.out | apply KeepBut.set_ | apply keep_drewN | apply keep_drew | apply keep_alloc | refine keep_far ?_ GW125.out _) | exact HK.out)) (KeepBut.of_below hb g none) (.inl rfl))
                  have n4_ := m_ (below_step (by repeat (first | (with_reducible first | exact HB.out | apply below_alloc | apply pw_below_drewN | apply below_drew1 | refine below_set ?_ (IsS82.ge HI0.out) | refine below_set ?_ GE125.out) | exact HB.out)) hb)
                  clear HI0
                  clear BK125
                  clear HK
                  clear HB
                  have HO132 := n0_
                  have HI0 := n1_
                  have BK125 := n2_
                  have HK := n3_
                  have HB := n4_
                  clear n0_ n1_ n2_ n3_ n4_
                  clear hb ho16
                  obtain ⟨Ao17, co17, eo17⟩ := Kd.R_slice HO132.out
                  subst eo17
                  obtain ⟨ado17, fo17, _⟩ := Kd.at_int (Kd.R_reads' HO132.out).2.2 0 (by decide) (by rw [Ny130.out]; simp)
                  cases fo17
                  refine hK.out _ _ trivial (fun hHeld => ?_)
                  clear hK K
                  refine np (h := ?_)
                  refine pu 7 12 HT_ (h := ?_)
                  exact norm_ (by first | (simp only [putAll, Act.put, List.setIfInBounds_toArray, List.set_cons_zero, List.set_cons_succ]; done) | (simp only [putAll, Act.put, List.setIfInBounds_toArray, List.set_cons_zero, List.set_cons_succ]; rfl)) (hJ1_3_4_6 (.slice (some ado17) y130.length co17, ado17) _ ⟨(rN HO132.out), ⟨_, rfl⟩, (kN BK125.out), (by repeat (first | (with_reducible first | exact HI0.out | apply IsS82.alloc | apply IsS82.drewN | apply IsS82.drew | apply IsS82.set_1 | refine IsS82.far ?_ NB0_125.out _) | exact HI0.out)), (by repeat (first | (with_reducible first | exact HK.out | apply KeepBut.set_ | apply keep_drewN | apply keep_drew | apply keep_alloc | refine keep_far ?_ GW125.out _) | exact HK.out)), (by repeat (first | (with_reducible first | exact HB.out | apply below_alloc | apply pw_below_drewN | apply below_drew1 | refine below_set ?_ (IsS82.ge HI0.out) | refine below_set ?_ GE125.out) | exact HB.out))⟩)
                 ·skip
                  refine goes_ Try.func45 (by kernel_rfl) rfl #[.pointer (some ⟨g, 0, none⟩), .int .i64 6] (by rfl) rfl rfl gl_ ?_
                  with_reducible refine (spec_l1Rd_pick.calls k g s0_0 t134 6 t136 t137 w0 _ ?side1 ?side2 A7.out).mono ?_
                  (case side1 => repeat (first | (with_reducible first | exact HI0.out | apply IsS82.alloc | apply IsS82.drewN | apply IsS82.drew | apply IsS82.set_1 | refine IsS82.far ?_ NB0_125.out _) | exact HI0.out))
                  (case side2 => repeat (first | (with_reducible first | exact HB.out | apply below_alloc | apply pw_below_drewN | apply below_drew1 | refine below_set ?_ (IsS82.ge HI0.out) | refine below_set ?_ GE125.out) | exact HB.out))
                  rintro e w15 ⟨rfl, hi, hb, hk⟩
                  refine ⟨_, rfl, ?_⟩
                  have n0_ := m_ (KeepBut.blk hk (g' := gb125) (o := .cells #[.int .i64 0, .int .i64 0, .int .i64 0, .slice none 0 0, .bool false] 25 (0, 0)) (kN BK125.out) NB125_0.out (by simp))
                  have n1_ := m_ (KeepBut.trans (by repeat (first | (with_reducible first | exact HK.out | apply KeepBut.set_ | apply keep_drewN | apply keep_drew | apply keep_alloc | refine keep_far ?_ GW125.out _) | exact HK.out)) hk (.inl rfl))
                  have n2_ := m_ (hb)
                  have n3_ := m_ (hi)
                  clear BK125
                  clear HK
                  clear HB
                  clear HI0
                  have BK125 := n0_
                  have HK := n1_
                  have HB := n2_
                  have HI0 := n3_
                  clear n0_ n1_ n2_ n3_
                  (try clear hb)
                  (try clear hb2)
                  (try clear hk)
                  (try clear hi)
                  refine hK.out _ _ trivial (fun hHeld => ?_)
                  clear hK K
                  refine np (h := ?_)
                  refine pu 11 16 HT_ (h := ?_)
                  exact norm_ (by first | (simp only [putAll, Act.put, List.setIfInBounds_toArray, List.set_cons_zero, List.set_cons_succ]; done) | (simp only [putAll, Act.put, List.setIfInBounds_toArray, List.set_cons_zero, List.set_cons_succ]; rfl)) (hJ1_3_6_10 () _ ⟨(kN BK125.out), (by repeat (first | (with_reducible first | exact HI0.out | apply IsS82.alloc | apply IsS82.drewN | apply IsS82.drew | apply IsS82.set_1 | refine IsS82.far ?_ NB0_125.out _) | exact HI0.out)), (by repeat (first | (with_reducible first | exact HK.out | apply KeepBut.set_ | apply keep_drewN | apply keep_drew | apply keep_alloc | refine keep_far ?_ GW125.out _) | exact HK.out)), (by repeat (first | (with_reducible first | exact HB.out | apply below_alloc | apply pw_below_drewN | apply below_drew1 | refine below_set ?_ (IsS82.ge HI0.out) | refine below_set ?_ GE125.out) | exact HB.out))⟩)
                 ·skip
                  refine box_step ?hg (N := 3) ?hd (cs := #[.int .i64 0, .int .i64 0, .int .i64 0, .slice none 0 0, .bool false]) (t := 25) ?hr ?_; (case hd => rfl); (case hg => rfl); (case hr => first | (go_simp; done) | (go_simp; rfl))
                  intro gb138 hg w15 hbox hb
                  have n0_ := m_ (IsS82.below (by repeat (first | (with_reducible first | exact HI0.out | apply IsS82.alloc | apply IsS82.drewN | apply IsS82.drew | apply IsS82.set_1 | refine IsS82.far ?_ NB0_125.out _) | exact HI0.out)) hb)
                  have n1_ := m_ (blk_below (kN BK125.out) hb)
                  have n2_ := m_ (KeepBut.trans (by repeat (first | (with_reducible first | exact HK.out | apply KeepBut.set_ | apply keep_drewN | apply keep_drew | apply keep_alloc | refine keep_far ?_ GW125.out _) | exact HK.out)) (KeepBut.of_below hb g none) (.inl rfl))
                  have n3_ := m_ (below_step (by repeat (first | (with_reducible first | exact HB.out | apply below_alloc | apply pw_below_drewN | apply below_drew1 | refine below_set ?_ (IsS82.ge HI0.out) | refine below_set ?_ GE125.out) | exact HB.out)) hb)
                  have n4_ := m_ (hbox)
                  have n5_ := m_ ((by rw [hg]; exact (keep_size (w := w) (g := g) (row := none) (by repeat (first | (with_reducible first | exact HK.out | apply KeepBut.set_ | apply keep_drewN | apply keep_drew | apply keep_alloc | refine keep_far ?_ GW125.out _) | exact HK.out))) : w.heap.size ≤ gb138))
                  have n6_ := m_ ((Nat.le_trans HW0.out (by rw [hg]; exact (keep_size (w := w) (g := g) (row := none) (by repeat (first | (with_reducible first | exact HK.out | apply KeepBut.set_ | apply keep_drewN | apply keep_drew | apply keep_alloc | refine keep_far ?_ GW125.out _) | exact HK.out))) : w.heap.size ≤ gb138) : w0.heap.size ≤ gb138))
                  have n7_ := m_ (nL hg BK125.out)
                  have n8_ := m_ (nG hg BK125.out)
                  have n9_ := m_ ((by rw [hg]; exact Nat.ne_of_lt (IsS82.lt (show IsS82 w0 _ g s0_0 t134 from by repeat (first | (with_reducible first | exact HI0.out | apply IsS82.alloc | apply IsS82.drewN | apply IsS82.drew | apply IsS82.set_1 | refine IsS82.far ?_ NB0_125.out _) | exact HI0.out))) : g ≠ gb138))
                  have n10_ := m_ ((by rw [hg]; exact Nat.ne_of_gt (IsS82.lt (show IsS82 w0 _ g s0_0 t134 from by repeat (first | (with_reducible first | exact HI0.out | apply IsS82.alloc | apply IsS82.drewN | apply IsS82.drew | apply IsS82.set_1 | refine IsS82.far ?_ NB0_125.out _) | exact HI0.out))) : gb138 ≠ g))
                  clear HI0
                  clear BK125
                  clear HK
                  clear HB
                  have HI0 := n0_
                  have BK125 := n1_
                  have HK := n2_
                  have HB := n3_
                  have BK138 := n4_
                  have GW138 := n5_
                  have GE138 := n6_
                  have NB125_138 := n7_
                  have NB138_125 := n8_
                  have NB0_138 := n9_
                  have NB138_0 := n10_
                  clear n0_ n1_ n2_ n3_ n4_ n5_ n6_ n7_ n8_ n9_ n10_
                  clear hb hbox hg
                  refine hK.out _ _ trivial (fun hHeld => ?_)
                  clear hK K
                  refine np (h := ?_)
                  exact norm_ (by first | (simp only [putAll, Act.put, List.setIfInBounds_toArray, List.set_cons_zero, List.set_cons_succ]; done) | (simp only [putAll, Act.put, List.setIfInBounds_toArray, List.set_cons_zero, List.set_cons_succ]; rfl)) (hJ1_3_6_13 (gb138) _ ⟨(kN BK125.out), (kN BK138.out), GW138.out, GE138.out, NB0_138.out, NB138_0.out, NB125_138.out, NB138_125.out, (by repeat (first | (with_reducible first | exact HI0.out | apply IsS82.alloc | apply IsS82.drewN | apply IsS82.drew | apply IsS82.set_1 | refine IsS82.far ?_ NB0_125.out _ | refine IsS82.far ?_ NB0_138.out _) | exact HI0.out)), (by repeat (first | (with_reducible first | exact HK.out | apply KeepBut.set_ | apply keep_drewN | apply keep_drew | apply keep_alloc | refine keep_far ?_ GW125.out _ | refine keep_far ?_ GW138.out _) | exact HK.out)), (by repeat (first | (with_reducible first | exact HB.out | apply below_alloc | apply pw_below_drewN | apply below_drew1 | refine below_set ?_ (IsS82.ge HI0.out) | refine below_set ?_ GE125.out | refine below_set ?_ GE138.out) | exact HB.out))⟩)
               ·skip
                rintro ⟨v131, adz_v131⟩ w16 ⟨h0_, h1_, h2_, h3_, h4_, h5_⟩
                have n0_ : Aside0 (Kd.R (Kd.int .i64) 3 w16 w.heap.size (fun _ => True) v131 y130) := ⟨h0_⟩
                have n1_ : Aside0 (∃ c_, (v131 : Value) = .slice (some adz_v131) y130.length c_) := ⟨h1_⟩
                have n2_ : Aside0 (w16.heap[gb125]? = some (.cells #[.int .i64 0, .int .i64 0, .int .i64 0, .slice none 0 0, .bool false] 25 (0, 0))) := ⟨h2_⟩
                have n3_ : Aside0 (IsS82 w0 w16 g s0_0 t129) := ⟨h3_⟩
                have n4_ : Aside0 (KeepBut w w16 g none) := ⟨h4_⟩
                have n5_ : Aside0 (Below w0.heap.size w0 w16) := ⟨h5_⟩
                clear BK125
                clear HI0
                clear HK
                clear HB
                clear h0_ h1_ h2_ h3_ h4_ h5_
                have HO132 := n0_
                have HA_HO132 := n1_
                have BK125 := n2_
                have HI0 := n3_
                have HK := n4_
                have HB := n5_
                clear n0_ n1_ n2_ n3_ n4_ n5_
                have hHeld := trivial
                obtain ⟨co17, eo17⟩ := HA_HO132.out
                clear HA_HO132
                subst eo17
                refine norm_ (a' := ?_) ?_ ?_
                rotate_left
                ·simp only [putAll, Act.put, List.setIfInBounds_toArray, List.set_cons_zero, List.set_cons_succ]
                 rfl
                refine two_ (i := 6) (j := 13) (Ni := some 11) (Nj := some 3) #[true, true, true, true, true, true, true, false, false, true, false, false, false, false, false] #[true, true, true, true, true, true, false, false, false, true, false, false, false, true, false] rfl rfl rfl rfl (two_of HT_.out (by kernel_rfl)) (by decide) (by decide) (fun K hK => ?_) (fun K hK => ?_)
                ·skip
                 refine goes_ Try.func45 (by kernel_rfl) rfl #[.pointer (some ⟨g, 0, none⟩), .int .i64 3] (by rfl) rfl rfl gl_ ?_
                 with_reducible refine (spec_l1Rd_pick.calls k g s0_0 t129 3 t133 t134 w0 _ ?side1 ?side2 A4.out).mono ?_
                 (case side1 => repeat (first | (with_reducible first | exact HI0.out | apply IsS82.alloc | apply IsS82.drewN | apply IsS82.drew | apply IsS82.set_1 | refine IsS82.far ?_ NB0_125.out _) | exact HI0.out))
                 (case side2 => repeat (first | (with_reducible first | exact HB.out | apply below_alloc | apply pw_below_drewN | apply below_drew1 | refine below_set ?_ (IsS82.ge HI0.out) | refine below_set ?_ GE125.out) | exact HB.out))
                 rintro e w18 ⟨rfl, hi, hb, hk⟩
                 refine ⟨_, rfl, ?_⟩
                 have n0_ := m_ (KeepBut.blk hk (g' := gb125) (o := .cells #[.int .i64 0, .int .i64 0, .int .i64 0, .slice none 0 0, .bool false] 25 (0, 0)) (kN BK125.out) NB125_0.out (by simp))
                 have n1_ := m_ (Kd.R_mono (Kd.R_keep (IsS82.apart (show IsS82 w0 _ g s0_0 t129 from by repeat (first | (with_reducible first | exact HI0.out | apply IsS82.alloc | apply IsS82.drewN | apply IsS82.drew | apply IsS82.set_1 | refine IsS82.far ?_ NB0_125.out _) | exact HI0.out)) (rN HO132.out) (by decide)) hk (fun _ h => h.2)) (fun _ h => h.1))
                 have n2_ := m_ (KeepBut.trans (by repeat (first | (with_reducible first | exact HK.out | apply KeepBut.set_ | apply keep_drewN | apply keep_drew | apply keep_alloc | refine keep_far ?_ GW125.out _) | exact HK.out)) hk (.inl rfl))
                 have n3_ := m_ (hb)
                 have n4_ := m_ (hi)
                 clear BK125
                 clear HO132
                 clear HK
                 clear HB
                 clear HI0
                 have BK125 := n0_
                 have HO132 := n1_
                 have HK := n2_
                 have HB := n3_
                 have HI0 := n4_
                 clear n0_ n1_ n2_ n3_ n4_
                 (try clear hb)
                 (try clear hb2)
                 (try clear hk)
                 (try clear hi)
                 refine hK.out _ _ trivial (fun hHeld => ?_)
                 clear hK K
                 refine np (h := ?_)
                 refine pu 7 12 HT_ (h := ?_)
                 exact norm_ (by first | (simp only [putAll, Act.put, List.setIfInBounds_toArray, List.set_cons_zero, List.set_cons_succ]; done) | (simp only [putAll, Act.put, List.setIfInBounds_toArray, List.set_cons_zero, List.set_cons_succ]; rfl)) (hJ1_3_4_6 (.slice (some adz_v131) y130.length co17, adz_v131) _ ⟨(rN HO132.out), ⟨_, rfl⟩, (kN BK125.out), (by repeat (first | (with_reducible first | exact HI0.out | apply IsS82.alloc | apply IsS82.drewN | apply IsS82.drew | apply IsS82.set_1 | refine IsS82.far ?_ NB0_125.out _) | exact HI0.out)), (by repeat (first | (with_reducible first | exact HK.out | apply KeepBut.set_ | apply keep_drewN | apply keep_drew | apply keep_alloc | refine keep_far ?_ GW125.out _) | exact HK.out)), (by repeat (first | (with_reducible first | exact HB.out | apply below_alloc | apply pw_below_drewN | apply below_drew1 | refine below_set ?_ (IsS82.ge HI0.out) | refine below_set ?_ GE125.out) | exact HB.out))⟩)
                ·skip
                 refine box_step ?hg (N := 3) ?hd (cs := #[.int .i64 0, .int .i64 0, .int .i64 0, .slice none 0 0, .bool false]) (t := 25) ?hr ?_; (case hd => rfl); (case hg => rfl); (case hr => first | (go_simp; done) | (go_simp; rfl))
                 intro gb138 hg w18 hbox hb
                 have n0_ := m_ (Kd.R_below (rN HO132.out) hb)
                 have n1_ := m_ (IsS82.below (by repeat (first | (with_reducible first | exact HI0.out | apply IsS82.alloc | apply IsS82.drewN | apply IsS82.drew | apply IsS82.set_1 | refine IsS82.far ?_ NB0_125.out _) | exact HI0.out)) hb)
                 have n2_ := m_ (blk_below (kN BK125.out) hb)
                 have n3_ := m_ (KeepBut.trans (by repeat (first | (with_reducible first | exact HK.out | apply KeepBut.set_ | apply keep_drewN | apply keep_drew | apply keep_alloc | refine keep_far ?_ GW125.out _) | exact HK.out)) (KeepBut.of_below hb g none) (.inl rfl))
                 have n4_ := m_ (below_step (by repeat (first | (with_reducible first | exact HB.out | apply below_alloc | apply pw_below_drewN | apply below_drew1 | refine below_set ?_ (IsS82.ge HI0.out) | refine below_set ?_ GE125.out) | exact HB.out)) hb)
                 have n5_ := m_ (hbox)
                 have n6_ := m_ ((by rw [hg]; exact (keep_size (w := w) (g := g) (row := none) (by repeat (first | (with_reducible first | exact HK.out | apply KeepBut.set_ | apply keep_drewN | apply keep_drew | apply keep_alloc | refine keep_far ?_ GW125.out _) | exact HK.out))) : w.heap.size ≤ gb138))
                 have n7_ := m_ ((Nat.le_trans HW0.out (by rw [hg]; exact (keep_size (w := w) (g := g) (row := none) (by repeat (first | (with_reducible first | exact HK.out | apply KeepBut.set_ | apply keep_drewN | apply keep_drew | apply keep_alloc | refine keep_far ?_ GW125.out _) | exact HK.out))) : w.heap.size ≤ gb138) : w0.heap.size ≤ gb138))
                 have n8_ := m_ (nL hg BK125.out)
                 have n9_ := m_ (nG hg BK125.out)
                 have n10_ := m_ ((by rw [hg]; exact Nat.ne_of_lt (IsS82.lt (show IsS82 w0 _ g s0_0 t129 from by repeat (first | (with_reducible first | exact HI0.out | apply IsS82.alloc | apply IsS82.drewN | apply IsS82.drew | apply IsS82.set_1 | refine IsS82.far ?_ NB0_125.out _) | exact HI0.out))) : g ≠ gb138))
                 have n11_ := m_ ((by rw [hg]; exact Nat.ne_of_gt (IsS82.lt (show IsS82 w0 _ g s0_0 t129 from by repeat (first | (with_reducible first | exact HI0.out | apply IsS82.alloc | apply IsS82.drewN | apply IsS82.drew | apply IsS82.set_1 | refine IsS82.far ?_ NB0_125.out _) | exact HI0.out))) : gb138 ≠ g))
                 clear HO132
                 clear HI0
                 clear BK125
                 clear HK
                 clear HB
                 have HO132 := n0_
                 have HI0 := n1_
                 have BK125 := n2_
                 have HK := n3_
                 have HB := n4_
                 have BK138 := n5_
                 have GW138 := n6_
                 have GE138 := n7_
                 have NB125_138 := n8_
                 have NB138_125 := n9_
                 have NB0_138 := n10_
                 have NB138_0 := n11_
                 clear n0_ n1_ n2_ n3_ n4_ n5_ n6_ n7_ n8_ n9_ n10_ n11_
                 clear hb hbox hg
                 refine hK.out _ _ trivial (fun hHeld => ?_)
                 clear hK K
                 refine np (h := ?_)
                 exact norm_ (by first | (simp only [putAll, Act.put, List.setIfInBounds_toArray, List.set_cons_zero, List.set_cons_succ]; done) | (simp only [putAll, Act.put, List.setIfInBounds_toArray, List.set_cons_zero, List.set_cons_succ]; rfl)) (hJ1_3_4_13 (.slice (some adz_v131) y130.length co17, adz_v131, gb138) _ ⟨(rN HO132.out), ⟨_, rfl⟩, (kN BK125.out), (kN BK138.out), GW138.out, GE138.out, NB0_138.out, NB138_0.out, NB125_138.out, NB138_125.out, (by repeat (first | (with_reducible first | exact HI0.out | apply IsS82.alloc | apply IsS82.drewN | apply IsS82.drew | apply IsS82.set_1 | refine IsS82.far ?_ NB0_125.out _ | refine IsS82.far ?_ NB0_138.out _) | exact HI0.out)), (by repeat (first | (with_reducible first | exact HK.out | apply KeepBut.set_ | apply keep_drewN | apply keep_drew | apply keep_alloc | refine keep_far ?_ GW125.out _ | refine keep_far ?_ GW138.out _) | exact HK.out)), (by repeat (first | (with_reducible first | exact HB.out | apply below_alloc | apply pw_below_drewN | apply below_drew1 | refine below_set ?_ (IsS82.ge HI0.out) | refine below_set ?_ GE125.out | refine below_set ?_ GE138.out) | exact HB.out))⟩)
              ·skip
               rintro gb138 w15 ⟨h0_, h1_, h2_, h3_, h4_, h5_, h6_, h7_, h8_, h9_, h10_⟩
               have n0_ : Aside0 (w15.heap[gb125]? = some (.cells #[.int .i64 0, .int .i64 0, .int .i64 0, .slice none 0 0, .bool false] 25 (0, 0))) := ⟨h0_⟩
               have n1_ : Aside0 (w15.heap[gb138]? = some (.cells #[.int .i64 0, .int .i64 0, .int .i64 0, .slice none 0 0, .bool false] 25 (0, 0))) := ⟨h1_⟩
               have n2_ : Aside0 (w.heap.size ≤ gb138) := ⟨h2_⟩
               have n3_ : Aside0 (w0.heap.size ≤ gb138) := ⟨h3_⟩
               have n4_ : Aside0 (g ≠ gb138) := ⟨h4_⟩
               have n5_ : Aside0 (gb138 ≠ g) := ⟨h5_⟩
               have n6_ : Aside0 (gb125 ≠ gb138) := ⟨h6_⟩
               have n7_ : Aside0 (gb138 ≠ gb125) := ⟨h7_⟩
               have n8_ : Aside0 (IsS82 w0 w15 g s0_0 t134) := ⟨h8_⟩
               have n9_ : Aside0 (KeepBut w w15 g none) := ⟨h9_⟩
               have n10_ : Aside0 (Below w0.heap.size w0 w15) := ⟨h10_⟩
               clear BK125
               clear HI0
               clear HK
               clear HB
               clear h0_ h1_ h2_ h3_ h4_ h5_ h6_ h7_ h8_ h9_ h10_
               have BK125 := n0_
               have BK138 := n1_
               have GW138 := n2_
               have GE138 := n3_
               have NB0_138 := n4_
               have NB138_0 := n5_
               have NB125_138 := n6_
               have NB138_125 := n7_
               have HI0 := n8_
               have HK := n9_
               have HB := n10_
               clear n0_ n1_ n2_ n3_ n4_ n5_ n6_ n7_ n8_ n9_ n10_
               have hHeld := trivial
               refine norm_ (a' := ?_) ?_ ?_
               rotate_left
               ·simp only [putAll, Act.put, List.setIfInBounds_toArray, List.set_cons_zero, List.set_cons_succ]
                rfl
               refine two_ (i := 4) (j := 10) (Ni := some 9) (Nj := some 15) #[true, true, true, true, true, true, true, false, false, true, false, false, false, true, false] #[true, true, true, true, false, true, true, false, false, true, true, false, false, true, false] rfl rfl rfl rfl (two_of HT_.out (by kernel_rfl)) (by decide) (by decide) (fun K hK => ?_) (fun K hK => ?_)
               ·skip
                refine Kd.R_lit_step (Kd.int .i64) _ 3 ?hg (N := 9) ?hd (xs := ([t126, t128, 255] : List Int)) (inner := [.int .i64 t126, .int .i64 t128, .int .i64 255]) (ok := fun _ => True) (okp := fun _ => True) ?hr ?hp (fun _ hk => hk) trivial (Below.refl _ _) (Nat.le_refl _) (by simp) ?_; (case hd => rfl); (case hg => rfl); (case hr => first | (go_simp; done) | (go_simp; rfl)); (case hp => exact (Reps.one (show Kd.M (Kd.int .i64) _ _ _ t126 [.int .i64 t126] from rfl) (Reps.one (show Kd.M (Kd.int .i64) _ _ _ t128 [.int .i64 t128] from rfl) (Reps.one (show Kd.M (Kd.int .i64) _ _ _ 255 [.int .i64 255] from rfl) (Reps.none _ _)))))
                intro v131 w16 ho17 hb hg_ hnew_
                clear hg_ hnew_
                (first | rw [← Ny130.out] at ho17 | (simp only [Int.reduceToNat] at ho17; rw [← Ny130.out] at ho17))
                have n0_ := m_ (Kd.R_lower ho17 (keep_size (w := w) (g := g) (row := none) (by repeat (first | (with_reducible first | exact HK.out | apply KeepBut.set_ | apply keep_drewN | apply keep_drew | apply keep_alloc | refine keep_far ?_ GW125.out _ | refine keep_far ?_ GW138.out _) | exact HK.out))))
                have n1_ := m_ (IsS82.below (by repeat (first | (with_reducible first | exact HI0.out | apply IsS82.alloc | apply IsS82.drewN | apply IsS82.drew | apply IsS82.set_1 | refine IsS82.far ?_ NB0_125.out _ | refine IsS82.far ?_ NB0_138.out _) | exact HI0.out)) hb)
                have n2_ := m_ (blk_below (kN BK125.out) hb)
                have n3_ := m_ (blk_below (kN BK138.out) hb)
                have n4_ := m_ (KeepBut.trans (by repeat (first | (with_reducible first | exact HK.out | apply KeepBut.set_ | apply keep_drewN | apply keep_drew | apply keep_alloc | refine keep_far ?_ GW125.out _ | refine keep_far ?_ GW138.out _) | exact HK.out)) (KeepBut.of_below hb g none) (.inl rfl))
                have n5_ := m_ (below_step (by repeat (first | (with_reducible first | exact HB.out | apply below_alloc | apply pw_below_drewN | apply below_drew1 | refine below_set ?_ (IsS82.ge HI0.out) | refine below_set ?_ GE125.out | refine below_set ?_ GE138.out) | exact HB.out)) hb)
                clear HI0
                clear BK125
                clear BK138
                clear HK
                clear HB
                have HO132 := n0_
                have HI0 := n1_
                have BK125 := n2_
                have BK138 := n3_
                have HK := n4_
                have HB := n5_
                clear n0_ n1_ n2_ n3_ n4_ n5_
                clear hb ho17
                obtain ⟨Ao18, co18, eo18⟩ := Kd.R_slice HO132.out
                subst eo18
                obtain ⟨ado18, fo18, _⟩ := Kd.at_int (Kd.R_reads' HO132.out).2.2 0 (by decide) (by rw [Ny130.out]; simp)
                cases fo18
                refine hK.out _ _ trivial (fun hHeld => ?_)
                clear hK K
                refine np (h := ?_)
                refine pu 7 12 HT_ (h := ?_)
                exact norm_ (by first | (simp only [putAll, Act.put, List.setIfInBounds_toArray, List.set_cons_zero, List.set_cons_succ]; done) | (simp only [putAll, Act.put, List.setIfInBounds_toArray, List.set_cons_zero, List.set_cons_succ]; rfl)) (hJ1_3_4_6_13 (.slice (some ado18) y130.length co18, ado18, gb138) _ ⟨(rN HO132.out), ⟨_, rfl⟩, (kN BK125.out), (kN BK138.out), GW138.out, GE138.out, NB0_138.out, NB138_0.out, NB125_138.out, NB138_125.out, (by repeat (first | (with_reducible first | exact HI0.out | apply IsS82.alloc | apply IsS82.drewN | apply IsS82.drew | apply IsS82.set_1 | refine IsS82.far ?_ NB0_125.out _ | refine IsS82.far ?_ NB0_138.out _) | exact HI0.out)), (by repeat (first | (with_reducible first | exact HK.out | apply KeepBut.set_ | apply keep_drewN | apply keep_drew | apply keep_alloc | refine keep_far ?_ GW125.out _ | refine keep_far ?_ GW138.out _) | exact HK.out)), (by repeat (first | (with_reducible first | exact HB.out | apply below_alloc | apply pw_below_drewN | apply below_drew1 | refine below_set ?_ (IsS82.ge HI0.out) | refine below_set ?_ GE125.out | refine below_set ?_ GE138.out) | exact HB.out))⟩)
               ·skip
                refine goes_ Try.func45 (by kernel_rfl) rfl #[.pointer (some ⟨g, 0, none⟩), .int .i64 6] (by rfl) rfl rfl gl_ ?_
                with_reducible refine (spec_l1Rd_pick.calls k g s0_0 t134 6 t136 t137 w0 _ ?side1 ?side2 A7.out).mono ?_
                (case side1 => repeat (first | (with_reducible first | exact HI0.out | apply IsS82.alloc | apply IsS82.drewN | apply IsS82.drew | apply IsS82.set_1 | refine IsS82.far ?_ NB0_125.out _ | refine IsS82.far ?_ NB0_138.out _) | exact HI0.out))
                (case side2 => repeat (first | (with_reducible first | exact HB.out | apply below_alloc | apply pw_below_drewN | apply below_drew1 | refine below_set ?_ (IsS82.ge HI0.out) | refine below_set ?_ GE125.out | refine below_set ?_ GE138.out) | exact HB.out))
                rintro e w16 ⟨rfl, hi, hb, hk⟩
                refine ⟨_, rfl, ?_⟩
                have n0_ := m_ (KeepBut.blk hk (g' := gb125) (o := .cells #[.int .i64 0, .int .i64 0, .int .i64 0, .slice none 0 0, .bool false] 25 (0, 0)) (kN BK125.out) NB125_0.out (by simp))
                have n1_ := m_ (KeepBut.blk hk (g' := gb138) (o := .cells #[.int .i64 0, .int .i64 0, .int .i64 0, .slice none 0 0, .bool false] 25 (0, 0)) (kN BK138.out) NB138_0.out (by simp))
                have n2_ := m_ (KeepBut.trans (by repeat (first | (with_reducible first | exact HK.out | apply KeepBut.set_ | apply keep_drewN | apply keep_drew | apply keep_alloc | refine keep_far ?_ GW125.out _ | refine keep_far ?_ GW138.out _) | exact HK.out)) hk (.inl rfl))
                have n3_ := m_ (hb)
                have n4_ := m_ (hi)
                clear BK125
                clear BK138
                clear HK
                clear HB
                clear HI0
                have BK125 := n0_
                have BK138 := n1_
                have HK := n2_
                have HB := n3_
                have HI0 := n4_
                clear n0_ n1_ n2_ n3_ n4_
                (try clear hb)
                (try clear hb2)
                (try clear hk)
                (try clear hi)
                refine hK.out _ _ trivial (fun hHeld => ?_)
                clear hK K
                refine np (h := ?_)
                refine pu 11 16 HT_ (h := ?_)
                exact norm_ (by first | (simp only [putAll, Act.put, List.setIfInBounds_toArray, List.set_cons_zero, List.set_cons_succ]; done) | (simp only [putAll, Act.put, List.setIfInBounds_toArray, List.set_cons_zero, List.set_cons_succ]; rfl)) (hJ1_3_6_10_13 (gb138) _ ⟨(kN BK125.out), (kN BK138.out), GW138.out, GE138.out, NB0_138.out, NB138_0.out, NB125_138.out, NB138_125.out, (by repeat (first | (with_reducible first | exact HI0.out | apply IsS82.alloc | apply IsS82.drewN | apply IsS82.drew | apply IsS82.set_1 | refine IsS82.far ?_ NB0_125.out _ | refine IsS82.far ?_ NB0_138.out _) | exact HI0.out)), (by repeat (first | (with_reducible first | exact HK.out | apply KeepBut.set_ | apply keep_drewN | apply keep_drew | apply keep_alloc | refine keep_far ?_ GW125.out _ | refine keep_far ?_ GW138.out _) | exact HK.out)), (by repeat (first | (with_reducible first | exact HB.out | apply below_alloc | apply pw_below_drewN | apply below_drew1 | refine below_set ?_ (IsS82.ge HI0.out) | refine below_set ?_ GE125.out | refine below_set ?_ GE138.out) | exact HB.out))⟩)
             ·skip
              rintro _ w15 ⟨h0_, h1_, h2_, h3_⟩
              have n0_ : Aside0 (w15.heap[gb125]? = some (.cells #[.int .i64 0, .int .i64 0, .int .i64 0, .slice none 0 0, .bool false] 25 (0, 0))) := ⟨h0_⟩
              have n1_ : Aside0 (IsS82 w0 w15 g s0_0 t137) := ⟨h1_⟩
              have n2_ : Aside0 (KeepBut w w15 g none) := ⟨h2_⟩
              have n3_ : Aside0 (Below w0.heap.size w0 w15) := ⟨h3_⟩
              clear BK125
              clear HI0
              clear HK
              clear HB
              clear h0_ h1_ h2_ h3_
              have BK125 := n0_
              have HI0 := n1_
              have HK := n2_
              have HB := n3_
              clear n0_ n1_ n2_ n3_
              have hHeld := trivial
              refine norm_ (a' := ?_) ?_ ?_
              rotate_left
              ·simp only [putAll, Act.put, List.setIfInBounds_toArray, List.set_cons_zero, List.set_cons_succ]
               rfl
              refine two_ (i := 4) (j := 13) (Ni := some 9) (Nj := some 3) #[true, true, true, true, true, true, true, false, false, true, true, true, false, false, false] #[true, true, true, true, false, true, true, false, false, true, true, true, false, true, false] rfl rfl rfl rfl (two_of HT_.out (by kernel_rfl)) (by decide) (by decide) (fun K hK => ?_) (fun K hK => ?_)
              ·skip
               refine Kd.R_lit_step (Kd.int .i64) _ 3 ?hg (N := 9) ?hd (xs := ([t126, t128, 255] : List Int)) (inner := [.int .i64 t126, .int .i64 t128, .int .i64 255]) (ok := fun _ => True) (okp := fun _ => True) ?hr ?hp (fun _ hk => hk) trivial (Below.refl _ _) (Nat.le_refl _) (by simp) ?_; (case hd => rfl); (case hg => rfl); (case hr => first | (go_simp; done) | (go_simp; rfl)); (case hp => exact (Reps.one (show Kd.M (Kd.int .i64) _ _ _ t126 [.int .i64 t126] from rfl) (Reps.one (show Kd.M (Kd.int .i64) _ _ _ t128 [.int .i64 t128] from rfl) (Reps.one (show Kd.M (Kd.int .i64) _ _ _ 255 [.int .i64 255] from rfl) (Reps.none _ _)))))
               intro v131 w16 ho17 hb hg_ hnew_
               clear hg_ hnew_
               (first | rw [← Ny130.out] at ho17 | (simp only [Int.reduceToNat] at ho17; rw [← Ny130.out] at ho17))
               have n0_ := m_ (Kd.R_lower ho17 (keep_size (w := w) (g := g) (row := none) (by repeat (first | (with_reducible first | exact HK.out | apply KeepBut.set_ | apply keep_drewN | apply keep_drew | apply keep_alloc | refine keep_far ?_ GW125.out _) | exact HK.out))))
               have n1_ := m_ (IsS82.below (by repeat (first | (with_reducible first | exact HI0.out | apply IsS82.alloc | apply IsS82.drewN | apply IsS82.drew | apply IsS82.set_1 | refine IsS82.far ?_ NB0_125.out _) | exact HI0.out)) hb)
               have n2_ := m_ (blk_below (kN BK125.out) hb)
               have n3_ := m_ (KeepBut.trans (by repeat (first | (with_reducible first | exact HK.out | apply KeepBut.set_ | apply keep_drewN | apply keep_drew | apply keep_alloc | refine keep_far ?_ GW125.out _) | exact HK.out)) (KeepBut.of_below hb g none) (.inl rfl))
               have n4_ := m_ (below_step (by repeat (first | (with_reducible first | exact HB.out | apply below_alloc | apply pw_below_drewN | apply below_drew1 | refine below_set ?_ (IsS82.ge HI0.out) | refine below_set ?_ GE125.out) | exact HB.out)) hb)
               clear HI0
               clear BK125
               clear HK
               clear HB
               have HO132 := n0_
               have HI0 := n1_
               have BK125 := n2_
               have HK := n3_
               have HB := n4_
               clear n0_ n1_ n2_ n3_ n4_
               clear hb ho17
               obtain ⟨Ao18, co18, eo18⟩ := Kd.R_slice HO132.out
               subst eo18
               obtain ⟨ado18, fo18, _⟩ := Kd.at_int (Kd.R_reads' HO132.out).2.2 0 (by decide) (by rw [Ny130.out]; simp)
               cases fo18
               refine hK.out _ _ trivial (fun hHeld => ?_)
               clear hK K
               refine np (h := ?_)
               refine pu 7 12 HT_ (h := ?_)
               exact norm_ (by first | (simp only [putAll, Act.put, List.setIfInBounds_toArray, List.set_cons_zero, List.set_cons_succ]; done) | (simp only [putAll, Act.put, List.setIfInBounds_toArray, List.set_cons_zero, List.set_cons_succ]; rfl)) (hJ1_3_4_6_10 (.slice (some ado18) y130.length co18, ado18) _ ⟨(rN HO132.out), ⟨_, rfl⟩, (kN BK125.out), (by repeat (first | (with_reducible first | exact HI0.out | apply IsS82.alloc | apply IsS82.drewN | apply IsS82.drew | apply IsS82.set_1 | refine IsS82.far ?_ NB0_125.out _) | exact HI0.out)), (by repeat (first | (with_reducible first | exact HK.out | apply KeepBut.set_ | apply keep_drewN | apply keep_drew | apply keep_alloc | refine keep_far ?_ GW125.out _) | exact HK.out)), (by repeat (first | (with_reducible first | exact HB.out | apply below_alloc | apply pw_below_drewN | apply below_drew1 | refine below_set ?_ (IsS82.ge HI0.out) | refine below_set ?_ GE125.out) | exact HB.out))⟩)
              ·skip
               refine box_step ?hg (N := 3) ?hd (cs := #[.int .i64 0, .int .i64 0, .int .i64 0, .slice none 0 0, .bool false]) (t := 25) ?hr ?_; (case hd => rfl); (case hg => rfl); (case hr => first | (go_simp; done) | (go_simp; rfl))
               intro gb138 hg w16 hbox hb
               have n0_ := m_ (IsS82.below (by repeat (first | (with_reducible first | exact HI0.out | apply IsS82.alloc | apply IsS82.drewN | apply IsS82.drew | apply IsS82.set_1 | refine IsS82.far ?_ NB0_125.out _) | exact HI0.out)) hb)
               have n1_ := m_ (blk_below (kN BK125.out) hb)
               have n2_ := m_ (KeepBut.trans (by repeat (first | (with_reducible first | exact HK.out | apply KeepBut.set_ | apply keep_drewN | apply keep_drew | apply keep_alloc | refine keep_far ?_ GW125.out _) | exact HK.out)) (KeepBut.of_below hb g none) (.inl rfl))
               have n3_ := m_ (below_step (by repeat (first | (with_reducible first | exact HB.out | apply below_alloc | apply pw_below_drewN | apply below_drew1 | refine below_set ?_ (IsS82.ge HI0.out) | refine below_set ?_ GE125.out) | exact HB.out)) hb)
               have n4_ := m_ (hbox)
               have n5_ := m_ ((by rw [hg]; exact (keep_size (w := w) (g := g) (row := none) (by repeat (first | (with_reducible first | exact HK.out | apply KeepBut.set_ | apply keep_drewN | apply keep_drew | apply keep_alloc | refine keep_far ?_ GW125.out _) | exact HK.out))) : w.heap.size ≤ gb138))
               have n6_ := m_ ((Nat.le_trans HW0.out (by rw [hg]; exact (keep_size (w := w) (g := g) (row := none) (by repeat (first | (with_reducible first | exact HK.out | apply KeepBut.set_ | apply keep_drewN | apply keep_drew | apply keep_alloc | refine keep_far ?_ GW125.out _) | exact HK.out))) : w.heap.size ≤ gb138) : w0.heap.size ≤ gb138))
               have n7_ := m_ (nL hg BK125.out)
               have n8_ := m_ (nG hg BK125.out)
               have n9_ := m_ ((by rw [hg]; exact Nat.ne_of_lt (IsS82.lt (show IsS82 w0 _ g s0_0 t137 from by repeat (first | (with_reducible first | exact HI0.out | apply IsS82.alloc | apply IsS82.drewN | apply IsS82.drew | apply IsS82.set_1 | refine IsS82.far ?_ NB0_125.out _) | exact HI0.out))) : g ≠ gb138))
               have n10_ := m_ ((by rw [hg]; exact Nat.ne_of_gt (IsS82.lt (show IsS82 w0 _ g s0_0 t137 from by repeat (first | (with_reducible first | exact HI0.out | apply IsS82.alloc | apply IsS82.drewN | apply IsS82.drew | apply IsS82.set_1 | refine IsS82.far ?_ NB0_125.out _) | exact HI0.out))) : gb138 ≠ g))
               clear HI0
               clear BK125
               clear HK
               clear HB
               have HI0 := n0_
               have BK125 := n1_
               have HK := n2_
               have HB := n3_
               have BK138 := n4_
               have GW138 := n5_
               have GE138 := n6_
               have NB125_138 := n7_
               have NB138_125 := n8_
               have NB0_138 := n9_
               have NB138_0 := n10_
               clear n0_ n1_ n2_ n3_ n4_ n5_ n6_ n7_ n8_ n9_ n10_
               clear hb hbox hg
               refine hK.out _ _ trivial (fun hHeld => ?_)
               clear hK K
               refine np (h := ?_)
               exact norm_ (by first | (simp only [putAll, Act.put, List.setIfInBounds_toArray, List.set_cons_zero, List.set_cons_succ]; done) | (simp only [putAll, Act.put, List.setIfInBounds_toArray, List.set_cons_zero, List.set_cons_succ]; rfl)) (hJ1_3_6_10_13 (gb138) _ ⟨(kN BK125.out), (kN BK138.out), GW138.out, GE138.out, NB0_138.out, NB138_0.out, NB125_138.out, NB138_125.out, (by repeat (first | (with_reducible first | exact HI0.out | apply IsS82.alloc | apply IsS82.drewN | apply IsS82.drew | apply IsS82.set_1 | refine IsS82.far ?_ NB0_125.out _ | refine IsS82.far ?_ NB0_138.out _) | exact HI0.out)), (by repeat (first | (with_reducible first | exact HK.out | apply KeepBut.set_ | apply keep_drewN | apply keep_drew | apply keep_alloc | refine keep_far ?_ GW125.out _ | refine keep_far ?_ GW138.out _) | exact HK.out)), (by repeat (first | (with_reducible first | exact HB.out | apply below_alloc | apply pw_below_drewN | apply below_drew1 | refine below_set ?_ (IsS82.ge HI0.out) | refine below_set ?_ GE125.out | refine below_set ?_ GE138.out) | exact HB.out))⟩)
            ·skip
             rintro ⟨v131, adz_v131, gb138⟩ w17 ⟨h0_, h1_, h2_, h3_, h4_, h5_, h6_, h7_, h8_, h9_, h10_, h11_, h12_⟩
             have n0_ : Aside0 (Kd.R (Kd.int .i64) 3 w17 w.heap.size (fun _ => True) v131 y130) := ⟨h0_⟩
             have n1_ : Aside0 (∃ c_, (v131 : Value) = .slice (some adz_v131) y130.length c_) := ⟨h1_⟩
             have n2_ : Aside0 (w17.heap[gb125]? = some (.cells #[.int .i64 0, .int .i64 0, .int .i64 0, .slice none 0 0, .bool false] 25 (0, 0))) := ⟨h2_⟩
             have n3_ : Aside0 (w17.heap[gb138]? = some (.cells #[.int .i64 0, .int .i64 0, .int .i64 0, .slice none 0 0, .bool false] 25 (0, 0))) := ⟨h3_⟩
             have n4_ : Aside0 (w.heap.size ≤ gb138) := ⟨h4_⟩
             have n5_ : Aside0 (w0.heap.size ≤ gb138) := ⟨h5_⟩
             have n6_ : Aside0 (g ≠ gb138) := ⟨h6_⟩
             have n7_ : Aside0 (gb138 ≠ g) := ⟨h7_⟩
             have n8_ : Aside0 (gb125 ≠ gb138) := ⟨h8_⟩
             have n9_ : Aside0 (gb138 ≠ gb125) := ⟨h9_⟩
             have n10_ : Aside0 (IsS82 w0 w17 g s0_0 t129) := ⟨h10_⟩
             have n11_ : Aside0 (KeepBut w w17 g none) := ⟨h11_⟩
             have n12_ : Aside0 (Below w0.heap.size w0 w17) := ⟨h12_⟩
             clear BK125
             clear HI0
             clear HK
             clear HB
             clear h0_ h1_ h2_ h3_ h4_ h5_ h6_ h7_ h8_ h9_ h10_ h11_ h12_
             have HO132 := n0_
             have HA_HO132 := n1_
             have BK125 := n2_
             have BK138 := n3_
             have GW138 := n4_
             have GE138 := n5_
             have NB0_138 := n6_
             have NB138_0 := n7_
             have NB125_138 := n8_
             have NB138_125 := n9_
             have HI0 := n10_
             have HK := n11_
             have HB := n12_
             clear n0_ n1_ n2_ n3_ n4_ n5_ n6_ n7_ n8_ n9_ n10_ n11_ n12_
             have hHeld := trivial
             obtain ⟨co18, eo18⟩ := HA_HO132.out
             clear HA_HO132
             subst eo18
             refine norm_ (a' := ?_) ?_ ?_
             rotate_left
             ·simp only [putAll, Act.put, List.setIfInBounds_toArray, List.set_cons_zero, List.set_cons_succ]
              rfl
             refine one_ (i := 6) (N := some 11) #[true, true, true, true, true, true, true, false, false, true, false, false, false, true, false] rfl rfl (one_of HT_.out (by kernel_rfl)) (by decide) (fun K hK => ?_)
             refine goes_ Try.func45 (by kernel_rfl) rfl #[.pointer (some ⟨g, 0, none⟩), .int .i64 3] (by rfl) rfl rfl gl_ ?_
             with_reducible refine (spec_l1Rd_pick.calls k g s0_0 t129 3 t133 t134 w0 _ ?side1 ?side2 A4.out).mono ?_
             (case side1 => repeat (first | (with_reducible first | exact HI0.out | apply IsS82.alloc | apply IsS82.drewN | apply IsS82.drew | apply IsS82.set_1 | refine IsS82.far ?_ NB0_125.out _ | refine IsS82.far ?_ NB0_138.out _) | exact HI0.out))
             (case side2 => repeat (first | (with_reducible first | exact HB.out | apply below_alloc | apply pw_below_drewN | apply below_drew1 | refine below_set ?_ (IsS82.ge HI0.out) | refine below_set ?_ GE125.out | refine below_set ?_ GE138.out) | exact HB.out))
             rintro e w19 ⟨rfl, hi, hb, hk⟩
             refine ⟨_, rfl, ?_⟩
             have n0_ := m_ (KeepBut.blk hk (g' := gb125) (o := .cells #[.int .i64 0, .int .i64 0, .int .i64 0, .slice none 0 0, .bool false] 25 (0, 0)) (kN BK125.out) NB125_0.out (by simp))
             have n1_ := m_ (Kd.R_mono (Kd.R_keep (IsS82.apart (show IsS82 w0 _ g s0_0 t129 from by repeat (first | (with_reducible first | exact HI0.out | apply IsS82.alloc | apply IsS82.drewN | apply IsS82.drew | apply IsS82.set_1 | refine IsS82.far ?_ NB0_125.out _ | refine IsS82.far ?_ NB0_138.out _) | exact HI0.out)) (rN HO132.out) (by decide)) hk (fun _ h => h.2)) (fun _ h => h.1))
             have n2_ := m_ (KeepBut.blk hk (g' := gb138) (o := .cells #[.int .i64 0, .int .i64 0, .int .i64 0, .slice none 0 0, .bool false] 25 (0, 0)) (kN BK138.out) NB138_0.out (by simp))
             have n3_ := m_ (KeepBut.trans (by repeat (first | (with_reducible first | exact HK.out | apply KeepBut.set_ | apply keep_drewN | apply keep_drew | apply keep_alloc | refine keep_far ?_ GW125.out _ | refine keep_far ?_ GW138.out _) | exact HK.out)) hk (.inl rfl))
             have n4_ := m_ (hb)
             have n5_ := m_ (hi)
             clear BK125
             clear HO132
             clear BK138
             clear HK
             clear HB
             clear HI0
             have BK125 := n0_
             have HO132 := n1_
             have BK138 := n2_
             have HK := n3_
             have HB := n4_
             have HI0 := n5_
             clear n0_ n1_ n2_ n3_ n4_ n5_
             (try clear hb)
             (try clear hb2)
             (try clear hk)
             (try clear hi)
             refine hK.out _ _ trivial (fun hHeld => ?_)
             clear hK K
             refine np (h := ?_)
             refine pu 7 12 HT_ (h := ?_)
             exact norm_ (by first | (simp only [putAll, Act.put, List.setIfInBounds_toArray, List.set_cons_zero, List.set_cons_succ]; done) | (simp only [putAll, Act.put, List.setIfInBounds_toArray, List.set_cons_zero, List.set_cons_succ]; rfl)) (hJ1_3_4_6_13 (.slice (some adz_v131) y130.length co18, adz_v131, gb138) _ ⟨(rN HO132.out), ⟨_, rfl⟩, (kN BK125.out), (kN BK138.out), GW138.out, GE138.out, NB0_138.out, NB138_0.out, NB125_138.out, NB138_125.out, (by repeat (first | (with_reducible first | exact HI0.out | apply IsS82.alloc | apply IsS82.drewN | apply IsS82.drew | apply IsS82.set_1 | refine IsS82.far ?_ NB0_125.out _ | refine IsS82.far ?_ NB0_138.out _) | exact HI0.out)), (by repeat (first | (with_reducible first | exact HK.out | apply KeepBut.set_ | apply keep_drewN | apply keep_drew | apply keep_alloc | refine keep_far ?_ GW125.out _ | refine keep_far ?_ GW138.out _) | exact HK.out)), (by repeat (first | (with_reducible first | exact HB.out | apply below_alloc | apply pw_below_drewN | apply below_drew1 | refine below_set ?_ (IsS82.ge HI0.out) | refine below_set ?_ GE125.out | refine below_set ?_ GE138.out) | exact HB.out))⟩)
           ·skip
            rintro ⟨v131, adz_v131⟩ w17 ⟨h0_, h1_, h2_, h3_, h4_, h5_⟩
            have n0_ : Aside0 (Kd.R (Kd.int .i64) 3 w17 w.heap.size (fun _ => True) v131 y130) := ⟨h0_⟩
            have n1_ : Aside0 (∃ c_, (v131 : Value) = .slice (some adz_v131) y130.length c_) := ⟨h1_⟩
            have n2_ : Aside0 (w17.heap[gb125]? = some (.cells #[.int .i64 0, .int .i64 0, .int .i64 0, .slice none 0 0, .bool false] 25 (0, 0))) := ⟨h2_⟩
            have n3_ : Aside0 (IsS82 w0 w17 g s0_0 t134) := ⟨h3_⟩
            have n4_ : Aside0 (KeepBut w w17 g none) := ⟨h4_⟩
            have n5_ : Aside0 (Below w0.heap.size w0 w17) := ⟨h5_⟩
            clear BK125
            clear HI0
            clear HK
            clear HB
            clear h0_ h1_ h2_ h3_ h4_ h5_
            have HO132 := n0_
            have HA_HO132 := n1_
            have BK125 := n2_
            have HI0 := n3_
            have HK := n4_
            have HB := n5_
            clear n0_ n1_ n2_ n3_ n4_ n5_
            have hHeld := trivial
            obtain ⟨co18, eo18⟩ := HA_HO132.out
            clear HA_HO132
            subst eo18
            refine norm_ (a' := ?_) ?_ ?_
            rotate_left
            ·simp only [putAll, Act.put, List.setIfInBounds_toArray, List.set_cons_zero, List.set_cons_succ]
             rfl
            refine three_ (i := 8) (j := 10) (k := 13) (Ni := some 13) (Nj := some 15) (Nk := some 3) #[true, true, true, true, true, true, true, true, true, true, false, false, false, false, false] #[true, true, true, true, true, true, true, true, false, true, true, false, false, false, false] #[true, true, true, true, true, true, true, true, false, true, false, false, false, true, false] rfl rfl rfl rfl rfl rfl (three_of HT_.out (by kernel_rfl)) (by decide) (by decide) (by decide) (fun K hK => ?_) (fun K hK => ?_) (fun K hK => ?_)
            ·skip
             (have p135 : 0 ≤ (t133 : Int) := of_decide_eq_true (by first | (with_reducible assumption) | assumption); have q135 : t133 < (y130.length : Int) := of_decide_eq_true (by first | (with_reducible assumption) | assumption); obtain ⟨ad135, e135, hx135_0⟩ := Kd.at_int (Kd.R_reads' HO132.out).2.2 t133 p135 q135; obtain rfl : adz_v131 = ad135 := (by injection e135))
             refine value_ (w1 := ?_) (v := ?_) (by rfl) rfl ?_ ?_
             rotate_left 2
             ·go_simp
              constructor
              ·rfl
              ·rfl
             clear hx135_0
             refine hK.out _ _ trivial (fun hHeld => ?_)
             clear hK K
             refine np (h := ?_)
             exact norm_ (by first | (simp only [putAll, Act.put, List.setIfInBounds_toArray, List.set_cons_zero, List.set_cons_succ]; done) | (simp only [putAll, Act.put, List.setIfInBounds_toArray, List.set_cons_zero, List.set_cons_succ]; rfl)) (hJ1_3_4_6_8 (.slice (some adz_v131) y130.length co18, adz_v131) _ ⟨(rN HO132.out), ⟨_, rfl⟩, (kN BK125.out), (by repeat (first | (with_reducible first | exact HI0.out | apply IsS82.alloc | apply IsS82.drewN | apply IsS82.drew | apply IsS82.set_1 | refine IsS82.far ?_ NB0_125.out _) | exact HI0.out)), (by repeat (first | (with_reducible first | exact HK.out | apply KeepBut.set_ | apply keep_drewN | apply keep_drew | apply keep_alloc | refine keep_far ?_ GW125.out _) | exact HK.out)), (by repeat (first | (with_reducible first | exact HB.out | apply below_alloc | apply pw_below_drewN | apply below_drew1 | refine below_set ?_ (IsS82.ge HI0.out) | refine below_set ?_ GE125.out) | exact HB.out))⟩)
            ·skip
             refine goes_ Try.func45 (by kernel_rfl) rfl #[.pointer (some ⟨g, 0, none⟩), .int .i64 6] (by rfl) rfl rfl gl_ ?_
             with_reducible refine (spec_l1Rd_pick.calls k g s0_0 t134 6 t136 t137 w0 _ ?side1 ?side2 A7.out).mono ?_
             (case side1 => repeat (first | (with_reducible first | exact HI0.out | apply IsS82.alloc | apply IsS82.drewN | apply IsS82.drew | apply IsS82.set_1 | refine IsS82.far ?_ NB0_125.out _) | exact HI0.out))
             (case side2 => repeat (first | (with_reducible first | exact HB.out | apply below_alloc | apply pw_below_drewN | apply below_drew1 | refine below_set ?_ (IsS82.ge HI0.out) | refine below_set ?_ GE125.out) | exact HB.out))
             rintro e w19 ⟨rfl, hi, hb, hk⟩
             refine ⟨_, rfl, ?_⟩
             have n0_ := m_ (KeepBut.blk hk (g' := gb125) (o := .cells #[.int .i64 0, .int .i64 0, .int .i64 0, .slice none 0 0, .bool false] 25 (0, 0)) (kN BK125.out) NB125_0.out (by simp))
             have n1_ := m_ (Kd.R_mono (Kd.R_keep (IsS82.apart (show IsS82 w0 _ g s0_0 t134 from by repeat (first | (with_reducible first | exact HI0.out | apply IsS82.alloc | apply IsS82.drewN | apply IsS82.drew | apply IsS82.set_1 | refine IsS82.far ?_ NB0_125.out _) | exact HI0.out)) (rN HO132.out) (by decide)) hk (fun _ h => h.2)) (fun _ h => h.1))
             have n2_ := m_ (KeepBut.trans (by repeat (first | (with_reducible first | exact HK.out | apply KeepBut.set_ | apply keep_drewN | apply keep_drew | apply keep_alloc | refine keep_far ?_ GW125.out _) | exact HK.out)) hk (.inl rfl))
             have n3_ := m_ (hb)
             have n4_ := m_ (hi)
             clear BK125
             clear HO132
             clear HK
             clear HB
             clear HI0
             have BK125 := n0_
             have HO132 := n1_
             have HK := n2_
             have HB := n3_
             have HI0 := n4_
             clear n0_ n1_ n2_ n3_ n4_
             (try clear hb)
             (try clear hb2)
             (try clear hk)
             (try clear hi)
             refine hK.out _ _ trivial (fun hHeld => ?_)
             clear hK K
             refine np (h := ?_)
             refine pu 11 16 HT_ (h := ?_)
             exact norm_ (by first | (simp only [putAll, Act.put, List.setIfInBounds_toArray, List.set_cons_zero, List.set_cons_succ]; done) | (simp only [putAll, Act.put, List.setIfInBounds_toArray, List.set_cons_zero, List.set_cons_succ]; rfl)) (hJ1_3_4_6_10 (.slice (some adz_v131) y130.length co18, adz_v131) _ ⟨(rN HO132.out), ⟨_, rfl⟩, (kN BK125.out), (by repeat (first | (with_reducible first | exact HI0.out | apply IsS82.alloc | apply IsS82.drewN | apply IsS82.drew | apply IsS82.set_1 | refine IsS82.far ?_ NB0_125.out _) | exact HI0.out)), (by repeat (first | (with_reducible first | exact HK.out | apply KeepBut.set_ | apply keep_drewN | apply keep_drew | apply keep_alloc | refine keep_far ?_ GW125.out _) | exact HK.out)), (by repeat (first | (with_reducible first | exact HB.out | apply below_alloc | apply pw_below_drewN | apply below_drew1 | refine below_set ?_ (IsS82.ge HI0.out) | refine below_set ?_ GE125.out) | exact HB.out))⟩)
            ·skip
             refine box_step ?hg (N := 3) ?hd (cs := #[.int .i64 0, .int .i64 0, .int .i64 0, .slice none 0 0, .bool false]) (t := 25) ?hr ?_; (case hd => rfl); (case hg => rfl); (case hr => first | (go_simp; done) | (go_simp; rfl))
             intro gb138 hg w19 hbox hb
             have n0_ := m_ (Kd.R_below (rN HO132.out) hb)
             have n1_ := m_ (IsS82.below (by repeat (first | (with_reducible first | exact HI0.out | apply IsS82.alloc | apply IsS82.drewN | apply IsS82.drew | apply IsS82.set_1 | refine IsS82.far ?_ NB0_125.out _) | exact HI0.out)) hb)
             have n2_ := m_ (blk_below (kN BK125.out) hb)
             have n3_ := m_ (KeepBut.trans (by repeat (first | (with_reducible first | exact HK.out | apply KeepBut.set_ | apply keep_drewN | apply keep_drew | apply keep_alloc | refine keep_far ?_ GW125.out _) | exact HK.out)) (KeepBut.of_below hb g none) (.inl rfl))
             have n4_ := m_ (below_step (by repeat (first | (with_reducible first | exact HB.out | apply below_alloc | apply pw_below_drewN | apply below_drew1 | refine below_set ?_ (IsS82.ge HI0.out) | refine below_set ?_ GE125.out) | exact HB.out)) hb)
             have n5_ := m_ (hbox)
             have n6_ := m_ ((by rw [hg]; exact (keep_size (w := w) (g := g) (row := none) (by repeat (first | (with_reducible first | exact HK.out | apply KeepBut.set_ | apply keep_drewN | apply keep_drew | apply keep_alloc | refine keep_far ?_ GW125.out _) | exact HK.out))) : w.heap.size ≤ gb138))
             have n7_ := m_ ((Nat.le_trans HW0.out (by rw [hg]; exact (keep_size (w := w) (g := g) (row := none) (by repeat (first | (with_reducible first | exact HK.out | apply KeepBut.set_ | apply keep_drewN | apply keep_drew | apply keep_alloc | refine keep_far ?_ GW125.out _) | exact HK.out))) : w.heap.size ≤ gb138) : w0.heap.size ≤ gb138))
             have n8_ := m_ (nL hg BK125.out)
             have n9_ := m_ (nG hg BK125.out)
             have n10_ := m_ ((by rw [hg]; exact Nat.ne_of_lt (IsS82.lt (show IsS82 w0 _ g s0_0 t134 from by repeat (first | (with_reducible first | exact HI0.out | apply IsS82.alloc | apply IsS82.drewN | apply IsS82.drew | apply IsS82.set_1 | refine IsS82.far ?_ NB0_125.out _) | exact HI0.out))) : g ≠ gb138))
             have n11_ := m_ ((by rw [hg]; exact Nat.ne_of_gt (IsS82.lt (show IsS82 w0 _ g s0_0 t134 from by repeat (first | (with_reducible first | exact HI0.out | apply IsS82.alloc | apply IsS82.drewN | apply IsS82.drew | apply IsS82.set_1 | refine IsS82.far ?_ NB0_125.out _) | exact HI0.out))) : gb138 ≠ g))
             clear HO132
             clear HI0
             clear BK125
             clear HK
             clear HB
             have HO132 := n0_
             have HI0 := n1_
             have BK125 := n2_
             have HK := n3_
             have HB := n4_
             have BK138 := n5_
             have GW138 := n6_
             have GE138 := n7_
             have NB125_138 := n8_
             have NB138_125 := n9_
             have NB0_138 := n10_
             have NB138_0 := n11_
             clear n0_ n1_ n2_ n3_ n4_ n5_ n6_ n7_ n8_ n9_ n10_ n11_
             clear hb hbox hg
             refine hK.out _ _ trivial (fun hHeld => ?_)
             clear hK K
             refine np (h := ?_)
             exact norm_ (by first | (simp only [putAll, Act.put, List.setIfInBounds_toArray, List.set_cons_zero, List.set_cons_succ]; done) | (simp only [putAll, Act.put, List.setIfInBounds_toArray, List.set_cons_zero, List.set_cons_succ]; rfl)) (hJ1_3_4_6_13 (.slice (some adz_v131) y130.length co18, adz_v131, gb138) _ ⟨(rN HO132.out), ⟨_, rfl⟩, (kN BK125.out), (kN BK138.out), GW138.out, GE138.out, NB0_138.out, NB138_0.out, NB125_138.out, NB138_125.out, (by repeat (first | (with_reducible first | exact HI0.out | apply IsS82.alloc | apply IsS82.drewN | apply IsS82.drew | apply IsS82.set_1 | refine IsS82.far ?_ NB0_125.out _ | refine IsS82.far ?_ NB0_138.out _) | exact HI0.out)), (by repeat (first | (with_reducible first | exact HK.out | apply KeepBut.set_ | apply keep_drewN | apply keep_drew | apply keep_alloc | refine keep_far ?_ GW125.out _ | refine keep_far ?_ GW138.out _) | exact HK.out)), (by repeat (first | (with_reducible first | exact HB.out | apply below_alloc | apply pw_below_drewN | apply below_drew1 | refine below_set ?_ (IsS82.ge HI0.out) | refine below_set ?_ GE125.out | refine below_set ?_ GE138.out) | exact HB.out))⟩)
          ·skip
           rintro gb138 w16 ⟨h0_, h1_, h2_, h3_, h4_, h5_, h6_, h7_, h8_, h9_, h10_⟩
           have n0_ : Aside0 (w16.heap[gb125]? = some (.cells #[.int .i64 0, .int .i64 0, .int .i64 0, .slice none 0 0, .bool false] 25 (0, 0))) := ⟨h0_⟩
           have n1_ : Aside0 (w16.heap[gb138]? = some (.cells #[.int .i64 0, .int .i64 0, .int .i64 0, .slice none 0 0, .bool false] 25 (0, 0))) := ⟨h1_⟩
           have n2_ : Aside0 (w.heap.size ≤ gb138) := ⟨h2_⟩
           have n3_ : Aside0 (w0.heap.size ≤ gb138) := ⟨h3_⟩
           have n4_ : Aside0 (g ≠ gb138) := ⟨h4_⟩
           have n5_ : Aside0 (gb138 ≠ g) := ⟨h5_⟩
           have n6_ : Aside0 (gb125 ≠ gb138) := ⟨h6_⟩
           have n7_ : Aside0 (gb138 ≠ gb125) := ⟨h7_⟩
           have n8_ : Aside0 (IsS82 w0 w16 g s0_0 t137) := ⟨h8_⟩
           have n9_ : Aside0 (KeepBut w w16 g none) := ⟨h9_⟩
           have n10_ : Aside0 (Below w0.heap.size w0 w16) := ⟨h10_⟩
           clear BK125
           clear HI0
           clear HK
           clear HB
           clear h0_ h1_ h2_ h3_ h4_ h5_ h6_ h7_ h8_ h9_ h10_
           have BK125 := n0_
           have BK138 := n1_
           have GW138 := n2_
           have GE138 := n3_
           have NB0_138 := n4_
           have NB138_0 := n5_
           have NB125_138 := n6_
           have NB138_125 := n7_
           have HI0 := n8_
           have HK := n9_
           have HB := n10_
           clear n0_ n1_ n2_ n3_ n4_ n5_ n6_ n7_ n8_ n9_ n10_
           have hHeld := trivial
           refine norm_ (a' := ?_) ?_ ?_
           rotate_left
           ·simp only [putAll, Act.put, List.setIfInBounds_toArray, List.set_cons_zero, List.set_cons_succ]
            rfl
           refine one_ (i := 4) (N := some 9) #[true, true, true, true, true, true, true, false, false, true, true, true, false, true, false] rfl rfl (one_of HT_.out (by kernel_rfl)) (by decide) (fun K hK => ?_)
           refine Kd.R_lit_step (Kd.int .i64) _ 3 ?hg (N := 9) ?hd (xs := ([t126, t128, 255] : List Int)) (inner := [.int .i64 t126, .int .i64 t128, .int .i64 255]) (ok := fun _ => True) (okp := fun _ => True) ?hr ?hp (fun _ hk => hk) trivial (Below.refl _ _) (Nat.le_refl _) (by simp) ?_; (case hd => rfl); (case hg => rfl); (case hr => first | (go_simp; done) | (go_simp; rfl)); (case hp => exact (Reps.one (show Kd.M (Kd.int .i64) _ _ _ t126 [.int .i64 t126] from rfl) (Reps.one (show Kd.M (Kd.int .i64) _ _ _ t128 [.int .i64 t128] from rfl) (Reps.one (show Kd.M (Kd.int .i64) _ _ _ 255 [.int .i64 255] from rfl) (Reps.none _ _)))))
           intro v131 w17 ho18 hb hg_ hnew_
           clear hg_ hnew_
           (first | rw [← Ny130.out] at ho18 | (simp only [Int.reduceToNat] at ho18; rw [← Ny130.out] at ho18))
           have n0_ := m_ (Kd.R_lower ho18 (keep_size (w := w) (g := g) (row := none) (by repeat (first | (with_reducible first | exact HK.out | apply KeepBut.set_ | apply keep_drewN | apply keep_drew | apply keep_alloc | refine keep_far ?_ GW125.out _ | refine keep_far ?_ GW138.out _) | exact HK.out))))
           have n1_ := m_ (IsS82.below (by repeat (first | (with_reducible first | exact HI0.out | apply IsS82.alloc | apply IsS82.drewN | apply IsS82.drew | apply IsS82.set_1 | refine IsS82.far ?_ NB0_125.out _ | refine IsS82.far ?_ NB0_138.out _) | exact HI0.out)) hb)
           have n2_ := m_ (blk_below (kN BK125.out) hb)
           have n3_ := m_ (blk_below (kN BK138.out) hb)
           have n4_ := m_ (KeepBut.trans (by repeat (first | (with_reducible first | exact HK.out | apply KeepBut.set_ | apply keep_drewN | apply keep_drew | apply keep_alloc | refine keep_far ?_ GW125.out _ | refine keep_far ?_ GW138.out _) | exact HK.out)) (KeepBut.of_below hb g none) (.inl rfl))
           have n5_ := m_ (below_step (by repeat (first | (with_reducible first | exact HB.out | apply below_alloc | apply pw_below_drewN | apply below_drew1 | refine below_set ?_ (IsS82.ge HI0.out) | refine below_set ?_ GE125.out | refine below_set ?_ GE138.out) | exact HB.out)) hb)
           clear HI0
           clear BK125
           clear BK138
           clear HK
           clear HB
           have HO132 := n0_
           have HI0 := n1_
           have BK125 := n2_
           have BK138 := n3_
           have HK := n4_
           have HB := n5_
           clear n0_ n1_ n2_ n3_ n4_ n5_
           clear hb ho18
           obtain ⟨Ao19, co19, eo19⟩ := Kd.R_slice HO132.out
           subst eo19
           obtain ⟨ado19, fo19, _⟩ := Kd.at_int (Kd.R_reads' HO132.out).2.2 0 (by decide) (by rw [Ny130.out]; simp)
           cases fo19
           refine hK.out _ _ trivial (fun hHeld => ?_)
           clear hK K
           refine np (h := ?_)
           refine pu 7 12 HT_ (h := ?_)
           exact norm_ (by first | (simp only [putAll, Act.put, List.setIfInBounds_toArray, List.set_cons_zero, List.set_cons_succ]; done) | (simp only [putAll, Act.put, List.setIfInBounds_toArray, List.set_cons_zero, List.set_cons_succ]; rfl)) (hJ1_3_4_6_10_13 (.slice (some ado19) y130.length co19, ado19, gb138) _ ⟨(rN HO132.out), ⟨_, rfl⟩, (kN BK125.out), (kN BK138.out), GW138.out, GE138.out, NB0_138.out, NB138_0.out, NB125_138.out, NB138_125.out, (by repeat (first | (with_reducible first | exact HI0.out | apply IsS82.alloc | apply IsS82.drewN | apply IsS82.drew | apply IsS82.set_1 | refine IsS82.far ?_ NB0_125.out _ | refine IsS82.far ?_ NB0_138.out _) | exact HI0.out)), (by repeat (first | (with_reducible first | exact HK.out | apply KeepBut.set_ | apply keep_drewN | apply keep_drew | apply keep_alloc | refine keep_far ?_ GW125.out _ | refine keep_far ?_ GW138.out _) | exact HK.out)), (by repeat (first | (with_reducible first | exact HB.out | apply below_alloc | apply pw_below_drewN | apply below_drew1 | refine below_set ?_ (IsS82.ge HI0.out) | refine below_set ?_ GE125.out | refine below_set ?_ GE138.out) | exact HB.out))⟩)
         ·skip
          rintro ⟨v131, adz_v131, gb138⟩ w18 ⟨h0_, h1_, h2_, h3_, h4_, h5_, h6_, h7_, h8_, h9_, h10_, h11_, h12_⟩
          have n0_ : Aside0 (Kd.R (Kd.int .i64) 3 w18 w.heap.size (fun _ => True) v131 y130) := ⟨h0_⟩
          have n1_ : Aside0 (∃ c_, (v131 : Value) = .slice (some adz_v131) y130.length c_) := ⟨h1_⟩
          have n2_ : Aside0 (w18.heap[gb125]? = some (.cells #[.int .i64 0, .int .i64 0, .int .i64 0, .slice none 0 0, .bool false] 25 (0, 0))) := ⟨h2_⟩
          have n3_ : Aside0 (w18.heap[gb138]? = some (.cells #[.int .i64 0, .int .i64 0, .int .i64 0, .slice none 0 0, .bool false] 25 (0, 0))) := ⟨h3_⟩
          have n4_ : Aside0 (w.heap.size ≤ gb138) := ⟨h4_⟩
          have n5_ : Aside0 (w0.heap.size ≤ gb138) := ⟨h5_⟩
          have n6_ : Aside0 (g ≠ gb138) := ⟨h6_⟩
          have n7_ : Aside0 (gb138 ≠ g) := ⟨h7_⟩
          have n8_ : Aside0 (gb125 ≠ gb138) := ⟨h8_⟩
          have n9_ : Aside0 (gb138 ≠ gb125) := ⟨h9_⟩
          have n10_ : Aside0 (IsS82 w0 w18 g s0_0 t134) := ⟨h10_⟩
          have n11_ : Aside0 (KeepBut w w18 g none) := ⟨h11_⟩
          have n12_ : Aside0 (Below w0.heap.size w0 w18) := ⟨h12_⟩
          clear BK125
          clear HI0
          clear HK
          clear HB
          clear h0_ h1_ h2_ h3_ h4_ h5_ h6_ h7_ h8_ h9_ h10_ h11_ h12_
          have HO132 := n0_
          have HA_HO132 := n1_
          have BK125 := n2_
          have BK138 := n3_
          have GW138 := n4_
          have GE138 := n5_
          have NB0_138 := n6_
          have NB138_0 := n7_
          have NB125_138 := n8_
          have NB138_125 := n9_
          have HI0 := n10_
          have HK := n11_
          have HB := n12_
          clear n0_ n1_ n2_ n3_ n4_ n5_ n6_ n7_ n8_ n9_ n10_ n11_ n12_
          have hHeld := trivial
          obtain ⟨co19, eo19⟩ := HA_HO132.out
          clear HA_HO132
          subst eo19
          refine norm_ (a' := ?_) ?_ ?_
          rotate_left
          ·simp only [putAll, Act.put, List.setIfInBounds_toArray, List.set_cons_zero, List.set_cons_succ]
           rfl
          refine two_ (i := 8) (j := 10) (Ni := some 13) (Nj := some 15) #[true, true, true, true, true, true, true, true, true, true, false, false, false, true, false] #[true, true, true, true, true, true, true, true, false, true, true, false, false, true, false] rfl rfl rfl rfl (two_of HT_.out (by kernel_rfl)) (by decide) (by decide) (fun K hK => ?_) (fun K hK => ?_)
          ·skip
           (have p135 : 0 ≤ (t133 : Int) := of_decide_eq_true (by first | (with_reducible assumption) | assumption); have q135 : t133 < (y130.length : Int) := of_decide_eq_true (by first | (with_reducible assumption) | assumption); obtain ⟨ad135, e135, hx135_0⟩ := Kd.at_int (Kd.R_reads' HO132.out).2.2 t133 p135 q135; obtain rfl : adz_v131 = ad135 := (by injection e135))
           refine value_ (w1 := ?_) (v := ?_) (by rfl) rfl ?_ ?_
           rotate_left 2
           ·go_simp
            constructor
            ·rfl
            ·rfl
           clear hx135_0
           refine hK.out _ _ trivial (fun hHeld => ?_)
           clear hK K
           refine np (h := ?_)
           exact norm_ (by first | (simp only [putAll, Act.put, List.setIfInBounds_toArray, List.set_cons_zero, List.set_cons_succ]; done) | (simp only [putAll, Act.put, List.setIfInBounds_toArray, List.set_cons_zero, List.set_cons_succ]; rfl)) (hJ1_3_4_6_8_13 (.slice (some adz_v131) y130.length co19, adz_v131, gb138) _ ⟨(rN HO132.out), ⟨_, rfl⟩, (kN BK125.out), (kN BK138.out), GW138.out, GE138.out, NB0_138.out, NB138_0.out, NB125_138.out, NB138_125.out, (by repeat (first | (with_reducible first | exact HI0.out | apply IsS82.alloc | apply IsS82.drewN | apply IsS82.drew | apply IsS82.set_1 | refine IsS82.far ?_ NB0_125.out _ | refine IsS82.far ?_ NB0_138.out _) | exact HI0.out)), (by repeat (first | (with_reducible first | exact HK.out | apply KeepBut.set_ | apply keep_drewN | apply keep_drew | apply keep_alloc | refine keep_far ?_ GW125.out _ | refine keep_far ?_ GW138.out _) | exact HK.out)), (by repeat (first | (with_reducible first | exact HB.out | apply below_alloc | apply pw_below_drewN | apply below_drew1 | refine below_set ?_ (IsS82.ge HI0.out) | refine below_set ?_ GE125.out | refine below_set ?_ GE138.out) | exact HB.out))⟩)
          ·skip
           refine goes_ Try.func45 (by kernel_rfl) rfl #[.pointer (some ⟨g, 0, none⟩), .int .i64 6] (by rfl) rfl rfl gl_ ?_
           with_reducible refine (spec_l1Rd_pick.calls k g s0_0 t134 6 t136 t137 w0 _ ?side1 ?side2 A7.out).mono ?_
           (case side1 => repeat (first | (with_reducible first | exact HI0.out | apply IsS82.alloc | apply IsS82.drewN | apply IsS82.drew | apply IsS82.set_1 | refine IsS82.far ?_ NB0_125.out _ | refine IsS82.far ?_ NB0_138.out _) | exact HI0.out))
           (case side2 => repeat (first | (with_reducible first | exact HB.out | apply below_alloc | apply pw_below_drewN | apply below_drew1 | refine below_set ?_ (IsS82.ge HI0.out) | refine below_set ?_ GE125.out | refine below_set ?_ GE138.out) | exact HB.out))
           rintro e w20 ⟨rfl, hi, hb, hk⟩
           refine ⟨_, rfl, ?_⟩
           have n0_ := m_ (KeepBut.blk hk (g' := gb125) (o := .cells #[.int .i64 0, .int .i64 0, .int .i64 0, .slice none 0 0, .bool false] 25 (0, 0)) (kN BK125.out) NB125_0.out (by simp))
           have n1_ := m_ (Kd.R_mono (Kd.R_keep (IsS82.apart (show IsS82 w0 _ g s0_0 t134 from by repeat (first | (with_reducible first | exact HI0.out | apply IsS82.alloc | apply IsS82.drewN | apply IsS82.drew | apply IsS82.set_1 | refine IsS82.far ?_ NB0_125.out _ | refine IsS82.far ?_ NB0_138.out _) | exact HI0.out)) (rN HO132.out) (by decide)) hk (fun _ h => h.2)) (fun _ h => h.1))
           have n2_ := m_ (KeepBut.blk hk (g' := gb138) (o := .cells #[.int .i64 0, .int .i64 0, .int .i64 0, .slice none 0 0, .bool false] 25 (0, 0)) (kN BK138.out) NB138_0.out (by simp))
           have n3_ := m_ (KeepBut.trans (by repeat (first | (with_reducible first | exact HK.out | apply KeepBut.set_ | apply keep_drewN | apply keep_drew | apply keep_alloc | refine keep_far ?_ GW125.out _ | refine keep_far ?_ GW138.out _) | exact HK.out)) hk (.inl rfl))
           have n4_ := m_ (hb)
           have n5_ := m_ (hi)
           clear BK125
           clear HO132
           clear BK138
           clear HK
           clear HB
           clear HI0
           have BK125 := n0_
           have HO132 := n1_
           have BK138 := n2_
           have HK := n3_
           have HB := n4_
           have HI0 := n5_
           clear n0_ n1_ n2_ n3_ n4_ n5_
           (try clear hb)
           (try clear hb2)
           (try clear hk)
           (try clear hi)
           refine hK.out _ _ trivial (fun hHeld => ?_)
           clear hK K
           refine np (h := ?_)
           refine pu 11 16 HT_ (h := ?_)
           exact norm_ (by first | (simp only [putAll, Act.put, List.setIfInBounds_toArray, List.set_cons_zero, List.set_cons_succ]; done) | (simp only [putAll, Act.put, List.setIfInBounds_toArray, List.set_cons_zero, List.set_cons_succ]; rfl)) (hJ1_3_4_6_10_13 (.slice (some adz_v131) y130.length co19, adz_v131, gb138) _ ⟨(rN HO132.out), ⟨_, rfl⟩, (kN BK125.out), (kN BK138.out), GW138.out, GE138.out, NB0_138.out, NB138_0.out, NB125_138.out, NB138_125.out, (by repeat (first | (with_reducible first | exact HI0.out | apply IsS82.alloc | apply IsS82.drewN | apply IsS82.drew | apply IsS82.set_1 | refine IsS82.far ?_ NB0_125.out _ | refine IsS82.far ?_ NB0_138.out _) | exact HI0.out)), (by repeat (first | (with_reducible first | exact HK.out | apply KeepBut.set_ | apply keep_drewN | apply keep_drew | apply keep_alloc | refine keep_far ?_ GW125.out _ | refine keep_far ?_ GW138.out _) | exact HK.out)), (by repeat (first | (with_reducible first | exact HB.out | apply below_alloc | apply pw_below_drewN | apply below_drew1 | refine below_set ?_ (IsS82.ge HI0.out) | refine below_set ?_ GE125.out | refine below_set ?_ GE138.out) | exact HB.out))⟩)
        ·skip
         rintro ⟨v131, adz_v131⟩ w18 ⟨h0_, h1_, h2_, h3_, h4_, h5_⟩
         have n0_ : Aside0 (Kd.R (Kd.int .i64) 3 w18 w.heap.size (fun _ => True) v131 y130) := ⟨h0_⟩
         have n1_ : Aside0 (∃ c_, (v131 : Value) = .slice (some adz_v131) y130.length c_) := ⟨h1_⟩
         have n2_ : Aside0 (w18.heap[gb125]? = some (.cells #[.int .i64 0, .int .i64 0, .int .i64 0, .slice none 0 0, .bool false] 25 (0, 0))) := ⟨h2_⟩
         have n3_ : Aside0 (IsS82 w0 w18 g s0_0 t137) := ⟨h3_⟩
         have n4_ : Aside0 (KeepBut w w18 g none) := ⟨h4_⟩
         have n5_ : Aside0 (Below w0.heap.size w0 w18) := ⟨h5_⟩
         clear BK125
         clear HI0
         clear HK
         clear HB
         clear h0_ h1_ h2_ h3_ h4_ h5_
         have HO132 := n0_
         have HA_HO132 := n1_
         have BK125 := n2_
         have HI0 := n3_
         have HK := n4_
         have HB := n5_
         clear n0_ n1_ n2_ n3_ n4_ n5_
         have hHeld := trivial
         obtain ⟨co19, eo19⟩ := HA_HO132.out
         clear HA_HO132
         subst eo19
         refine norm_ (a' := ?_) ?_ ?_
         rotate_left
         ·simp only [putAll, Act.put, List.setIfInBounds_toArray, List.set_cons_zero, List.set_cons_succ]
          rfl
         refine two_ (i := 8) (j := 13) (Ni := some 13) (Nj := some 3) #[true, true, true, true, true, true, true, true, true, true, true, true, false, false, false] #[true, true, true, true, true, true, true, true, false, true, true, true, false, true, false] rfl rfl rfl rfl (two_of HT_.out (by kernel_rfl)) (by decide) (by decide) (fun K hK => ?_) (fun K hK => ?_)
         ·skip
          (have p135 : 0 ≤ (t133 : Int) := of_decide_eq_true (by first | (with_reducible assumption) | assumption); have q135 : t133 < (y130.length : Int) := of_decide_eq_true (by first | (with_reducible assumption) | assumption); obtain ⟨ad135, e135, hx135_0⟩ := Kd.at_int (Kd.R_reads' HO132.out).2.2 t133 p135 q135; obtain rfl : adz_v131 = ad135 := (by injection e135))
          refine value_ (w1 := ?_) (v := ?_) (by rfl) rfl ?_ ?_
          rotate_left 2
          ·go_simp
           constructor
           ·rfl
           ·rfl
          clear hx135_0
          refine hK.out _ _ trivial (fun hHeld => ?_)
          clear hK K
          refine np (h := ?_)
          refine pu 12 17 HT_ (h := ?_)
          exact norm_ (by first | (simp only [putAll, Act.put, List.setIfInBounds_toArray, List.set_cons_zero, List.set_cons_succ]; done) | (simp only [putAll, Act.put, List.setIfInBounds_toArray, List.set_cons_zero, List.set_cons_succ]; rfl)) (hJ1_3_4_6_8_10 (.slice (some adz_v131) y130.length co19, adz_v131) _ ⟨(rN HO132.out), ⟨_, rfl⟩, (kN BK125.out), (by repeat (first | (with_reducible first | exact HI0.out | apply IsS82.alloc | apply IsS82.drewN | apply IsS82.drew | apply IsS82.set_1 | refine IsS82.far ?_ NB0_125.out _) | exact HI0.out)), (by repeat (first | (with_reducible first | exact HK.out | apply KeepBut.set_ | apply keep_drewN | apply keep_drew | apply keep_alloc | refine keep_far ?_ GW125.out _) | exact HK.out)), (by repeat (first | (with_reducible first | exact HB.out | apply below_alloc | apply pw_below_drewN | apply below_drew1 | refine below_set ?_ (IsS82.ge HI0.out) | refine below_set ?_ GE125.out) | exact HB.out))⟩)
         ·skip
          refine box_step ?hg (N := 3) ?hd (cs := #[.int .i64 0, .int .i64 0, .int .i64 0, .slice none 0 0, .bool false]) (t := 25) ?hr ?_; (case hd => rfl); (case hg => rfl); (case hr => first | (go_simp; done) | (go_simp; rfl))
          intro gb138 hg w20 hbox hb
          have n0_ := m_ (Kd.R_below (rN HO132.out) hb)
          have n1_ := m_ (IsS82.below (by repeat (first | (with_reducible first | exact HI0.out | apply IsS82.alloc | apply IsS82.drewN | apply IsS82.drew | apply IsS82.set_1 | refine IsS82.far ?_ NB0_125.out _) | exact HI0.out)) hb)
          have n2_ := m_ (blk_below (kN BK125.out) hb)
          have n3_ := m_ (KeepBut.trans (by repeat (first | (with_reducible first | exact HK.out | apply KeepBut.set_ | apply keep_drewN | apply keep_drew | apply keep_alloc | refine keep_far ?_ GW125.out _) | exact HK.out)) (KeepBut.of_below hb g none) (.inl rfl))
          have n4_ := m_ (below_step (by repeat (first | (with_reducible first | exact HB.out | apply below_alloc | apply pw_below_drewN | apply below_drew1 | refine below_set ?_ (IsS82.ge HI0.out) | refine below_set ?_ GE125.out) | exact HB.out)) hb)
          have n5_ := m_ (hbox)
          have n6_ := m_ ((by rw [hg]; exact (keep_size (w := w) (g := g) (row := none) (by repeat (first | (with_reducible first | exact HK.out | apply KeepBut.set_ | apply keep_drewN | apply keep_drew | apply keep_alloc | refine keep_far ?_ GW125.out _) | exact HK.out))) : w.heap.size ≤ gb138))
          have n7_ := m_ ((Nat.le_trans HW0.out (by rw [hg]; exact (keep_size (w := w) (g := g) (row := none) (by repeat (first | (with_reducible first | exact HK.out | apply KeepBut.set_ | apply keep_drewN | apply keep_drew | apply keep_alloc | refine keep_far ?_ GW125.out _) | exact HK.out))) : w.heap.size ≤ gb138) : w0.heap.size ≤ gb138))
          have n8_ := m_ (nL hg BK125.out)
          have n9_ := m_ (nG hg BK125.out)
          have n10_ := m_ ((by rw [hg]; exact Nat.ne_of_lt (IsS82.lt (show IsS82 w0 _ g s0_0 t137 from by repeat (first | (with_reducible first | exact HI0.out | apply IsS82.alloc | apply IsS82.drewN | apply IsS82.drew | apply IsS82.set_1 | refine IsS82.far ?_ NB0_125.out _) | exact HI0.out))) : g ≠ gb138))
          have n11_ := m_ ((by rw [hg]; exact Nat.ne_of_gt (IsS82.lt (show IsS82 w0 _ g s0_0 t137 from by repeat (first | (with_reducible first | exact HI0.out | apply IsS82.alloc | apply IsS82.drewN | apply IsS82.drew | apply IsS82.set_1 | refine IsS82.far ?_ NB0_125.out _) | exact HI0.out))) : gb138 ≠ g))
          clear HO132
          clear HI0
          clear BK125
          clear HK
          clear HB
          have HO132 := n0_
          have HI0 := n1_
          have BK125 := n2_
          have HK := n3_
          have HB := n4_
          have BK138 := n5_
          have GW138 := n6_
          have GE138 := n7_
          have NB125_138 := n8_
          have NB138_125 := n9_
          have NB0_138 := n10_
          have NB138_0 := n11_
          clear n0_ n1_ n2_ n3_ n4_ n5_ n6_ n7_ n8_ n9_ n10_ n11_
          clear hb hbox hg
          refine hK.out _ _ trivial (fun hHeld => ?_)
          clear hK K
          refine np (h := ?_)
          exact norm_ (by first | (simp only [putAll, Act.put, List.setIfInBounds_toArray, List.set_cons_zero, List.set_cons_succ]; done) | (simp only [putAll, Act.put, List.setIfInBounds_toArray, List.set_cons_zero, List.set_cons_succ]; rfl)) (hJ1_3_4_6_10_13 (.slice (some adz_v131) y130.length co19, adz_v131, gb138) _ ⟨(rN HO132.out), ⟨_, rfl⟩, (kN BK125.out), (kN BK138.out), GW138.out, GE138.out, NB0_138.out, NB138_0.out, NB125_138.out, NB138_125.out, (by repeat (first | (with_reducible first | exact HI0.out | apply IsS82.alloc | apply IsS82.drewN | apply IsS82.drew | apply IsS82.set_1 | refine IsS82.far ?_ NB0_125.out _ | refine IsS82.far ?_ NB0_138.out _) | exact HI0.out)), (by repeat (first | (with_reducible first | exact HK.out | apply KeepBut.set_ | apply keep_drewN | apply keep_drew | apply keep_alloc | refine keep_far ?_ GW125.out _ | refine keep_far ?_ GW138.out _) | exact HK.out)), (by repeat (first | (with_reducible first | exact HB.out | apply below_alloc | apply pw_below_drewN | apply below_drew1 | refine below_set ?_ (IsS82.ge HI0.out) | refine below_set ?_ GE125.out | refine below_set ?_ GE138.out) | exact HB.out))⟩)
       ·skip
        rintro ⟨v131, adz_v131⟩ w17 ⟨h0_, h1_, h2_, h3_, h4_, h5_⟩
        have n0_ : Aside0 (Kd.R (Kd.int .i64) 3 w17 w.heap.size (fun _ => True) v131 y130) := ⟨h0_⟩
        have n1_ : Aside0 (∃ c_, (v131 : Value) = .slice (some adz_v131) y130.length c_) := ⟨h1_⟩
        have n2_ : Aside0 (w17.heap[gb125]? = some (.cells #[.int .i64 0, .int .i64 0, .int .i64 0, .slice none 0 0, .bool false] 25 (0, 0))) := ⟨h2_⟩
        have n3_ : Aside0 (IsS82 w0 w17 g s0_0 t134) := ⟨h3_⟩
        have n4_ : Aside0 (KeepBut w w17 g none) := ⟨h4_⟩
        have n5_ : Aside0 (Below w0.heap.size w0 w17) := ⟨h5_⟩
        clear BK125
        clear HI0
        clear HK
        clear HB
        clear h0_ h1_ h2_ h3_ h4_ h5_
        have HO132 := n0_
        have HA_HO132 := n1_
        have BK125 := n2_
        have HI0 := n3_
        have HK := n4_
        have HB := n5_
        clear n0_ n1_ n2_ n3_ n4_ n5_
        have hHeld := trivial
        obtain ⟨co18, eo18⟩ := HA_HO132.out
        clear HA_HO132
        subst eo18
        refine norm_ (a' := ?_) ?_ ?_
        rotate_left
        ·simp only [putAll, Act.put, List.setIfInBounds_toArray, List.set_cons_zero, List.set_cons_succ]
         rfl
        refine two_ (i := 10) (j := 13) (Ni := some 15) (Nj := some 3) #[true, true, true, true, true, true, true, true, true, true, true, false, false, false, false] #[true, true, true, true, true, true, true, true, true, true, false, false, false, true, false] rfl rfl rfl rfl (two_of HT_.out (by kernel_rfl)) (by decide) (by decide) (fun K hK => ?_) (fun K hK => ?_)
        ·skip
         refine goes_ Try.func45 (by kernel_rfl) rfl #[.pointer (some ⟨g, 0, none⟩), .int .i64 6] (by rfl) rfl rfl gl_ ?_
         with_reducible refine (spec_l1Rd_pick.calls k g s0_0 t134 6 t136 t137 w0 _ ?side1 ?side2 A7.out).mono ?_
         (case side1 => repeat (first | (with_reducible first | exact HI0.out | apply IsS82.alloc | apply IsS82.drewN | apply IsS82.drew | apply IsS82.set_1 | refine IsS82.far ?_ NB0_125.out _) | exact HI0.out))
         (case side2 => repeat (first | (with_reducible first | exact HB.out | apply below_alloc | apply pw_below_drewN | apply below_drew1 | refine below_set ?_ (IsS82.ge HI0.out) | refine below_set ?_ GE125.out) | exact HB.out))
         rintro e w19 ⟨rfl, hi, hb, hk⟩
         refine ⟨_, rfl, ?_⟩
         have n0_ := m_ (KeepBut.blk hk (g' := gb125) (o := .cells #[.int .i64 0, .int .i64 0, .int .i64 0, .slice none 0 0, .bool false] 25 (0, 0)) (kN BK125.out) NB125_0.out (by simp))
         have n1_ := m_ (Kd.R_mono (Kd.R_keep (IsS82.apart (show IsS82 w0 _ g s0_0 t134 from by repeat (first | (with_reducible first | exact HI0.out | apply IsS82.alloc | apply IsS82.drewN | apply IsS82.drew | apply IsS82.set_1 | refine IsS82.far ?_ NB0_125.out _) | exact HI0.out)) (rN HO132.out) (by decide)) hk (fun _ h => h.2)) (fun _ h => h.1))
         have n2_ := m_ (KeepBut.trans (by repeat (first | (with_reducible first | exact HK.out | apply KeepBut.set_ | apply keep_drewN | apply keep_drew | apply keep_alloc | refine keep_far ?_ GW125.out _) | exact HK.out)) hk (.inl rfl))
         have n3_ := m_ (hb)
         have n4_ := m_ (hi)
         clear BK125
         clear HO132
         clear HK
         clear HB
         clear HI0
         have BK125 := n0_
         have HO132 := n1_
         have HK := n2_
         have HB := n3_
         have HI0 := n4_
         clear n0_ n1_ n2_ n3_ n4_
         (try clear hb)
         (try clear hb2)
         (try clear hk)
         (try clear hi)
         refine hK.out _ _ trivial (fun hHeld => ?_)
         clear hK K
         refine np (h := ?_)
         refine pu 11 16 HT_ (h := ?_)
         refine pu 12 17 HT_ (h := ?_)
         exact norm_ (by first | (simp only [putAll, Act.put, List.setIfInBounds_toArray, List.set_cons_zero, List.set_cons_succ]; done) | (simp only [putAll, Act.put, List.setIfInBounds_toArray, List.set_cons_zero, List.set_cons_succ]; rfl)) (hJ1_3_4_6_8_10 (.slice (some adz_v131) y130.length co18, adz_v131) _ ⟨(rN HO132.out), ⟨_, rfl⟩, (kN BK125.out), (by repeat (first | (with_reducible first | exact HI0.out | apply IsS82.alloc | apply IsS82.drewN | apply IsS82.drew | apply IsS82.set_1 | refine IsS82.far ?_ NB0_125.out _) | exact HI0.out)), (by repeat (first | (with_reducible first | exact HK.out | apply KeepBut.set_ | apply keep_drewN | apply keep_drew | apply keep_alloc | refine keep_far ?_ GW125.out _) | exact HK.out)), (by repeat (first | (with_reducible first | exact HB.out | apply below_alloc | apply pw_below_drewN | apply below_drew1 | refine below_set ?_ (IsS82.ge HI0.out) | refine below_set ?_ GE125.out) | exact HB.out))⟩)
        ·skip
         refine box_step ?hg (N := 3) ?hd (cs := #[.int .i64 0, .int .i64 0, .int .i64 0, .slice none 0 0, .bool false]) (t := 25) ?hr ?_; (case hd => rfl); (case hg => rfl); (case hr => first | (go_simp; done) | (go_simp; rfl))
         intro gb138 hg w19 hbox hb
         have n0_ := m_ (Kd.R_below (rN HO132.out) hb)
         have n1_ := m_ (IsS82.below (by repeat (first | (with_reducible first | exact HI0.out | apply IsS82.alloc | apply IsS82.drewN | apply IsS82.drew | apply IsS82.set_1 | refine IsS82.far ?_ NB0_125.out _) | exact HI0.out)) hb)
         have n2_ := m_ (blk_below (kN BK125.out) hb)
         have n3_ := m_ (KeepBut.trans (by repeat (first | (with_reducible first | exact HK.out | apply KeepBut.set_ | apply keep_drewN | apply keep_drew | apply keep_alloc | refine keep_far ?_ GW125.out _) | exact HK.out)) (KeepBut.of_below hb g none) (.inl rfl))
         have n4_ := m_ (below_step (by repeat (first | (with_reducible first | exact HB.out | apply below_alloc | apply pw_below_drewN | apply below_drew1 | refine below_set ?_ (IsS82.ge HI0.out) | refine below_set ?_ GE125.out) | exact HB.out)) hb)
         have n5_ := m_ (hbox)
         have n6_ := m_ ((by rw [hg]; exact (keep_size (w := w) (g := g) (row := none) (by repeat (first | (with_reducible first | exact HK.out | apply KeepBut.set_ | apply keep_drewN | apply keep_drew | apply keep_alloc | refine keep_far ?_ GW125.out _) | exact HK.out))) : w.heap.size ≤ gb138))
         have n7_ := m_ ((Nat.le_trans HW0.out (by rw [hg]; exact (keep_size (w := w) (g := g) (row := none) (by repeat (first | (with_reducible first | exact HK.out | apply KeepBut.set_ | apply keep_drewN | apply keep_drew | apply keep_alloc | refine keep_far ?_ GW125.out _) | exact HK.out))) : w.heap.size ≤ gb138) : w0.heap.size ≤ gb138))
         have n8_ := m_ (nL hg BK125.out)
         have n9_ := m_ (nG hg BK125.out)
         have n10_ := m_ ((by rw [hg]; exact Nat.ne_of_lt (IsS82.lt (show IsS82 w0 _ g s0_0 t134 from by repeat (first | (with_reducible first | exact HI0.out | apply IsS82.alloc | apply IsS82.drewN | apply IsS82.drew | apply IsS82.set_1 | refine IsS82.far ?_ NB0_125.out _) | exact HI0.out))) : g ≠ gb138))
         have n11_ := m_ ((by rw [hg]; exact Nat.ne_of_gt (IsS82.lt (show IsS82 w0 _ g s0_0 t134 from by repeat (first | (with_reducible first | exact HI0.out | apply IsS82.alloc | apply IsS82.drewN | apply IsS82.drew | apply IsS82.set_1 | refine IsS82.far ?_ NB0_125.out _) | exact HI0.out))) : gb138 ≠ g))
         clear HO132
         clear HI0
         clear BK125
         clear HK
         clear HB
         have HO132 := n0_
         have HI0 := n1_
         have BK125 := n2_
         have HK := n3_
         have HB := n4_
         have BK138 := n5_
         have GW138 := n6_
         have GE138 := n7_
         have NB125_138 := n8_
         have NB138_125 := n9_
         have NB0_138 := n10_
         have NB138_0 := n11_
         clear n0_ n1_ n2_ n3_ n4_ n5_ n6_ n7_ n8_ n9_ n10_ n11_
         clear hb hbox hg
         refine hK.out _ _ trivial (fun hHeld => ?_)
         clear hK K
         refine np (h := ?_)
         exact norm_ (by first | (simp only [putAll, Act.put, List.setIfInBounds_toArray, List.set_cons_zero, List.set_cons_succ]; done) | (simp only [putAll, Act.put, List.setIfInBounds_toArray, List.set_cons_zero, List.set_cons_succ]; rfl)) (hJ1_3_4_6_8_13 (.slice (some adz_v131) y130.length co18, adz_v131, gb138) _ ⟨(rN HO132.out), ⟨_, rfl⟩, (kN BK125.out), (kN BK138.out), GW138.out, GE138.out, NB0_138.out, NB138_0.out, NB125_138.out, NB138_125.out, (by repeat (first | (with_reducible first | exact HI0.out | apply IsS82.alloc | apply IsS82.drewN | apply IsS82.drew | apply IsS82.set_1 | refine IsS82.far ?_ NB0_125.out _ | refine IsS82.far ?_ NB0_138.out _) | exact HI0.out)), (by repeat (first | (with_reducible first | exact HK.out | apply KeepBut.set_ | apply keep_drewN | apply keep_drew | apply keep_alloc | refine keep_far ?_ GW125.out _ | refine keep_far ?_ GW138.out _) | exact HK.out)), (by repeat (first | (with_reducible first | exact HB.out | apply below_alloc | apply pw_below_drewN | apply below_drew1 | refine below_set ?_ (IsS82.ge HI0.out) | refine below_set ?_ GE125.out | refine below_set ?_ GE138.out) | exact HB.out))⟩)
      ·skip
       rintro ⟨v131, adz_v131, gb138⟩ w19 ⟨h0_, h1_, h2_, h3_, h4_, h5_, h6_, h7_, h8_, h9_, h10_, h11_, h12_⟩
       have n0_ : Aside0 (Kd.R (Kd.int .i64) 3 w19 w.heap.size (fun _ => True) v131 y130) := ⟨h0_⟩
       have n1_ : Aside0 (∃ c_, (v131 : Value) = .slice (some adz_v131) y130.length c_) := ⟨h1_⟩
       have n2_ : Aside0 (w19.heap[gb125]? = some (.cells #[.int .i64 0, .int .i64 0, .int .i64 0, .slice none 0 0, .bool false] 25 (0, 0))) := ⟨h2_⟩
       have n3_ : Aside0 (w19.heap[gb138]? = some (.cells #[.int .i64 0, .int .i64 0, .int .i64 0, .slice none 0 0, .bool false] 25 (0, 0))) := ⟨h3_⟩
       have n4_ : Aside0 (w.heap.size ≤ gb138) := ⟨h4_⟩
       have n5_ : Aside0 (w0.heap.size ≤ gb138) := ⟨h5_⟩
       have n6_ : Aside0 (g ≠ gb138) := ⟨h6_⟩
       have n7_ : Aside0 (gb138 ≠ g) := ⟨h7_⟩
       have n8_ : Aside0 (gb125 ≠ gb138) := ⟨h8_⟩
       have n9_ : Aside0 (gb138 ≠ gb125) := ⟨h9_⟩
       have n10_ : Aside0 (IsS82 w0 w19 g s0_0 t137) := ⟨h10_⟩
       have n11_ : Aside0 (KeepBut w w19 g none) := ⟨h11_⟩
       have n12_ : Aside0 (Below w0.heap.size w0 w19) := ⟨h12_⟩
       clear BK125
       clear HI0
       clear HK
       clear HB
       clear h0_ h1_ h2_ h3_ h4_ h5_ h6_ h7_ h8_ h9_ h10_ h11_ h12_
       have HO132 := n0_
       have HA_HO132 := n1_
       have BK125 := n2_
       have BK138 := n3_
       have GW138 := n4_
       have GE138 := n5_
       have NB0_138 := n6_
       have NB138_0 := n7_
       have NB125_138 := n8_
       have NB138_125 := n9_
       have HI0 := n10_
       have HK := n11_
       have HB := n12_
       clear n0_ n1_ n2_ n3_ n4_ n5_ n6_ n7_ n8_ n9_ n10_ n11_ n12_
       have hHeld := trivial
       obtain ⟨co20, eo20⟩ := HA_HO132.out
       clear HA_HO132
       subst eo20
       refine norm_ (a' := ?_) ?_ ?_
       rotate_left
       ·simp only [putAll, Act.put, List.setIfInBounds_toArray, List.set_cons_zero, List.set_cons_succ]
        rfl
       refine one_ (i := 8) (N := some 13) #[true, true, true, true, true, true, true, true, true, true, true, true, false, true, false] rfl rfl (one_of HT_.out (by kernel_rfl)) (by decide) (fun K hK => ?_)
       (have p135 : 0 ≤ (t133 : Int) := of_decide_eq_true (by first | (with_reducible assumption) | assumption); have q135 : t133 < (y130.length : Int) := of_decide_eq_true (by first | (with_reducible assumption) | assumption); obtain ⟨ad135, e135, hx135_0⟩ := Kd.at_int (Kd.R_reads' HO132.out).2.2 t133 p135 q135; obtain rfl : adz_v131 = ad135 := (by injection e135))
       refine value_ (w1 := ?_) (v := ?_) (by rfl) rfl ?_ ?_
       rotate_left 2
       ·go_simp
        constructor
        ·rfl
        ·rfl
       clear hx135_0
       refine hK.out _ _ trivial (fun hHeld => ?_)
       clear hK K
       refine np (h := ?_)
       refine pu 12 17 HT_ (h := ?_)
       exact norm_ (by first | (simp only [putAll, Act.put, List.setIfInBounds_toArray, List.set_cons_zero, List.set_cons_succ]; done) | (simp only [putAll, Act.put, List.setIfInBounds_toArray, List.set_cons_zero, List.set_cons_succ]; rfl)) (hJ1_3_4_6_8_10_13 (.slice (some adz_v131) y130.length co20, adz_v131, gb138) _ ⟨(rN HO132.out), ⟨_, rfl⟩, (kN BK125.out), (kN BK138.out), GW138.out, GE138.out, NB0_138.out, NB138_0.out, NB125_138.out, NB138_125.out, (by repeat (first | (with_reducible first | exact HI0.out | apply IsS82.alloc | apply IsS82.drewN | apply IsS82.drew | apply IsS82.set_1 | refine IsS82.far ?_ NB0_125.out _ | refine IsS82.far ?_ NB0_138.out _) | exact HI0.out)), (by repeat (first | (with_reducible first | exact HK.out | apply KeepBut.set_ | apply keep_drewN | apply keep_drew | apply keep_alloc | refine keep_far ?_ GW125.out _ | refine keep_far ?_ GW138.out _) | exact HK.out)), (by repeat (first | (with_reducible first | exact HB.out | apply below_alloc | apply pw_below_drewN | apply below_drew1 | refine below_set ?_ (IsS82.ge HI0.out) | refine below_set ?_ GE125.out | refine below_set ?_ GE138.out) | exact HB.out))⟩)
     ·skip
      rintro ⟨v131, adz_v131, gb138⟩ w18 ⟨h0_, h1_, h2_, h3_, h4_, h5_, h6_, h7_, h8_, h9_, h10_, h11_, h12_⟩
      have n0_ : Aside0 (Kd.R (Kd.int .i64) 3 w18 w.heap.size (fun _ => True) v131 y130) := ⟨h0_⟩
      have n1_ : Aside0 (∃ c_, (v131 : Value) = .slice (some adz_v131) y130.length c_) := ⟨h1_⟩
      have n2_ : Aside0 (w18.heap[gb125]? = some (.cells #[.int .i64 0, .int .i64 0, .int .i64 0, .slice none 0 0, .bool false] 25 (0, 0))) := ⟨h2_⟩
      have n3_ : Aside0 (w18.heap[gb138]? = some (.cells #[.int .i64 0, .int .i64 0, .int .i64 0, .slice none 0 0, .bool false] 25 (0, 0))) := ⟨h3_⟩
      have n4_ : Aside0 (w.heap.size ≤ gb138) := ⟨h4_⟩
      have n5_ : Aside0 (w0.heap.size ≤ gb138) := ⟨h5_⟩
      have n6_ : Aside0 (g ≠ gb138) := ⟨h6_⟩
      have n7_ : Aside0 (gb138 ≠ g) := ⟨h7_⟩
      have n8_ : Aside0 (gb125 ≠ gb138) := ⟨h8_⟩
      have n9_ : Aside0 (gb138 ≠ gb125) := ⟨h9_⟩
      have n10_ : Aside0 (IsS82 w0 w18 g s0_0 t134) := ⟨h10_⟩
      have n11_ : Aside0 (KeepBut w w18 g none) := ⟨h11_⟩
      have n12_ : Aside0 (Below w0.heap.size w0 w18) := ⟨h12_⟩
      clear BK125
      clear HI0
      clear HK
      clear HB
      clear h0_ h1_ h2_ h3_ h4_ h5_ h6_ h7_ h8_ h9_ h10_ h11_ h12_
      have HO132 := n0_
      have HA_HO132 := n1_
      have BK125 := n2_
      have BK138 := n3_
      have GW138 := n4_
      have GE138 := n5_
      have NB0_138 := n6_
      have NB138_0 := n7_
      have NB125_138 := n8_
      have NB138_125 := n9_
      have HI0 := n10_
      have HK := n11_
      have HB := n12_
      clear n0_ n1_ n2_ n3_ n4_ n5_ n6_ n7_ n8_ n9_ n10_ n11_ n12_
      have hHeld := trivial
      obtain ⟨co19, eo19⟩ := HA_HO132.out
      clear HA_HO132
      subst eo19
      refine norm_ (a' := ?_) ?_ ?_
      rotate_left
      ·simp only [putAll, Act.put, List.setIfInBounds_toArray, List.set_cons_zero, List.set_cons_succ]
       rfl
      refine one_ (i := 10) (N := some 15) #[true, true, true, true, true, true, true, true, true, true, true, false, false, true, false] rfl rfl (one_of HT_.out (by kernel_rfl)) (by decide) (fun K hK => ?_)
      refine goes_ Try.func45 (by kernel_rfl) rfl #[.pointer (some ⟨g, 0, none⟩), .int .i64 6] (by rfl) rfl rfl gl_ ?_
      with_reducible refine (spec_l1Rd_pick.calls k g s0_0 t134 6 t136 t137 w0 _ ?side1 ?side2 A7.out).mono ?_
      (case side1 => repeat (first | (with_reducible first | exact HI0.out | apply IsS82.alloc | apply IsS82.drewN | apply IsS82.drew | apply IsS82.set_1 | refine IsS82.far ?_ NB0_125.out _ | refine IsS82.far ?_ NB0_138.out _) | exact HI0.out))
      (case side2 => repeat (first | (with_reducible first | exact HB.out | apply below_alloc | apply pw_below_drewN | apply below_drew1 | refine below_set ?_ (IsS82.ge HI0.out) | refine below_set ?_ GE125.out | refine below_set ?_ GE138.out) | exact HB.out))
      rintro e w20 ⟨rfl, hi, hb, hk⟩
      refine ⟨_, rfl, ?_⟩
      have n0_ := m_ (KeepBut.blk hk (g' := gb125) (o := .cells #[.int .i64 0, .int .i64 0, .int .i64 0, .slice none 0 0, .bool false] 25 (0, 0)) (kN BK125.out) NB125_0.out (by simp))
      have n1_ := m_ (Kd.R_mono (Kd.R_keep (IsS82.apart (show IsS82 w0 _ g s0_0 t134 from by repeat (first | (with_reducible first | exact HI0.out | apply IsS82.alloc | apply IsS82.drewN | apply IsS82.drew | apply IsS82.set_1 | refine IsS82.far ?_ NB0_125.out _ | refine IsS82.far ?_ NB0_138.out _) | exact HI0.out)) (rN HO132.out) (by decide)) hk (fun _ h => h.2)) (fun _ h => h.1))
      have n2_ := m_ (KeepBut.blk hk (g' := gb138) (o := .cells #[.int .i64 0, .int .i64 0, .int .i64 0, .slice none 0 0, .bool false] 25 (0, 0)) (kN BK138.out) NB138_0.out (by simp))
      have n3_ := m_ (KeepBut.trans (by repeat (first | (with_reducible first | exact HK.out | apply KeepBut.set_ | apply keep_drewN | apply keep_drew | apply keep_alloc | refine keep_far ?_ GW125.out _ | refine keep_far ?_ GW138.out _) | exact HK.out)) hk (.inl rfl))
      have n4_ := m_ (hb)
      have n5_ := m_ (hi)
      clear BK125
      clear HO132
      clear BK138
      clear HK
      clear HB
      clear HI0
      have BK125 := n0_
      have HO132 := n1_
      have BK138 := n2_
      have HK := n3_
      have HB := n4_
      have HI0 := n5_
      clear n0_ n1_ n2_ n3_ n4_ n5_
      (try clear hb)
      (try clear hb2)
      (try clear hk)
      (try clear hi)
      refine hK.out _ _ trivial (fun hHeld => ?_)
      clear hK K
      refine np (h := ?_)
      refine pu 11 16 HT_ (h := ?_)
      refine pu 12 17 HT_ (h := ?_)
      exact norm_ (by first | (simp only [putAll, Act.put, List.setIfInBounds_toArray, List.set_cons_zero, List.set_cons_succ]; done) | (simp only [putAll, Act.put, List.setIfInBounds_toArray, List.set_cons_zero, List.set_cons_succ]; rfl)) (hJ1_3_4_6_8_10_13 (.slice (some adz_v131) y130.length co19, adz_v131, gb138) _ ⟨(rN HO132.out), ⟨_, rfl⟩, (kN BK125.out), (kN BK138.out), GW138.out, GE138.out, NB0_138.out, NB138_0.out, NB125_138.out, NB138_125.out, (by repeat (first | (with_reducible first | exact HI0.out | apply IsS82.alloc | apply IsS82.drewN | apply IsS82.drew | apply IsS82.set_1 | refine IsS82.far ?_ NB0_125.out _ | refine IsS82.far ?_ NB0_138.out _) | exact HI0.out)), (by repeat (first | (with_reducible first | exact HK.out | apply KeepBut.set_ | apply keep_drewN | apply keep_drew | apply keep_alloc | refine keep_far ?_ GW125.out _ | refine keep_far ?_ GW138.out _) | exact HK.out)), (by repeat (first | (with_reducible first | exact HB.out | apply below_alloc | apply pw_below_drewN | apply below_drew1 | refine below_set ?_ (IsS82.ge HI0.out) | refine below_set ?_ GE125.out | refine below_set ?_ GE138.out) | exact HB.out))⟩)
    ·skip
     rintro ⟨v131, adz_v131⟩ w18 ⟨h0_, h1_, h2_, h3_, h4_, h5_⟩
     have n0_ : Aside0 (Kd.R (Kd.int .i64) 3 w18 w.heap.size (fun _ => True) v131 y130) := ⟨h0_⟩
     have n1_ : Aside0 (∃ c_, (v131 : Value) = .slice (some adz_v131) y130.length c_) := ⟨h1_⟩
     have n2_ : Aside0 (w18.heap[gb125]? = some (.cells #[.int .i64 0, .int .i64 0, .int .i64 0, .slice none 0 0, .bool false] 25 (0, 0))) := ⟨h2_⟩
     have n3_ : Aside0 (IsS82 w0 w18 g s0_0 t137) := ⟨h3_⟩
     have n4_ : Aside0 (KeepBut w w18 g none) := ⟨h4_⟩
     have n5_ : Aside0 (Below w0.heap.size w0 w18) := ⟨h5_⟩
     clear BK125
     clear HI0
     clear HK
     clear HB
     clear h0_ h1_ h2_ h3_ h4_ h5_
     have HO132 := n0_
     have HA_HO132 := n1_
     have BK125 := n2_
     have HI0 := n3_
     have HK := n4_
     have HB := n5_
     clear n0_ n1_ n2_ n3_ n4_ n5_
     have hHeld := trivial
     obtain ⟨co19, eo19⟩ := HA_HO132.out
     clear HA_HO132
     subst eo19
     refine norm_ (a' := ?_) ?_ ?_
     rotate_left
     ·simp only [putAll, Act.put, List.setIfInBounds_toArray, List.set_cons_zero, List.set_cons_succ]
      rfl
     refine one_ (i := 13) (N := some 3) #[true, true, true, true, true, true, true, true, true, true, true, true, true, true, false] rfl rfl (one_of HT_.out (by kernel_rfl)) (by decide) (fun K hK => ?_)
     refine box_step ?hg (N := 3) ?hd (cs := #[.int .i64 0, .int .i64 0, .int .i64 0, .slice none 0 0, .bool false]) (t := 25) ?hr ?_; (case hd => rfl); (case hg => rfl); (case hr => first | (go_simp; done) | (go_simp; rfl))
     intro gb138 hg w20 hbox hb
     have n0_ := m_ (Kd.R_below (rN HO132.out) hb)
     have n1_ := m_ (IsS82.below (by repeat (first | (with_reducible first | exact HI0.out | apply IsS82.alloc | apply IsS82.drewN | apply IsS82.drew | apply IsS82.set_1 | refine IsS82.far ?_ NB0_125.out _) | exact HI0.out)) hb)
     have n2_ := m_ (blk_below (kN BK125.out) hb)
     have n3_ := m_ (KeepBut.trans (by repeat (first | (with_reducible first | exact HK.out | apply KeepBut.set_ | apply keep_drewN | apply keep_drew | apply keep_alloc | refine keep_far ?_ GW125.out _) | exact HK.out)) (KeepBut.of_below hb g none) (.inl rfl))
     have n4_ := m_ (below_step (by repeat (first | (with_reducible first | exact HB.out | apply below_alloc | apply pw_below_drewN | apply below_drew1 | refine below_set ?_ (IsS82.ge HI0.out) | refine below_set ?_ GE125.out) | exact HB.out)) hb)
     have n5_ := m_ (hbox)
     have n6_ := m_ ((by rw [hg]; exact (keep_size (w := w) (g := g) (row := none) (by repeat (first | (with_reducible first | exact HK.out | apply KeepBut.set_ | apply keep_drewN | apply keep_drew | apply keep_alloc | refine keep_far ?_ GW125.out _) | exact HK.out))) : w.heap.size ≤ gb138))
     have n7_ := m_ ((Nat.le_trans HW0.out (by rw [hg]; exact (keep_size (w := w) (g := g) (row := none) (by repeat (first | (with_reducible first | exact HK.out | apply KeepBut.set_ | apply keep_drewN | apply keep_drew | apply keep_alloc | refine keep_far ?_ GW125.out _) | exact HK.out))) : w.heap.size ≤ gb138) : w0.heap.size ≤ gb138))
     have n8_ := m_ (nL hg BK125.out)
     have n9_ := m_ (nG hg BK125.out)
     have n10_ := m_ ((by rw [hg]; exact Nat.ne_of_lt (IsS82.lt (show IsS82 w0 _ g s0_0 t137 from by repeat (first | (with_reducible first | exact HI0.out | apply IsS82.alloc | apply IsS82.drewN | apply IsS82.drew | apply IsS82.set_1 | refine IsS82.far ?_ NB0_125.out _) | exact HI0.out))) : g ≠ gb138))
     have n11_ := m_ ((by rw [hg]; exact Nat.ne_of_gt (IsS82.lt (show IsS82 w0 _ g s0_0 t137 from by repeat (first | (with_reducible first | exact HI0.out | apply IsS82.alloc | apply IsS82.drewN | apply IsS82.drew | apply IsS82.set_1 | refine IsS82.far ?_ NB0_125.out _) | exact HI0.out))) : gb138 ≠ g))
     clear HO132
     clear HI0
     clear BK125
     clear HK
     clear HB
     have HO132 := n0_
     have HI0 := n1_
     have BK125 := n2_
     have HK := n3_
     have HB := n4_
     have BK138 := n5_
     have GW138 := n6_
     have GE138 := n7_
     have NB125_138 := n8_
     have NB138_125 := n9_
     have NB0_138 := n10_
     have NB138_0 := n11_
     clear n0_ n1_ n2_ n3_ n4_ n5_ n6_ n7_ n8_ n9_ n10_ n11_
     clear hb hbox hg
     refine hK.out _ _ trivial (fun hHeld => ?_)
     clear hK K
     refine np (h := ?_)
     exact norm_ (by first | (simp only [putAll, Act.put, List.setIfInBounds_toArray, List.set_cons_zero, List.set_cons_succ]; done) | (simp only [putAll, Act.put, List.setIfInBounds_toArray, List.set_cons_zero, List.set_cons_succ]; rfl)) (hJ1_3_4_6_8_10_13 (.slice (some adz_v131) y130.length co19, adz_v131, gb138) _ ⟨(rN HO132.out), ⟨_, rfl⟩, (kN BK125.out), (kN BK138.out), GW138.out, GE138.out, NB0_138.out, NB138_0.out, NB125_138.out, NB138_125.out, (by repeat (first | (with_reducible first | exact HI0.out | apply IsS82.alloc | apply IsS82.drewN | apply IsS82.drew | apply IsS82.set_1 | refine IsS82.far ?_ NB0_125.out _ | refine IsS82.far ?_ NB0_138.out _) | exact HI0.out)), (by repeat (first | (with_reducible first | exact HK.out | apply KeepBut.set_ | apply keep_drewN | apply keep_drew | apply keep_alloc | refine keep_far ?_ GW125.out _ | refine keep_far ?_ GW138.out _) | exact HK.out)), (by repeat (first | (with_reducible first | exact HB.out | apply below_alloc | apply pw_below_drewN | apply below_drew1 | refine below_set ?_ (IsS82.ge HI0.out) | refine below_set ?_ GE125.out | refine below_set ?_ GE138.out) | exact HB.out))⟩)
   rintro ⟨v131, adz_v131, gb138⟩ w19 ⟨h0_, h1_, h2_, h3_, h4_, h5_, h6_, h7_, h8_, h9_, h10_, h11_, h12_⟩
   have n0_ : Aside0 (Kd.R (Kd.int .i64) 3 w19 w.heap.size (fun _ => True) v131 y130) := ⟨h0_⟩
   have n1_ : Aside0 (∃ c_, (v131 : Value) = .slice (some adz_v131) y130.length c_) := ⟨h1_⟩
   have n2_ : Aside0 (w19.heap[gb125]? = some (.cells #[.int .i64 0, .int .i64 0, .int .i64 0, .slice none 0 0, .bool false] 25 (0, 0))) := ⟨h2_⟩
   have n3_ : Aside0 (w19.heap[gb138]? = some (.cells #[.int .i64 0, .int .i64 0, .int .i64 0, .slice none 0 0, .bool false] 25 (0, 0))) := ⟨h3_⟩
   have n4_ : Aside0 (w.heap.size ≤ gb138) := ⟨h4_⟩
   have n5_ : Aside0 (w0.heap.size ≤ gb138) := ⟨h5_⟩
   have n6_ : Aside0 (g ≠ gb138) := ⟨h6_⟩
   have n7_ : Aside0 (gb138 ≠ g) := ⟨h7_⟩
   have n8_ : Aside0 (gb125 ≠ gb138) := ⟨h8_⟩
   have n9_ : Aside0 (gb138 ≠ gb125) := ⟨h9_⟩
   have n10_ : Aside0 (IsS82 w0 w19 g s0_0 t137) := ⟨h10_⟩
   have n11_ : Aside0 (KeepBut w w19 g none) := ⟨h11_⟩
   have n12_ : Aside0 (Below w0.heap.size w0 w19) := ⟨h12_⟩
   clear BK125
   clear HI0
   clear HK
   clear HB
   clear h0_ h1_ h2_ h3_ h4_ h5_ h6_ h7_ h8_ h9_ h10_ h11_ h12_
   have HO132 := n0_
   have HA_HO132 := n1_
   have BK125 := n2_
   have BK138 := n3_
   have GW138 := n4_
   have GE138 := n5_
   have NB0_138 := n6_
   have NB138_0 := n7_
   have NB125_138 := n8_
   have NB138_125 := n9_
   have HI0 := n10_
   have HK := n11_
   have HB := n12_
   clear n0_ n1_ n2_ n3_ n4_ n5_ n6_ n7_ n8_ n9_ n10_ n11_ n12_
   have hHeld := trivial
   obtain ⟨co20, eo20⟩ := HA_HO132.out
   clear HA_HO132
   subst eo20
   refine norm_ (a' := ?_) ?_ ?_
   rotate_left
   ·simp only [putAll, Act.put, List.setIfInBounds_toArray, List.set_cons_zero, List.set_cons_succ]
    rfl
   refine one_ (i := 14) (N := none) #[true, true, true, true, true, true, true, true, true, true, true, true, true, true, true] rfl rfl (one_of HT_.out (by kernel_rfl)) (by decide) (fun K hK => ?_)
   have hs21 : w19.cell? ⟨gb138, 0, none⟩ = some (.int .i64 0) := bc BK138 0
   have hfs21 := blk_frozen BK138.out 0
   have hns21_0 := NB125_138.out
   have hms21_0 := NB138_125.out
   have hs22 : w19.cell? ⟨gb138, 1, none⟩ = some (.int .i64 0) := bc BK138 1
   have hfs22 := blk_frozen BK138.out 1
   have hns22_0 := NB125_138.out
   have hms22_0 := NB138_125.out
   have hs23 : w19.cell? ⟨gb138, 2, none⟩ = some (.int .i64 0) := bc BK138 2
   have hfs23 := blk_frozen BK138.out 2
   have hns23_0 := NB125_138.out
   have hms23_0 := NB138_125.out
   have hs24 : w19.cell? ⟨gb138, 3, none⟩ = some (.slice none 0 0) := bc BK138 3
   have hfs24 := blk_frozen BK138.out 3
   have hns24_0 := NB125_138.out
   have hms24_0 := NB138_125.out
   have hs25 : w19.cell? ⟨gb138, 4, none⟩ = some (.bool false) := bc BK138 4
   have hfs25 := blk_frozen BK138.out 4
   have hns25_0 := NB125_138.out
   have hms25_0 := NB138_125.out
   refine skip_ (w1 := ?_) (by rfl) rfl ?_ ?_
   rotate_left
   ·go_simp
    rfl
   refine hK.out _ _ trivial (fun hHeld => ?_)
   clear hK K
   refine done_ (done_of HT_.out (by kernel_rfl)) ?_
   try go_wp2_with (first | ((with_reducible refine gate_callee (f := 45) rfl ?_); refine goesL_ (some 19) rfl rfl Try.func45 (by kernel_rfl) rfl #[.pointer (some ⟨g, 0, none⟩), .int .i64 5] rfl gl_ ?_; (with_reducible refine (spec_l1Rd_pick.calls k g s0_0 t137 5 t139 t140 w0 _ ?side1 ?side2 A8.out).mono ?_); (case side1 => repeat (first | (with_reducible first | exact HI0.out | apply IsS82.alloc | apply IsS82.drewN | apply IsS82.drew | apply IsS82.set_1 | refine IsS82.far ?_ NB0_125.out _ | refine IsS82.far ?_ NB0_138.out _) | exact HI0.out)); (case side2 => repeat (first | (with_reducible first | exact HB.out | apply below_alloc | apply pw_below_drewN | apply below_drew1 | refine below_set ?_ (IsS82.ge HI0.out) | refine below_set ?_ GE125.out | refine below_set ?_ GE138.out) | exact HB.out)); rintro e w26 ⟨rfl, hi, hb, hk⟩; refine ⟨_, rfl, ?_⟩; have n0_ := m_ (KeepBut.blk hk (g' := gb125) (o := .cells #[.int .i64 0, .int .i64 0, .int .i64 0, .slice none 0 0, .bool false] 25 (0, 0)) (kF BK125.out NB125_138.out) NB125_0.out (by simp)); have n1_ := m_ (Kd.R_mono (Kd.R_keep (IsS82.apart (show IsS82 w0 _ g s0_0 t137 from by repeat (first | (with_reducible first | exact HI0.out | apply IsS82.alloc | apply IsS82.drewN | apply IsS82.drew | apply IsS82.set_1 | refine IsS82.far ?_ NB0_125.out _ | refine IsS82.far ?_ NB0_138.out _) | exact HI0.out)) (frN (Kd.R_types HO132.out BK138.out (by decide))) (by decide)) hk (fun _ h => h.2)) (fun _ h => h.1)); have n2_ := m_ (KeepBut.blk hk (g' := gb138) (o := .cells #[.int .i64 5, .int .i64 3, .int .i64 (rd y130 t133), .slice none 0 0, .bool (t136 == 0)] 25 (0, 0)) (kP BK138.out) NB138_0.out (by simp)); have n3_ := m_ (KeepBut.trans (by repeat (first | (with_reducible first | exact HK.out | apply KeepBut.set_ | apply keep_drewN | apply keep_drew | apply keep_alloc | refine keep_far ?_ GW125.out _ | refine keep_far ?_ GW138.out _) | exact HK.out)) hk (.inl rfl)); have n4_ := m_ (hb); have n5_ := m_ (hi); clear BK125; clear HO132; clear BK138; clear HK; clear HB; clear HI0; have BK125 := n0_; have HO132 := n1_; have BK138 := n2_; have HK := n3_; have HB := n4_; have HI0 := n5_; clear n0_ n1_ n2_ n3_ n4_ n5_; (try clear hb); (try clear hb2); (try clear hk); (try clear hi)))
   go_loopg [4] k (fun kq v4 w' => ∃ (x4_1 : Int) (x1001_1 : Int) (x139003_1 : List ByteArray) (u139003 : Value), v4 = .int .i64 x4_1 ∧ Aside0 (spec_l15Fop.l0 kq x4_1 s0_0 x1001_1 5 3 (rd y130 t133) x139003_1 (t136 == 0) = some (r1, r2, r3, r4, r5, r6)) ∧ Aside0 (kq ≤ k) ∧ Aside0 (Kd.R Kd.string 9 w' w.heap.size (fun _ => True) u139003 x139003_1) ∧ Aside0 (w'.heap[gb125]? = some (.cells #[.int .i64 0, .int .i64 0, .int .i64 0, (.slice none 0 0), .bool false] 25 (0, 0))) ∧ Aside0 (w'.heap[gb138]? = some (.cells #[.int .i64 5, .int .i64 3, .int .i64 (rd y130 t133), u139003, .bool (t136 == 0)] 25 (0, 0))) ∧ Aside0 (IsS82 w0 w' g s0_0 x1001_1) ∧ Aside0 (KeepBut w w' g none) ∧ Aside0 (Below w0.heap.size w0 w'))
   case atStart => exact ⟨(t139), (t140), (([] : List ByteArray)), (.slice none 0 0), (by first | rfl | (simp; done) | (simp [*]; done)), H', ⟨Nat.le_refl _⟩, ⟨by first | exact Kd.R_nil _ _ _ _ _ | exact Kd.N_nil _ _ _ _ _ | exact Kd.V_nil _ _ _ _ _ | exact Kd.Q_nil _ _ _ _ _ | exact Kd.S_nil _ _ _ _ _⟩, ⟨kN BK125.out⟩, ⟨kN BK138.out⟩, ⟨by repeat (first | (with_reducible first | exact HI0.out | apply IsS82.alloc | apply IsS82.drewN | apply IsS82.drew | apply IsS82.set_1 | refine IsS82.far ?_ NB0_125.out _ | refine IsS82.far ?_ NB0_138.out _) | exact HI0.out)⟩, ⟨by repeat (first | (with_reducible first | exact HK.out | apply KeepBut.set_ | apply keep_drewN | apply keep_drew | apply keep_alloc | refine keep_far ?_ GW125.out _ | refine keep_far ?_ GW138.out _) | exact HK.out)⟩, ⟨by repeat (first | (with_reducible first | exact HB.out | apply below_alloc | apply pw_below_drewN | apply below_drew1 | refine below_set ?_ (IsS82.ge HI0.out) | refine below_set ?_ GE125.out | refine below_set ?_ GE138.out) | exact HB.out)⟩⟩
   case round =>
    clear H'
    try clear p1
    try clear q1
    try clear hx1
    try clear p2
    try clear c4
    try clear p13
    try clear q13
    try clear hx13
    try clear hx135_0
    try clear p135
    try clear q135
    obtain ⟨x4_1, x1001_1, x139003_1, u139003, rfl, HA, HK1, HO_139003, BK125, BK138, HI0, HK, HB⟩ := hrel
    cases gk with
    | zero => exact absurd HA.out (by simp [spec_l15Fop.l0])
    | succ k1 =>
     have H := HA.out
     clear HA
     simp only [spec_l15Fop.l0] at H
     by_cases c27 : x4_1 > 0
     ·rw [if_pos c27] at H
      have c27b0 : decide (0 < x4_1) = true := decide_eq_true c27
      clear c27
      replace H := Option.bind_eq_some_iff.mp H
      obtain ⟨⟨t141, t142⟩, A280, H⟩ := H
      replace H : (if 1 + t141.size ≤ 9223372036854775807 then (if x139003_1.length < 8796093022208 then (spec_l15Fop.l0 k1 (wrap64 (x4_1 - 1)) s0_0 t142 5 3 (rd y130 t133) (x139003_1 ++ [(⟨#[115]⟩ : ByteArray) ++ t141]) (t136 == 0)) else (none)) else (none)) = some (r1, r2, r3, r4, r5, r6) := H
      have A28 := Aside0.mk A280
      clear A280
      by_cases c29 : 1 + t141.size ≤ 9223372036854775807
      ·rw [if_pos c29] at H
       have c29b0 := eq_true c29
       have c29b1 : decide (1 + t141.size ≤ 9223372036854775807) = true := decide_eq_true c29
       try have c29b2 : (9223372036854775807 < 1 + t141.size) = False := eq_false (Nat.not_lt.2 c29)
       by_cases c30 : x139003_1.length < 8796093022208
       ·rw [if_pos c30] at H
        have LMc30 := Aside0.mk c30
        clear c30
        obtain ⟨y143, hy143⟩ : ∃ y_ : List ByteArray, y_ = (x139003_1 ++ [(⟨#[115]⟩ : ByteArray) ++ t141]) := ⟨_, rfl⟩
        replace H : (spec_l15Fop.l0 k1 (wrap64 (x4_1 - 1)) s0_0 t142 5 3 (rd y130 t133) y143 (t136 == 0)) = some (r1, r2, r3, r4, r5, r6) := by first | (rw [hy143]; with_reducible exact H) | (have H2_ := (Option.bind_some _ _).symm.trans H; rw [hy143]; with_reducible exact H2_) | (have H2_ := (Option.bind_some _ _).symm.trans H; with_reducible exact H2_) | with_reducible exact H | (rw [hy143]; exact H) | exact H
        have Ny143 := Aside0.mk hy143
        clear hy143
        have H' := Aside0.mk H
        clear H
        try go_wp2
        have n0_ := m_ (Kd.R_drew HO_139003.out)
        have n1_ := m_ (blk_drew BK125.out)
        have n2_ := m_ (blk_drew BK138.out)
        have n3_ := m_ (IsS82.drew HI0.out)
        have n4_ := m_ (keep_drew HK.out)
        have n5_ := m_ (below_drew1 HB.out)
        clear HO_139003
        clear BK125
        clear BK138
        clear HI0
        clear HK
        clear HB
        have HO_139003 := n0_
        have BK125 := n1_
        have BK138 := n2_
        have HI0 := n3_
        have HK := n4_
        have HB := n5_
        clear n0_ n1_ n2_ n3_ n4_ n5_
        refine start_ (n := 9) (S := fun w' => w'.cell? ⟨gb138, 0, none⟩ = some (.int .i64 5) ∧ w'.cell? ⟨gb138, 1, none⟩ = some (.int .i64 3) ∧ w'.cell? ⟨gb138, 2, none⟩ = some (.int .i64 (rd y130 t133)) ∧ w'.cell? ⟨gb138, 3, none⟩ = some (u139003) ∧ w'.cell? ⟨gb138, 4, none⟩ = some (.bool (t136 == 0))) (ds := [8]) #[false, false, false, false, false, false, false, false, false] (by kernel_rfl) rfl rfl ⟨bc BK138 0, bc BK138 1, bc BK138 2, bc BK138 3, bc BK138 4⟩ (fun hHeld => ?_); refine with_tabW spec_l15Fop.tab5 spec_l15Fop.bits5 (fun HT_ HW_ => ?_)
        generalize wr.drew = w31 at HO_139003 BK125 BK138 HI0 HK HB hHeld ⊢
        refine pu 0 24 HT_ (h := ?_)
        refine pu 2 26 HT_ (h := ?_)
        refine take_ (i := 1) (N := some 25) (v := ?_) (a' := ?_) #[true, true, true, false, false, false, false, false, false] rfl rfl (take_ofW HT_.out HW_.out (by kernel_rfl)) (fun _ _ _ h => h) (Or.inl ⟨by rfl, ?_⟩) hHeld ?_ ?_
        rotate_left
        ·rintro w' ⟨s0, s1, s2, s3, s4⟩
         go_simp
         with_reducible rfl
        rotate_left
        ·simp only [Act.put, List.setIfInBounds_toArray, List.set_cons_zero, List.set_cons_succ, i64_w, i32_w]
         rfl
        refine one_ (i := 3) (N := some 27) #[true, true, true, true, false, false, false, false, false] rfl rfl (one_of HT_.out (by kernel_rfl)) (by decide) (fun K hK => ?_)
        refine goes_ Try.func62 (by kernel_rfl) rfl #[.pointer (some ⟨g, 0, none⟩), .int .i64 6] (by rfl) rfl rfl gl_ ?_
        with_reducible refine (spec_l15Text.calls k1 g s0_0 x1001_1 6 t141 t142 w0 _ ?side1 ?side2 A28.out).mono ?_
        (case side1 => repeat (first | (with_reducible first | exact HI0.out | apply IsS82.alloc | apply IsS82.drewN | apply IsS82.drew | apply IsS82.set_1 | refine IsS82.far ?_ NB0_125.out _ | refine IsS82.far ?_ NB0_138.out _) | exact HI0.out))
        (case side2 => repeat (first | (with_reducible first | exact HB.out | apply below_alloc | apply pw_below_drewN | apply below_drew1 | refine below_set ?_ (IsS82.ge HI0.out) | refine below_set ?_ GE125.out | refine below_set ?_ GE138.out) | exact HB.out))
        rintro e w32 ⟨rfl, hi, hb, hk⟩
        refine ⟨_, rfl, ?_⟩
        have n0_ := m_ (Kd.R_mono (Kd.R_keep (IsS82.apart (show IsS82 w0 _ g s0_0 x1001_1 from by repeat (first | (with_reducible first | exact HI0.out | apply IsS82.alloc | apply IsS82.drewN | apply IsS82.drew | apply IsS82.set_1 | refine IsS82.far ?_ NB0_125.out _ | refine IsS82.far ?_ NB0_138.out _) | exact HI0.out)) (rN HO_139003.out) (by decide)) hk (fun _ h => h.2)) (fun _ h => h.1))
        have n1_ := m_ (KeepBut.blk hk (g' := gb125) (o := .cells #[.int .i64 0, .int .i64 0, .int .i64 0, .slice none 0 0, .bool false] 25 (0, 0)) (kN BK125.out) NB125_0.out (by simp))
        have n2_ := m_ (KeepBut.blk hk (g' := gb138) (o := .cells #[.int .i64 5, .int .i64 3, .int .i64 (rd y130 t133), u139003, .bool (t136 == 0)] 25 (0, 0)) (kN BK138.out) NB138_0.out (by simp))
        have n3_ := m_ (KeepBut.trans (by repeat (first | (with_reducible first | exact HK.out | apply KeepBut.set_ | apply keep_drewN | apply keep_drew | apply keep_alloc | refine keep_far ?_ GW125.out _ | refine keep_far ?_ GW138.out _) | exact HK.out)) hk (.inl rfl))
        have n4_ := m_ (hb)
        have n5_ := m_ (hi)
        clear HO_139003
        clear BK125
        clear BK138
        clear HK
        clear HB
        clear HI0
        have HO_139003 := n0_
        have BK125 := n1_
        have BK138 := n2_
        have HK := n3_
        have HB := n4_
        have HI0 := n5_
        clear n0_ n1_ n2_ n3_ n4_ n5_
        (try clear hb)
        (try clear hb2)
        (try clear hk)
        (try clear hi)
        refine hK.out _ _ ⟨bc BK138 0, bc BK138 1, bc BK138 2, bc BK138 3, bc BK138 4⟩ (fun hHeld => ?_)
        clear hK K
        refine np (h := ?_)
        refine pu 4 28 HT_ (h := ?_)
        refine one_ (i := 5) (N := some 29) #[true, true, true, true, true, true, false, false, false] rfl rfl (one_of HT_.out (by kernel_rfl)) (by decide) (fun K hK => ?_)
        refine value_ (w1 := ?_) (v := ?_) (by rfl) rfl ?_ ?_
        rotate_left 2
        ·go_simp
         constructor
         ·rfl
         ·rfl
        refine hK.out _ _ ⟨(blk_cell (blk_alloc BK138.out _) 0).trans rfl, (blk_cell (blk_alloc BK138.out _) 1).trans rfl, (blk_cell (blk_alloc BK138.out _) 2).trans rfl, (blk_cell (blk_alloc BK138.out _) 3).trans rfl, (blk_cell (blk_alloc BK138.out _) 4).trans rfl⟩ (fun hHeld => ?_)
        clear hK K
        refine np (h := ?_)
        refine one_ (i := 6) (N := some 30) #[true, true, true, true, true, true, true, false, false] rfl rfl (one_of HT_.out (by kernel_rfl)) (by decide) (fun K hK => ?_)
        refine Kd.R_append_step Kd.string w.heap.size (by rfl) (.tmp 25) (.tmp 29) 23 9 (.string ⟨#[]⟩) 16 rfl Try.underlying23 info9 rfl (by decide) (by omega) u139003 x139003_1 ((⟨#[115]⟩ : ByteArray) ++ t141) [.string ((⟨#[115]⟩ : ByteArray) ++ t141)] (fun _ => True) (fun _ => False) rfl rfl ?aP (fun _ hk => hk.elim) ?aF ?aO (Below.refl _ _) ?aS ?aL ?_
        (case aP => exact rfl)
        (case aF => exact (fun _ _ => trivial))
        (case aO => exact (rN HO_139003.out))
        (case aS => exact (keep_size (w := w) (g := g) (row := none) (by repeat (first | (with_reducible first | exact HK.out | apply KeepBut.set_ | apply keep_drewN | apply keep_drew | apply keep_alloc | refine keep_far ?_ GW125.out _ | refine keep_far ?_ GW138.out _) | exact HK.out))))
        (case aL => have := LMc30.out; omega)
        intro v144 w33 ho hb hg hat
        rw [← Ny143.out] at ho
        have n0_ := m_ (blk_grown (g := gb125) (o := .cells #[.int .i64 0, .int .i64 0, .int .i64 0, .slice none 0 0, .bool false] 25 (0, 0)) (kN BK125.out) hg (Kd.R_ne HO_139003.out BK125.out (by decide)))
        have n1_ := m_ (blk_grown (g := gb138) (o := .cells #[.int .i64 5, .int .i64 3, .int .i64 (rd y130 t133), u139003, .bool (t136 == 0)] 25 (0, 0)) (kN BK138.out) hg (Kd.R_ne HO_139003.out BK138.out (by decide)))
        have n2_ := m_ (IsS82.grown (by repeat (first | (with_reducible first | exact HI0.out | apply IsS82.alloc | apply IsS82.drewN | apply IsS82.drew | apply IsS82.set_1 | refine IsS82.far ?_ NB0_125.out _ | refine IsS82.far ?_ NB0_138.out _) | exact HI0.out)) hg (IsS82.own_ne HI0.out HO_139003.out (by decide)))
        have n3_ := m_ (below_weaken (by repeat (first | (with_reducible first | exact HB.out | apply below_alloc | apply pw_below_drewN | apply below_drew1 | refine below_set ?_ (IsS82.ge HI0.out) | refine below_set ?_ GE125.out | refine below_set ?_ GE138.out) | exact HB.out)) HL.out hb)
        have n4_ := m_ (KeepBut.trans (by repeat (first | (with_reducible first | exact HK.out | apply KeepBut.set_ | apply keep_drewN | apply keep_drew | apply keep_alloc | refine keep_far ?_ GW125.out _ | refine keep_far ?_ GW138.out _) | exact HK.out)) (KeepBut.of_grown hg g) (Kd.R_base2 HO_139003.out))
        have n5_ := m_ (ho)
        clear BK125
        clear BK138
        clear HI0
        clear HB
        clear HK
        clear HO_139003
        have BK125 := n0_
        have BK138 := n1_
        have HI0 := n2_
        have HB := n3_
        have HK := n4_
        have HO145 := n5_
        clear n0_ n1_ n2_ n3_ n4_ n5_
        clear ho hb hg hat
        obtain ⟨Ao34, co34, eo34⟩ := Kd.R_slice HO145.out
        (first | subst eo34 | (injection eo34 with f1_ f2_ f3_; have f4_ := f1_.symm; have f5_ := f3_.symm; clear f1_ f2_ f3_; subst f4_; subst f5_))
        refine hK.out _ _ ⟨bc BK138 0, bc BK138 1, bc BK138 2, bc BK138 3, bc BK138 4⟩ (fun hHeld => ?_)
        clear hK K
        refine np (h := ?_)
        refine pu 7 31 HT_ (h := ?_)
        refine last_ (i := 8) (N := none) #[true, true, true, true, true, true, true, true, true] rfl rfl (one_of HT_.out (by kernel_rfl)) (by decide) (fun K hK => ?_)
        have hs35 : w33.cell? ⟨gb138, 3, none⟩ = some (u139003) := bc BK138 3
        have hfs35 := blk_frozen BK138.out 3
        have hns35_0 := NB125_138.out
        have hms35_0 := NB138_125.out
        refine skip_ (w1 := ?_) (by rfl) rfl ?_ ?_
        rotate_left
        ·go_simp
         rfl
        refine hK.out _ _ ?_
        clear hK K
        refine done_ (done_of HT_.out (by kernel_rfl)) ?_
        try go_wp2
        go_roundg k1
        case measure => have := HK1.out; omega
        case rel => exact ⟨(wrap64 (x4_1 - 1)), (t142), (y143), (.slice Ao34 y143.length co34), (by first | rfl | (simp; done) | (simp [*]; done)), H', ⟨by have := HK1.out; omega⟩, ⟨by (with_reducible repeat (first | apply Kd.R_alloc | apply Kd.R_drewN | apply Kd.R_drew)); exact frM (Kd.R_types HO145.out BK138.out (by decide))⟩, ⟨kF BK125.out NB125_138.out⟩, ⟨kP BK138.out⟩, ⟨by repeat (first | (with_reducible first | exact HI0.out | apply IsS82.alloc | apply IsS82.drewN | apply IsS82.drew | apply IsS82.set_1 | refine IsS82.far ?_ NB0_125.out _ | refine IsS82.far ?_ NB0_138.out _) | exact HI0.out)⟩, ⟨by repeat (first | (with_reducible first | exact HK.out | apply KeepBut.set_ | apply keep_drewN | apply keep_drew | apply keep_alloc | refine keep_far ?_ GW125.out _ | refine keep_far ?_ GW138.out _) | exact HK.out)⟩, ⟨by repeat (first | (with_reducible first | exact HB.out | apply below_alloc | apply pw_below_drewN | apply below_drew1 | refine below_set ?_ (IsS82.ge HI0.out) | refine below_set ?_ GE125.out | refine below_set ?_ GE138.out) | exact HB.out)⟩⟩
       ·rw [if_neg c30] at H
        exact absurd H (by simp)
      ·rw [if_neg c29] at H
       exact absurd H (by simp)
     ·rw [if_neg c27] at H
      have c27b0 : decide (0 < x4_1) = false := decide_eq_false c27
      clear c27
      simp only [Option.some.injEq, Prod.mk.injEq] at H
      obtain ⟨rfl, rfl, rfl, rfl, rfl, rfl⟩ := H
      have hnb36 := NB138_125.out
      have hnc36 := NB125_138.out
      have hnb37 := NB138_0.out
      have hnc37 := NB0_138.out
      have hcz38_0 : wr.cell? ⟨gb138, 0, none⟩ = some (.int .i64 5) := bc BK138 0
      have hcz38_1 : wr.cell? ⟨gb138, 1, none⟩ = some (.int .i64 3) := bc BK138 1
      have hcz38_2 : wr.cell? ⟨gb138, 2, none⟩ = some (.int .i64 (rd y130 t133)) := bc BK138 2
      have hcz38_3 : wr.cell? ⟨gb138, 3, none⟩ = some (u139003) := bc BK138 3
      have hcz38_4 : wr.cell? ⟨gb138, 4, none⟩ = some (.bool (t136 == 0)) := bc BK138 4
      have hfz38_0 := blk_frozen BK138.out 0
      have hfz38_1 := blk_frozen BK138.out 1
      have hfz38_2 := blk_frozen BK138.out 2
      have hfz38_3 := blk_frozen BK138.out 3
      have hfz38_4 := blk_frozen BK138.out 4
      have hnb39 := NB125_0.out
      have hnc39 := NB0_125.out
      have hcz40_0 : wr.cell? ⟨gb125, 0, none⟩ = some (.int .i64 0) := bc BK125 0
      have hcz40_1 : wr.cell? ⟨gb125, 1, none⟩ = some (.int .i64 0) := bc BK125 1
      have hcz40_2 : wr.cell? ⟨gb125, 2, none⟩ = some (.int .i64 0) := bc BK125 2
      have hcz40_3 : wr.cell? ⟨gb125, 3, none⟩ = some (.slice none 0 0) := bc BK125 3
      have hcz40_4 : wr.cell? ⟨gb125, 4, none⟩ = some (.bool false) := bc BK125 4
      have hfz40_0 := blk_frozen BK125.out 0
      have hfz40_1 := blk_frozen BK125.out 1
      have hfz40_2 := blk_frozen BK125.out 2
      have hfz40_3 := blk_frozen BK125.out 3
      have hfz40_4 := blk_frozen BK125.out 4
      obtain ⟨Ao41, co41, eo41⟩ := Kd.R_slice HO_139003.out
      subst eo41
      go_wp2
      refine bodyPost_ret (results_cell_row rfl _ _ gb125 25 #[.int .i64 5, .int .i64 3, .int .i64 (rd y130 t133), .slice Ao41 x139003_1.length co41, .bool (t136 == 0)] (0, 0) _ rfl (kP BK125.out) Try.underlying25 rfl (by kernel_rfl)) rfl ?_
      exact ⟨_, by first | rfl | (simp [errW_none, errW_some] <;> rfl) | (simp [*, errW_none, errW_some] <;> rfl), by (with_reducible repeat (first | apply Kd.R_alloc | apply Kd.R_drewN | apply Kd.R_drew)); exact frM (Kd.R_types HO_139003.out BK125.out (by decide)), by repeat (first | (with_reducible first | exact HI0.out | apply IsS82.alloc | apply IsS82.drewN | apply IsS82.drew | apply IsS82.set_1 | refine IsS82.far ?_ NB0_125.out _ | refine IsS82.far ?_ NB0_138.out _) | exact HI0.out), by repeat (first | (with_reducible first | exact HB.out | apply below_alloc | apply pw_below_drewN | apply below_drew1 | refine below_set ?_ (IsS82.ge HI0.out) | refine below_set ?_ GE125.out | refine below_set ?_ GE138.out) | exact HB.out), by repeat (first | (with_reducible first | exact HK.out | apply KeepBut.set_ | apply keep_drewN | apply keep_drew | apply keep_alloc | refine keep_far ?_ GW125.out _ | refine keep_far ?_ GW138.out _) | exact HK.out)⟩
  ·rw [if_neg c6] at H
   exact absurd H (by simp)
 ·rw [if_neg c5] at H
  exact absurd H (by simp)

end Go.Proofs.Ytnlhaiihbcdmoaa.P
