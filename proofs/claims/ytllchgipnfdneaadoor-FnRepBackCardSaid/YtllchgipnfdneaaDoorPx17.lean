/- The machine side of these statements, function by function: what each Go function answers (as a Lean function), and that it does. Written by a program (mp.py) for this claim. -/
import Derived.Test.YtllchgipnfdneaaDoorPx0
import Derived.Test.YtllchgipnfdneaaDoorPx8
import Derived.Test.YtllchgipnfdneaaDoorPx16
namespace Go.Proofs.YtllchgipnfdneaaDoor.P
open Go.RowKit Go.Proofs.YtllchgipnfdneaaDoorW.PrintWords Go.Proofs.YtllchgipnfdneaaDoorW.PrintLast Go.Proofs.YtllchgipnfdneaaDoorW.PrintMore
attribute [local go_sem] max2_int min2_int max_two min_two max_three min_three max_four min_four   -- for this text's walks alone
set_option linter.unusedVariables false
set_option linter.unusedSimpArgs false

/-! ### spec_RepGet: function 17 -/
def spec_RepGet.j0 : Nat → ByteArray → Bool → Bool → Int → Int → ByteArray → Option (Int × Int × Int × Int × Int × ByteArray × Bool)
 | 0, _, _, _, _, _, _ => none
 | k + 1, x0, x25, x348000, x348001, x348002, x348003 => if x25 = true then (some (0, 0, 0, 0, 0, (⟨#[]⟩ : ByteArray), false)) else (if 1 < (x348003.size : Int) then (if 2 < (x348003.size : Int) then ((spec_l1Get.f k x348003 3 4).bind fun t348 => (if 7 ≤ (x348003.size : Int) then ((spec_RepPut.f k x348001 x348002 (wrap64 (bt x348003 1)) (wrap64 (bt x348003 2)) t348 (x348003.extract 7 x348003.size)).bind fun t350 => (if t350.toList = x0.toList then (some (x348001, x348002, wrap64 (bt x348003 1), wrap64 (bt x348003 2), t348, x348003.extract 7 x348003.size, true)) else (some (0, 0, 0, 0, 0, (⟨#[]⟩ : ByteArray), false)))) else (none))) else (none)) else (none))
def spec_RepGet.f (k : Nat) (a0 : ByteArray) : Option (Int × Int × Int × Int × Int × ByteArray × Bool) := (spec_PacketGet.f k a0 0).bind fun bt342 => (if bt342.2.2.2.2 = 0 then (spec_RepGet.j0 k a0 true bt342.1 bt342.2.1 bt342.2.2.1 bt342.2.2.2.1) else (if bt342.2.2.2.2 = (a0.size : Int) then (spec_RepGet.j0 k a0 (decide ((bt342.2.2.2.1.size : Int) < 7)) bt342.1 bt342.2.1 bt342.2.2.1 bt342.2.2.2.1) else (spec_RepGet.j0 k a0 true bt342.1 bt342.2.1 bt342.2.2.1 bt342.2.2.2.1)))
theorem spec_RepGet.mono_l : ∀ k, (∀ y0 y1 y2 y3 y4 y5, LeO (spec_RepGet.j0 k y0 y1 y2 y3 y4 y5) (spec_RepGet.j0 (k + 1) y0 y1 y2 y3 y4 y5))
 | 0 => fun _ _ _ _ _ _ r h => by simp [spec_RepGet.j0] at h
 | k + 1 => by
  have ih0 := spec_RepGet.mono_l k
  ·intro y0 y1 y2 y3 y4 y5
   unfold spec_RepGet.j0
   repeat' first
   | (with_reducible exact ih0 _ _ _ _ _ _)
   | (with_reducible exact spec_PacketGet.mono _ _ _)
   | (with_reducible exact spec_RepPut.mono _ _ _ _ _ _ _)
   | (with_reducible exact spec_l1Get.mono _ _ _ _)
   | (with_reducible exact LeO.refl _)
   | (with_reducible exact LeO.none _)
   | (with_reducible refine LeO.ite ?_ ?_)
   | (with_reducible refine LeO.bind ?_ (fun _ => ?_))
   | exact ih0 _ _ _ _ _ _
   | exact spec_PacketGet.mono _ _ _
   | exact spec_RepPut.mono _ _ _ _ _ _ _
   | exact spec_l1Get.mono _ _ _ _
   | exact LeO.none _
   | refine LeO.ite ?_ ?_
   | refine LeO.bind ?_ (fun _ => ?_)
theorem spec_RepGet.mono : ∀ a0 k, LeO (spec_RepGet.f k a0) (spec_RepGet.f (k + 1) a0) := by
 intro a0 k
 have ih0 := spec_RepGet.mono_l k
 unfold spec_RepGet.f
 repeat' first
   | (with_reducible exact ih0 _ _ _ _ _ _)
   | (with_reducible exact spec_PacketGet.mono _ _ _)
   | (with_reducible exact spec_RepPut.mono _ _ _ _ _ _ _)
   | (with_reducible exact spec_l1Get.mono _ _ _ _)
   | (with_reducible exact LeO.refl _)
   | (with_reducible exact LeO.none _)
   | (with_reducible refine LeO.ite ?_ ?_)
   | (with_reducible refine LeO.bind ?_ (fun _ => ?_))
   | exact ih0 _ _ _ _ _ _
   | exact spec_PacketGet.mono _ _ _
   | exact spec_RepPut.mono _ _ _ _ _ _ _
   | exact spec_l1Get.mono _ _ _ _
   | exact LeO.none _
   | refine LeO.ite ?_ ?_
   | refine LeO.bind ?_ (fun _ => ?_)
def spec_RepGet.T4 : Bool × List (List Nat × List Nat) := (true, [([], []), ([0], [0]), ([], []), ([2], [2]), ([], []), ([4], [4]), ([5], [5]), ([6], [6]), ([], []), ([8], [8]), ([9], [9]), ([10], [10]), ([], []), ([12], [12]), ([13], [13]), ([], []), ([15], [15]), ([16], [16]), ([1, 3, 7, 11, 14, 17], [1, 3, 7, 11, 14, 17]), ([], []), ([19, 18, 14, 0, 1, 2, 3, 4, 5, 6, 7, 8, 9, 10, 11, 12, 13, 14, 15, 16, 17, 18, 19], [18, 19])])
def spec_RepGet.B4 : List Nat := [0, 1, 0, 4, 0, 16, 48, 112, 0, 256, 768, 1792, 0, 4096, 12288, 0, 32768, 98304, 262143, 0, 1048575]
theorem spec_RepGet.tab4 : rtab .any (opsOf Tryd.f17 4) = spec_RepGet.T4 := by kernel_rfl
theorem spec_RepGet.bits4 : waitsOk spec_RepGet.T4.2 spec_RepGet.B4 = true := by kernel_rfl
set_option maxHeartbeats 8000000 in
set_option maxRecDepth 100000 in
theorem spec_RepGet.calls (k : Nat) (a0 : ByteArray) (r1 : Int) (r2 : Int) (r3 : Int) (r4 : Int) (r5 : Int) (r6 : ByteArray) (r7 : Bool) (w : World) (h : spec_RepGet.f k a0 = some (r1, r2, r3, r4, r5, r6, r7)) :
  Calls Tryd.prog 17 #[.string a0] w fun e w' => e = .returned (.tuple #[.agg #[.int .i64 r1, .int .i64 r2, .int .i64 r3, .int .i64 r4, .int .i64 r5, .string r6], .bool r7]) ∧ Below w.heap.size w w' := by
 have hu35 := Tryd.underlying35
 have hu23 := Tryd.underlying23
 have HB := m_ (Below.refl w.heap.size w)
 have H : ((spec_PacketGet.f k a0 0).bind fun bt342 => (if bt342.2.2.2.2 = 0 then (spec_RepGet.j0 k a0 true bt342.1 bt342.2.1 bt342.2.2.1 bt342.2.2.2.1) else (if bt342.2.2.2.2 = (a0.size : Int) then (spec_RepGet.j0 k a0 (decide ((bt342.2.2.2.1.size : Int) < 7)) bt342.1 bt342.2.1 bt342.2.2.1 bt342.2.2.2.1) else (spec_RepGet.j0 k a0 true bt342.1 bt342.2.1 bt342.2.2.1 bt342.2.2.2.1)))) = some (r1, r2, r3, r4, r5, r6, r7) := h
 clear h
 replace H := Option.bind_eq_some_iff.mp H
 obtain ⟨⟨t342, t343, t344, t345, t346⟩, A20, H⟩ := H
 replace H : (if t346 = 0 then (spec_RepGet.j0 k a0 true t342 t343 t344 t345) else (if t346 = (a0.size : Int) then (spec_RepGet.j0 k a0 (decide ((t345.size : Int) < 7)) t342 t343 t344 t345) else (spec_RepGet.j0 k a0 true t342 t343 t344 t345))) = some (r1, r2, r3, r4, r5, r6, r7) := H
 have A2 := Aside0.mk A20
 clear A20
 have HC3 := Aside0.mk H
 clear H
 go_enter Tryd.func17, Tryd.ntmps17
 go_upto_region 2 with (first | ((with_reducible refine gate_dst (N := 2) rfl ?_); (try (refine gate_guard (by rfl) ?_; dsimp only)); refine box_event ?hg (N := 2) ?hd (cs := #[.int .i64 0, .int .i64 0, .int .i64 0, .int .i64 0, .int .i64 0, .string (⟨#[]⟩ : ByteArray)]) (t := 35) ?hr ?_; (case hd => rfl); (case hg => rfl); (case hr => first | (go_simp; done) | (go_simp; rfl)); intro gb341 hg w4 hbox hb; have n0_ := m_ (below_step (bN HB.out) hb); have n1_ := m_ (hbox); have n2_ := m_ ((by rw [hg]; exact (below_size (bN HB.out)) : w.heap.size ≤ gb341)); have n3_ := m_ ((by rw [hg]; exact (below_size (bN HB.out)) : w.heap.size ≤ gb341)); clear HB; have HB := n0_; have BK341 := n1_; have GW341 := n2_; have GE341 := n3_; clear n0_ n1_ n2_ n3_; clear hb hbox hg) | ((with_reducible refine gate_callee (f := 10) rfl ?_); refine goesL_ (some 9) rfl rfl Tryd.func10 (by kernel_rfl) rfl #[.string a0, .int .i64 0] rfl gl_ ?_; (with_reducible refine (spec_PacketGet.calls k a0 0 t342 t343 t344 t345 t346 _ A2.out).mono ?_); rintro e w5 ⟨rfl, hb⟩; refine ⟨_, rfl, ?_⟩; have n0_ := m_ (blk_below (g := gb341) (o := .cells #[.int .i64 0, .int .i64 0, .int .i64 0, .int .i64 0, .int .i64 0, .string (⟨#[]⟩ : ByteArray)] 35 (0, 0)) (kN BK341.out) hb); have n1_ := m_ (below_step (bN HB.out) hb); clear BK341; clear HB; have BK341 := n0_; have HB := n1_; clear n0_ n1_; (try clear hb); (try clear hb2); (try clear hk); (try clear hi)) | ((with_reducible refine gate_dst (N := 4) rfl ?_); (try (refine gate_guard (by rfl) ?_; dsimp only)); refine box_event ?hg (N := 4) ?hd (cs := #[.bool false, .int .i64 0, .int .i64 0, .string (⟨#[]⟩ : ByteArray)]) (t := 23) ?hr ?_; (case hd => rfl); (case hg => rfl); (case hr => first | (go_simp; done) | (go_simp; rfl)); intro gb347 hg w6 hbox hb; have n0_ := m_ (blk_below (g := gb341) (o := .cells #[.int .i64 0, .int .i64 0, .int .i64 0, .int .i64 0, .int .i64 0, .string (⟨#[]⟩ : ByteArray)] 35 (0, 0)) (kN BK341.out) hb); have n1_ := m_ (below_step (bN HB.out) hb); have n2_ := m_ (hbox); have n3_ := m_ ((by rw [hg]; exact (below_size (bN HB.out)) : w.heap.size ≤ gb347)); have n4_ := m_ ((by rw [hg]; exact (below_size (bN HB.out)) : w.heap.size ≤ gb347)); have n5_ := m_ ((by rw [hg]; exact Nat.ne_of_lt (blk_lt (g := gb341) (o := .cells #[.int .i64 0, .int .i64 0, .int .i64 0, .int .i64 0, .int .i64 0, .string (⟨#[]⟩ : ByteArray)] 35 (0, 0)) (kN BK341.out)) : gb341 ≠ gb347)); have n6_ := m_ ((by rw [hg]; exact Nat.ne_of_gt (blk_lt (g := gb341) (o := .cells #[.int .i64 0, .int .i64 0, .int .i64 0, .int .i64 0, .int .i64 0, .string (⟨#[]⟩ : ByteArray)] 35 (0, 0)) (kN BK341.out)) : gb347 ≠ gb341)); clear BK341; clear HB; have BK341 := n0_; have HB := n1_; have BK347 := n2_; have GW347 := n3_; have GE347 := n4_; have NB341_347 := n5_; have NB347_341 := n6_; clear n0_ n1_ n2_ n3_ n4_ n5_ n6_; clear hb hbox hg; have hnb7 := NB347_341.out; have hnc7 := NB341_347.out; have hcz8_0 : w6.cell? ⟨gb347, 0, none⟩ = some (.bool false) := (blk_cell BK347.out 0).trans rfl; have hcz8_1 : w6.cell? ⟨gb347, 1, none⟩ = some (.int .i64 0) := (blk_cell BK347.out 1).trans rfl; have hcz8_2 : w6.cell? ⟨gb347, 2, none⟩ = some (.int .i64 0) := (blk_cell BK347.out 2).trans rfl; have hcz8_3 : w6.cell? ⟨gb347, 3, none⟩ = some (.string (⟨#[]⟩ : ByteArray)) := (blk_cell BK347.out 3).trans rfl; have hfz8_0 := blk_frozen BK347.out 0; have hfz8_1 := blk_frozen BK347.out 1; have hfz8_2 := blk_frozen BK347.out 2; have hfz8_3 := blk_frozen BK347.out 3))
 (try simp only [Act.put, List.setIfInBounds_toArray, List.set_cons_zero, List.set_cons_succ])
 go_cut [25] (fun v25 wc => ∃ (kq : Nat) (x25_2 : Bool), v25 = .bool x25_2 ∧ Aside0 (spec_RepGet.j0 kq a0 x25_2 t342 t343 t344 t345 = some (r1, r2, r3, r4, r5, r6, r7)) ∧ Aside0 (kq ≤ k) ∧ Aside0 (wc.heap[gb341]? = some (.cells #[.int .i64 0, .int .i64 0, .int .i64 0, .int .i64 0, .int .i64 0, .string (⟨#[]⟩ : ByteArray)] 35 (0, 0))) ∧ Aside0 (wc.heap[gb347]? = some (.cells #[.bool t342, .int .i64 t343, .int .i64 t344, .string t345] 23 (0, 0))) ∧ Aside0 (Below w.heap.size w wc))
 case first =>
  have H := HC3.out
  clear HC3
  by_cases c9 : t346 = 0
  ·rw [if_pos c9] at H
   have c9b0 : (t346 == 0) = true := beq_iff_eq.mpr c9
   have c9b1 : (t346 != 0) = false := bne_eq_false_iff_eq.mpr c9
   clear c9
   (first | rw [c9b0] | (simp only [i64_w, i32_w]; rw [c9b0]) | skip)
   have H' := Aside0.mk H
   clear H
   go_wp2
   go_meet
   case rel => exact ⟨_, (true), (by first | rfl | (simp; done) | (simp [*]; done)), H', ⟨by first | omega | exact Nat.le_refl _⟩, ⟨kF BK341.out NB341_347.out⟩, ⟨kP BK347.out⟩, ⟨by repeat (first | (with_reducible first | exact HB.out | apply below_alloc | apply pw_below_drewN | apply below_drew1 | refine below_set ?_ GE341.out | refine below_set ?_ GE347.out) | exact HB.out)⟩⟩
  ·rw [if_neg c9] at H
   have c9b0 : (t346 == 0) = false := beq_eq_false_iff_ne.mpr c9
   have c9b1 : (t346 != 0) = true := bne_iff_ne.mpr c9
   (first | rw [c9b0] | (simp only [i64_w, i32_w]; rw [c9b0]) | skip)
   by_cases c10 : t346 = (a0.size : Int)
   ·rw [if_pos c10] at H
    have c10b0 : (t346 == (a0.size : Int)) = true := beq_iff_eq.mpr c10
    have c10b1 : (t346 != (a0.size : Int)) = false := bne_eq_false_iff_eq.mpr c10
    clear c10
    have H' := Aside0.mk H
    clear H
    have hnb11 := NB347_341.out
    have hnc11 := NB341_347.out
    have hcz12_0 : w6.cell? ⟨gb347, 0, none⟩ = some (.bool false) := (blk_cell BK347.out 0).trans rfl
    have hcz12_1 : w6.cell? ⟨gb347, 1, none⟩ = some (.int .i64 0) := (blk_cell BK347.out 1).trans rfl
    have hcz12_2 : w6.cell? ⟨gb347, 2, none⟩ = some (.int .i64 0) := (blk_cell BK347.out 2).trans rfl
    have hcz12_3 : w6.cell? ⟨gb347, 3, none⟩ = some (.string (⟨#[]⟩ : ByteArray)) := (blk_cell BK347.out 3).trans rfl
    have hfz12_0 := blk_frozen BK347.out 0
    have hfz12_1 := blk_frozen BK347.out 1
    have hfz12_2 := blk_frozen BK347.out 2
    have hfz12_3 := blk_frozen BK347.out 3
    go_wp2
    go_meet
    case rel => exact ⟨_, (decide ((t345.size : Int) < 7)), (by first | rfl | (simp; done) | (simp [*]; done)), H', ⟨by first | omega | exact Nat.le_refl _⟩, ⟨kF BK341.out NB341_347.out⟩, ⟨kP BK347.out⟩, ⟨by repeat (first | (with_reducible first | exact HB.out | apply below_alloc | apply pw_below_drewN | apply below_drew1 | refine below_set ?_ GE341.out | refine below_set ?_ GE347.out) | exact HB.out)⟩⟩
   ·rw [if_neg c10] at H
    have c10b0 : (t346 == (a0.size : Int)) = false := beq_eq_false_iff_ne.mpr c10
    have c10b1 : (t346 != (a0.size : Int)) = true := bne_iff_ne.mpr c10
    have H' := Aside0.mk H
    clear H
    go_wp2
    go_meet
    case rel => exact ⟨_, (true), (by first | rfl | (simp; done) | (simp [*]; done)), H', ⟨by first | omega | exact Nat.le_refl _⟩, ⟨kF BK341.out NB341_347.out⟩, ⟨kP BK347.out⟩, ⟨by repeat (first | (with_reducible first | exact HB.out | apply below_alloc | apply pw_below_drewN | apply below_drew1 | refine below_set ?_ GE341.out | refine below_set ?_ GE347.out) | exact HB.out)⟩⟩
 case rest =>
  clear HC3
  try clear c1
  try clear p2
  try clear c7
  try clear c9
  try clear c9b0
  try clear c9b1
  try clear c10
  try clear c10b0
  try clear c10b1
  try clear c11
  try clear hcz12_0
  try clear hcz12_1
  try clear hcz12_2
  try clear hcz12_3
  try clear hcz8_0
  try clear hcz8_1
  try clear hcz8_2
  try clear hcz8_3
  try clear hfz12_0
  try clear hfz12_1
  try clear hfz12_2
  try clear hfz12_3
  try clear hfz8_0
  try clear hfz8_1
  try clear hfz8_2
  try clear hfz8_3
  obtain ⟨kq, x25_2, rfl, HA, HJ2, BK341, BK347, HB⟩ := hcut
  cases kq with
  | zero => exact absurd HA.out (by simp [spec_RepGet.j0])
  | succ kj2 =>
   have H := HA.out
   clear HA
   simp only [spec_RepGet.j0] at H
   by_cases c13 : x25_2 = true
   ·subst c13
    have H1 : (some (0, 0, 0, 0, 0, (⟨#[]⟩ : ByteArray), false)) = some (r1, r2, r3, r4, r5, r6, r7) := by rw [if_pos rfl] at H; exact H
    clear H
    have H := H1
    clear H1
    simp only [Option.some.injEq, Prod.mk.injEq] at H
    obtain ⟨rfl, rfl, rfl, rfl, rfl, rfl, rfl⟩ := H
    have hnb14 := NB341_347.out
    have hnc14 := NB347_341.out
    have hcz15_0 : wc.cell? ⟨gb341, 0, none⟩ = some (.int .i64 0) := (blk_cell BK341.out 0).trans rfl
    have hcz15_1 : wc.cell? ⟨gb341, 1, none⟩ = some (.int .i64 0) := (blk_cell BK341.out 1).trans rfl
    have hcz15_2 : wc.cell? ⟨gb341, 2, none⟩ = some (.int .i64 0) := (blk_cell BK341.out 2).trans rfl
    have hcz15_3 : wc.cell? ⟨gb341, 3, none⟩ = some (.int .i64 0) := (blk_cell BK341.out 3).trans rfl
    have hcz15_4 : wc.cell? ⟨gb341, 4, none⟩ = some (.int .i64 0) := (blk_cell BK341.out 4).trans rfl
    have hcz15_5 : wc.cell? ⟨gb341, 5, none⟩ = some (.string (⟨#[]⟩ : ByteArray)) := (blk_cell BK341.out 5).trans rfl
    have hfz15_0 := blk_frozen BK341.out 0
    have hfz15_1 := blk_frozen BK341.out 1
    have hfz15_2 := blk_frozen BK341.out 2
    have hfz15_3 := blk_frozen BK341.out 3
    have hfz15_4 := blk_frozen BK341.out 4
    have hfz15_5 := blk_frozen BK341.out 5
    go_wp2
    refine bodyPost_ret (results_ct rfl _ _ gb341 35 #[.int .i64 0, .int .i64 0, .int .i64 0, .int .i64 0, .int .i64 0, .string (⟨#[]⟩ : ByteArray)] (0, 0) _ rfl (kP BK341.out) Tryd.underlying35 rfl (by kernel_rfl)) rfl ?_
    exact ⟨by first | rfl | (simp [errW_none, errW_some] <;> rfl) | (simp [*, errW_none, errW_some] <;> rfl), by repeat (first | (with_reducible first | exact HB.out | apply below_alloc | apply pw_below_drewN | apply below_drew1 | refine below_set ?_ GE341.out | refine below_set ?_ GE347.out) | exact HB.out)⟩
   ·replace c13 := Bool.eq_false_iff.mpr c13
    subst c13
    have H1 : (if 1 < (t345.size : Int) then (if 2 < (t345.size : Int) then ((spec_l1Get.f kj2 t345 3 4).bind fun t348 => (if 7 ≤ (t345.size : Int) then ((spec_RepPut.f kj2 t343 t344 (wrap64 (bt t345 1)) (wrap64 (bt t345 2)) t348 (t345.extract 7 t345.size)).bind fun t350 => (if t350.toList = a0.toList then (some (t343, t344, wrap64 (bt t345 1), wrap64 (bt t345 2), t348, t345.extract 7 t345.size, true)) else (some (0, 0, 0, 0, 0, (⟨#[]⟩ : ByteArray), false)))) else (none))) else (none)) else (none)) = some (r1, r2, r3, r4, r5, r6, r7) := by rw [if_neg (show ¬ (false = true) by decide)] at H; exact H
    clear H
    have H := H1
    clear H1
    by_cases c16 : 1 < (t345.size : Int)
    ·rw [if_pos c16] at H
     have c16b0 : decide (1 < (t345.size : Int)) = true := decide_eq_true c16
     have c16b1 : decide (1 < t345.size) = true := decide_eq_true (by omega)
     clear c16
     by_cases c18 : 2 < (t345.size : Int)
     ·rw [if_pos c18] at H
      have c18b0 : decide (2 < (t345.size : Int)) = true := decide_eq_true c18
      have c18b1 : decide (2 < t345.size) = true := decide_eq_true (by omega)
      clear c18
      replace H := Option.bind_eq_some_iff.mp H
      obtain ⟨t348, A200, H⟩ := H
      replace H : (if 7 ≤ (t345.size : Int) then ((spec_RepPut.f kj2 t343 t344 (wrap64 (bt t345 1)) (wrap64 (bt t345 2)) t348 (t345.extract 7 t345.size)).bind fun t350 => (if t350.toList = a0.toList then (some (t343, t344, wrap64 (bt t345 1), wrap64 (bt t345 2), t348, t345.extract 7 t345.size, true)) else (some (0, 0, 0, 0, 0, (⟨#[]⟩ : ByteArray), false)))) else (none)) = some (r1, r2, r3, r4, r5, r6, r7) := H
      have A20 := Aside0.mk A200
      clear A200
      by_cases c21 : 7 ≤ (t345.size : Int)
      ·rw [if_pos c21] at H
       have c21b0 := eq_true c21
       have c21b1 : decide (7 ≤ (t345.size : Int)) = true := decide_eq_true c21
       clear c21
       replace H := Option.bind_eq_some_iff.mp H
       obtain ⟨t350, A220, H⟩ := H
       replace H : (if t350.toList = a0.toList then (some (t343, t344, wrap64 (bt t345 1), wrap64 (bt t345 2), t348, t345.extract 7 t345.size, true)) else (some (0, 0, 0, 0, 0, (⟨#[]⟩ : ByteArray), false))) = some (r1, r2, r3, r4, r5, r6, r7) := H
       have A22 := Aside0.mk A220
       clear A220
       by_cases c23 : t350.toList = a0.toList
       ·rw [if_pos c23] at H
        have c23b0 : (t350.toList == a0.toList) = true := beq_iff_eq.mpr c23
        have c23b1 : (t350.toList != a0.toList) = false := bne_eq_false_iff_eq.mpr c23
        clear c23
        simp only [Option.some.injEq, Prod.mk.injEq] at H
        obtain ⟨rfl, rfl, rfl, rfl, rfl, rfl, rfl⟩ := H
        try go_wp2
        have n0_ := m_ (blk_drew BK341.out)
        have n1_ := m_ (blk_drew BK347.out)
        have n2_ := m_ (below_drew1 HB.out)
        clear BK341
        clear BK347
        clear HB
        have BK341 := n0_
        have BK347 := n1_
        have HB := n2_
        clear n0_ n1_ n2_
        have p17 : 0 ≤ (1 : Int) := (by omega)
        have q17 : 1 < t345.size := (by have : (1 : Int) < (t345.size : Int) := of_decide_eq_true (by first | (with_reducible assumption) | assumption); omega)
        have hx17 : ∀ h : 1 < t345.size, ((t345[1]'h).toNat : Int) = bt t345 1 := bt_at t345 1
        clear p17
        have qi17 : (1 < (t345.size : Int)) = True := eq_true (of_decide_eq_true (by first | (with_reducible assumption) | assumption))
        replace q17 := eq_true q17
        have p19 : 0 ≤ (2 : Int) := (by omega)
        have q19 : 2 < t345.size := (by have : (2 : Int) < (t345.size : Int) := of_decide_eq_true (by first | (with_reducible assumption) | assumption); omega)
        have hx19 : ∀ h : 2 < t345.size, ((t345[2]'h).toNat : Int) = bt t345 2 := bt_at t345 2
        clear p19
        have qi19 : (2 < (t345.size : Int)) = True := eq_true (of_decide_eq_true (by first | (with_reducible assumption) | assumption))
        replace q19 := eq_true q19
        refine start_ (n := 21) (S := fun w' => w'.cell? ⟨gb347, 0, none⟩ = some (.bool t342) ∧ w'.cell? ⟨gb347, 1, none⟩ = some (.int .i64 t343) ∧ w'.cell? ⟨gb347, 2, none⟩ = some (.int .i64 t344) ∧ w'.cell? ⟨gb347, 3, none⟩ = some (.string t345)) (ds := []) #[false, false, false, false, false, false, false, false, false, false, false, false, false, false, false, false, false, false, false, false, false] (by kernel_rfl) rfl rfl ⟨(blk_cell BK347.out 0).trans rfl, (blk_cell BK347.out 1).trans rfl, (blk_cell BK347.out 2).trans rfl, (blk_cell BK347.out 3).trans rfl⟩ (fun hHeld => ?_); refine with_tabW spec_RepGet.tab4 spec_RepGet.bits4 (fun HT_ HW_ => ?_)
        generalize wc.drew = w24 at BK341 BK347 HB hHeld ⊢
        refine pu 0 27 HT_ (h := ?_)
        refine pu 2 29 HT_ (h := ?_)
        refine pu 4 31 HT_ (h := ?_)
        refine pu 8 35 HT_ (h := ?_)
        refine pu 12 39 HT_ (h := ?_)
        refine pu 15 42 HT_ (h := ?_)
        refine take_ (i := 1) (N := some 28) (v := ?_) (a' := ?_) #[true, true, true, false, true, false, false, false, true, false, false, false, true, false, false, true, false, false, false, false, false] rfl rfl (take_ofW HT_.out HW_.out (by kernel_rfl)) (fun _ _ _ h => h) (Or.inl ⟨by rfl, ?_⟩) hHeld ?_ ?_
        rotate_left
        ·rintro w' ⟨s0, s1, s2, s3⟩
         go_simp
         with_reducible rfl
        rotate_left
        ·simp only [Act.put, List.setIfInBounds_toArray, List.set_cons_zero, List.set_cons_succ, i64_w, i32_w]
         rfl
        refine take_ (i := 3) (N := some 30) (v := ?_) (a' := ?_) #[true, true, true, true, true, false, false, false, true, false, false, false, true, false, false, true, false, false, false, false, false] rfl rfl (take_ofW HT_.out HW_.out (by kernel_rfl)) (fun _ _ _ h => h) (Or.inl ⟨by rfl, ?_⟩) hHeld ?_ ?_
        rotate_left
        ·rintro w' ⟨s0, s1, s2, s3⟩
         go_simp
         with_reducible rfl
        rotate_left
        ·simp only [Act.put, List.setIfInBounds_toArray, List.set_cons_zero, List.set_cons_succ, i64_w, i32_w]
         rfl
        refine take_ (i := 5) (N := some 32) (v := ?_) (a' := ?_) #[true, true, true, true, true, true, false, false, true, false, false, false, true, false, false, true, false, false, false, false, false] rfl rfl (take_ofW HT_.out HW_.out (by kernel_rfl)) (fun _ _ _ h => h) (Or.inl ⟨by rfl, ?_⟩) hHeld ?_ ?_
        rotate_left
        ·rintro w' ⟨s0, s1, s2, s3⟩
         go_simp
         with_reducible rfl
        rotate_left
        ·simp only [Act.put, List.setIfInBounds_toArray, List.set_cons_zero, List.set_cons_succ, i64_w, i32_w]
         rfl
        refine take_ (i := 6) (N := some 33) (v := ?_) (a' := ?_) #[true, true, true, true, true, true, true, false, true, false, false, false, true, false, false, true, false, false, false, false, false] rfl rfl (take_ofW HT_.out HW_.out (by kernel_rfl)) (fun _ _ _ h => h) (Or.inl ⟨by rfl, ?_⟩) hHeld ?_ ?_
        rotate_left
        ·rintro w' ⟨s0, s1, s2, s3⟩
         go_simp
         with_reducible rfl
        rotate_left
        ·simp only [Act.put, List.setIfInBounds_toArray, List.set_cons_zero, List.set_cons_succ, i64_w, i32_w]
         rfl
        refine pu 7 34 HT_ (h := ?_)
        refine take_ (i := 9) (N := some 36) (v := ?_) (a' := ?_) #[true, true, true, true, true, true, true, true, true, true, false, false, true, false, false, true, false, false, false, false, false] rfl rfl (take_ofW HT_.out HW_.out (by kernel_rfl)) (fun _ _ _ h => h) (Or.inl ⟨by rfl, ?_⟩) hHeld ?_ ?_
        rotate_left
        ·rintro w' ⟨s0, s1, s2, s3⟩
         go_simp
         with_reducible rfl
        rotate_left
        ·simp only [Act.put, List.setIfInBounds_toArray, List.set_cons_zero, List.set_cons_succ, i64_w, i32_w]
         rfl
        refine take_ (i := 10) (N := some 37) (v := ?_) (a' := ?_) #[true, true, true, true, true, true, true, true, true, true, true, false, true, false, false, true, false, false, false, false, false] rfl rfl (take_ofW HT_.out HW_.out (by kernel_rfl)) (fun _ _ _ h => h) (Or.inl ⟨by rfl, ?_⟩) hHeld ?_ ?_
        rotate_left
        ·rintro w' ⟨s0, s1, s2, s3⟩
         go_simp
         with_reducible rfl
        rotate_left
        ·simp only [Act.put, List.setIfInBounds_toArray, List.set_cons_zero, List.set_cons_succ, i64_w, i32_w]
         rfl
        refine pu 11 38 HT_ (h := ?_)
        refine take_ (i := 13) (N := some 40) (v := ?_) (a' := ?_) #[true, true, true, true, true, true, true, true, true, true, true, true, true, true, false, true, false, false, false, false, false] rfl rfl (take_ofW HT_.out HW_.out (by kernel_rfl)) (fun _ _ _ h => h) (Or.inl ⟨by rfl, ?_⟩) hHeld ?_ ?_
        rotate_left
        ·rintro w' ⟨s0, s1, s2, s3⟩
         go_simp
         with_reducible rfl
        rotate_left
        ·simp only [Act.put, List.setIfInBounds_toArray, List.set_cons_zero, List.set_cons_succ, i64_w, i32_w]
         rfl
        refine take_ (i := 16) (N := some 43) (v := ?_) (a' := ?_) #[true, true, true, true, true, true, true, true, true, true, true, true, true, true, false, true, true, false, false, false, false] rfl rfl (take_ofW HT_.out HW_.out (by kernel_rfl)) (fun _ _ _ h => h) (Or.inl ⟨by rfl, ?_⟩) hHeld ?_ ?_
        rotate_left
        ·rintro w' ⟨s0, s1, s2, s3⟩
         go_simp
         with_reducible rfl
        rotate_left
        ·simp only [Act.put, List.setIfInBounds_toArray, List.set_cons_zero, List.set_cons_succ, i64_w, i32_w]
         rfl
        refine pu 17 44 HT_ (h := ?_)
        refine join_ (σ := Nat) 1 #[true, true, true, true, true, true, true, true, true, true, true, true, true, true, true, true, true, true, true, true, false] (fun s_ => [(41, .int .i64 t348), (6, .pointer (some ⟨s_, 0, none⟩)), (45, .agg #[.int .i64 t343, .int .i64 t344, .int .i64 (wrap64 (bt t345 1)), .int .i64 (wrap64 (bt t345 2)), .int .i64 t348, .string (t345.extract 7 t345.size)])]) (fun s_ w' => (w'.cell? ⟨gb347, 0, none⟩ = some (.bool t342) ∧ w'.cell? ⟨gb347, 1, none⟩ = some (.int .i64 t343) ∧ w'.cell? ⟨gb347, 2, none⟩ = some (.int .i64 t344) ∧ w'.cell? ⟨gb347, 3, none⟩ = some (.string t345)) ∧ (w'.heap[gb341]? = some (.cells #[.int .i64 0, .int .i64 0, .int .i64 0, .int .i64 0, .int .i64 0, .string (⟨#[]⟩ : ByteArray)] 35 (0, 0))) ∧ (w'.heap[gb347]? = some (.cells #[.bool t342, .int .i64 t343, .int .i64 t344, .string t345] 23 (0, 0))) ∧ (w'.heap[s_]? = some (.cells #[.int .i64 0, .int .i64 0, .int .i64 0, .int .i64 0, .int .i64 0, .string (⟨#[]⟩ : ByteArray)] 35 (0, 0))) ∧ (w.heap.size ≤ s_) ∧ (w.heap.size ≤ s_) ∧ (gb341 ≠ s_) ∧ (s_ ≠ gb341) ∧ (gb347 ≠ s_) ∧ (s_ ≠ gb347) ∧ (Below w.heap.size w w')) ?_ ?_
        rotate_left
        ·intro hCont
         refine two_ (i := 14) (j := 19) (Ni := some 41) (Nj := some 6) #[true, true, true, true, true, true, true, true, true, true, true, true, true, true, true, true, true, true, false, false, false] #[true, true, true, true, true, true, true, true, true, true, true, true, true, true, false, true, true, true, false, true, false] rfl rfl rfl rfl (two_of HT_.out (by kernel_rfl)) (by decide) (by decide) (fun K hK => ?_) (fun K hK => ?_)
         ·skip
          refine goes_ Tryd.func32 (by kernel_rfl) rfl #[.string t345, .int .i64 3, .int .i64 4] (by rfl) rfl rfl gl_ ?_
          with_reducible refine (spec_l1Get.calls kj2 t345 3 4 t348 _ A20.out).mono ?_
          rintro e w' ⟨rfl, ⟨nd, rfl⟩⟩
          refine ⟨_, rfl, ?_⟩
          refine hK.out _ _ ⟨(blk_cell BK347.out 0).trans rfl, (blk_cell BK347.out 1).trans rfl, (blk_cell BK347.out 2).trans rfl, (blk_cell BK347.out 3).trans rfl⟩ (fun hHeld => ?_)
          clear hK K
          refine norm_ (a' := ?_) ?_ ?_
          rotate_left
          ·show Act.put _ (some 41) _ = _
           simp only [Act.put, List.setIfInBounds_toArray, List.set_cons_zero, List.set_cons_succ, i64_w, i32_w]
           rfl
          refine pu 18 45 HT_ (h := ?_)
          refine one_ (i := 19) (N := some 6) #[true, true, true, true, true, true, true, true, true, true, true, true, true, true, true, true, true, true, true, true, false] rfl rfl (one_of HT_.out (by kernel_rfl)) (by decide) (fun K hK => ?_)
          refine box_step ?hg (N := 6) ?hd (cs := #[.int .i64 0, .int .i64 0, .int .i64 0, .int .i64 0, .int .i64 0, .string (⟨#[]⟩ : ByteArray)]) (t := 35) ?hr ?_; (case hd => rfl); (case hg => rfl); (case hr => first | (go_simp; done) | (go_simp; rfl))
          intro gb349 hg w25 hbox hb
          have n0_ := m_ (blk_below (g := gb341) (o := .cells #[.int .i64 0, .int .i64 0, .int .i64 0, .int .i64 0, .int .i64 0, .string (⟨#[]⟩ : ByteArray)] 35 (0, 0)) (kN BK341.out) hb)
          have n1_ := m_ (blk_below (kN BK347.out) hb)
          have n2_ := m_ (below_step (bN HB.out) hb)
          have n3_ := m_ (hbox)
          have n4_ := m_ ((by rw [hg]; exact (below_size (bN HB.out)) : w.heap.size ≤ gb349))
          have n5_ := m_ ((by rw [hg]; exact (below_size (bN HB.out)) : w.heap.size ≤ gb349))
          have n6_ := m_ ((by rw [hg]; exact Nat.ne_of_lt (blk_lt (g := gb341) (o := .cells #[.int .i64 0, .int .i64 0, .int .i64 0, .int .i64 0, .int .i64 0, .string (⟨#[]⟩ : ByteArray)] 35 (0, 0)) (kN BK341.out)) : gb341 ≠ gb349))
          have n7_ := m_ ((by rw [hg]; exact Nat.ne_of_gt (blk_lt (g := gb341) (o := .cells #[.int .i64 0, .int .i64 0, .int .i64 0, .int .i64 0, .int .i64 0, .string (⟨#[]⟩ : ByteArray)] 35 (0, 0)) (kN BK341.out)) : gb349 ≠ gb341))
          have n8_ := m_ ((by rw [hg]; exact Nat.ne_of_lt (blk_lt (g := gb347) (o := .cells #[.bool t342, .int .i64 t343, .int .i64 t344, .string t345] 23 (0, 0)) (kN BK347.out)) : gb347 ≠ gb349))
          have n9_ := m_ ((by rw [hg]; exact Nat.ne_of_gt (blk_lt (g := gb347) (o := .cells #[.bool t342, .int .i64 t343, .int .i64 t344, .string t345] 23 (0, 0)) (kN BK347.out)) : gb349 ≠ gb347))
          clear BK341
          clear BK347
          clear HB
          have BK341 := n0_
          have BK347 := n1_
          have HB := n2_
          have BK349 := n3_
          have GW349 := n4_
          have GE349 := n5_
          have NB341_349 := n6_
          have NB349_341 := n7_
          have NB347_349 := n8_
          have NB349_347 := n9_
          clear n0_ n1_ n2_ n3_ n4_ n5_ n6_ n7_ n8_ n9_
          clear hb hbox hg
          refine hK.out _ _ ⟨(blk_cell BK347.out 0).trans rfl, (blk_cell BK347.out 1).trans rfl, (blk_cell BK347.out 2).trans rfl, (blk_cell BK347.out 3).trans rfl⟩ (fun hHeld => ?_)
          clear hK K
          refine norm_ (a' := ?_) ?_ ?_
          rotate_left
          ·show Act.put _ (some 6) _ = _
           simp only [Act.put, List.setIfInBounds_toArray, List.set_cons_zero, List.set_cons_succ, i64_w, i32_w]
           rfl
          exact norm_ (by simp only [putAll, Act.put, List.setIfInBounds_toArray, List.set_cons_zero, List.set_cons_succ]) (hCont (gb349) _ ⟨hHeld, (kN BK341.out), (kN BK347.out), (kN BK349.out), GW349.out, GE349.out, NB341_349.out, NB349_341.out, NB347_349.out, NB349_347.out, (bN HB.out)⟩)
         ·skip
          refine box_step ?hg (N := 6) ?hd (cs := #[.int .i64 0, .int .i64 0, .int .i64 0, .int .i64 0, .int .i64 0, .string (⟨#[]⟩ : ByteArray)]) (t := 35) ?hr ?_; (case hd => rfl); (case hg => rfl); (case hr => first | (go_simp; done) | (go_simp; rfl))
          intro gb349 hg w25 hbox hb
          have n0_ := m_ (blk_below (g := gb341) (o := .cells #[.int .i64 0, .int .i64 0, .int .i64 0, .int .i64 0, .int .i64 0, .string (⟨#[]⟩ : ByteArray)] 35 (0, 0)) (kN BK341.out) hb)
          have n1_ := m_ (blk_below (kN BK347.out) hb)
          have n2_ := m_ (below_step (bN HB.out) hb)
          have n3_ := m_ (hbox)
          have n4_ := m_ ((by rw [hg]; exact (below_size (bN HB.out)) : w.heap.size ≤ gb349))
          have n5_ := m_ ((by rw [hg]; exact (below_size (bN HB.out)) : w.heap.size ≤ gb349))
          have n6_ := m_ ((by rw [hg]; exact Nat.ne_of_lt (blk_lt (g := gb341) (o := .cells #[.int .i64 0, .int .i64 0, .int .i64 0, .int .i64 0, .int .i64 0, .string (⟨#[]⟩ : ByteArray)] 35 (0, 0)) (kN BK341.out)) : gb341 ≠ gb349))
          have n7_ := m_ ((by rw [hg]; exact Nat.ne_of_gt (blk_lt (g := gb341) (o := .cells #[.int .i64 0, .int .i64 0, .int .i64 0, .int .i64 0, .int .i64 0, .string (⟨#[]⟩ : ByteArray)] 35 (0, 0)) (kN BK341.out)) : gb349 ≠ gb341))
          have n8_ := m_ ((by rw [hg]; exact Nat.ne_of_lt (blk_lt (g := gb347) (o := .cells #[.bool t342, .int .i64 t343, .int .i64 t344, .string t345] 23 (0, 0)) (kN BK347.out)) : gb347 ≠ gb349))
          have n9_ := m_ ((by rw [hg]; exact Nat.ne_of_gt (blk_lt (g := gb347) (o := .cells #[.bool t342, .int .i64 t343, .int .i64 t344, .string t345] 23 (0, 0)) (kN BK347.out)) : gb349 ≠ gb347))
          clear BK341
          clear BK347
          clear HB
          have BK341 := n0_
          have BK347 := n1_
          have HB := n2_
          have BK349 := n3_
          have GW349 := n4_
          have GE349 := n5_
          have NB341_349 := n6_
          have NB349_341 := n7_
          have NB347_349 := n8_
          have NB349_347 := n9_
          clear n0_ n1_ n2_ n3_ n4_ n5_ n6_ n7_ n8_ n9_
          clear hb hbox hg
          refine hK.out _ _ ⟨(blk_cell BK347.out 0).trans rfl, (blk_cell BK347.out 1).trans rfl, (blk_cell BK347.out 2).trans rfl, (blk_cell BK347.out 3).trans rfl⟩ (fun hHeld => ?_)
          clear hK K
          refine norm_ (a' := ?_) ?_ ?_
          rotate_left
          ·show Act.put _ (some 6) _ = _
           simp only [Act.put, List.setIfInBounds_toArray, List.set_cons_zero, List.set_cons_succ, i64_w, i32_w]
           rfl
          refine one_ (i := 14) (N := some 41) #[true, true, true, true, true, true, true, true, true, true, true, true, true, true, true, true, true, true, false, true, false] rfl rfl (one_of HT_.out (by kernel_rfl)) (by decide) (fun K hK => ?_)
          refine goes_ Tryd.func32 (by kernel_rfl) rfl #[.string t345, .int .i64 3, .int .i64 4] (by rfl) rfl rfl gl_ ?_
          with_reducible refine (spec_l1Get.calls kj2 t345 3 4 t348 _ A20.out).mono ?_
          rintro e w' ⟨rfl, ⟨nd, rfl⟩⟩
          refine ⟨_, rfl, ?_⟩
          refine hK.out _ _ ⟨(blk_cell BK347.out 0).trans rfl, (blk_cell BK347.out 1).trans rfl, (blk_cell BK347.out 2).trans rfl, (blk_cell BK347.out 3).trans rfl⟩ (fun hHeld => ?_)
          clear hK K
          refine norm_ (a' := ?_) ?_ ?_
          rotate_left
          ·show Act.put _ (some 41) _ = _
           simp only [Act.put, List.setIfInBounds_toArray, List.set_cons_zero, List.set_cons_succ, i64_w, i32_w]
           rfl
          refine pu 18 45 HT_ (h := ?_)
          exact norm_ (by simp only [putAll, Act.put, List.setIfInBounds_toArray, List.set_cons_zero, List.set_cons_succ]) (hCont (gb349) _ ⟨hHeld, (kN BK341.out), (kN BK347.out), (kN BK349.out), GW349.out, GE349.out, NB341_349.out, NB349_341.out, NB347_349.out, NB349_347.out, (bN HB.out)⟩)
        rintro gb349 w26 ⟨hS_, h0_, h1_, h2_, h3_, h4_, h5_, h6_, h7_, h8_, h9_⟩
        have n0_ : Aside0 (w26.heap[gb341]? = some (.cells #[.int .i64 0, .int .i64 0, .int .i64 0, .int .i64 0, .int .i64 0, .string (⟨#[]⟩ : ByteArray)] 35 (0, 0))) := ⟨h0_⟩
        have n1_ : Aside0 (w26.heap[gb347]? = some (.cells #[.bool t342, .int .i64 t343, .int .i64 t344, .string t345] 23 (0, 0))) := ⟨h1_⟩
        have n2_ : Aside0 (w26.heap[gb349]? = some (.cells #[.int .i64 0, .int .i64 0, .int .i64 0, .int .i64 0, .int .i64 0, .string (⟨#[]⟩ : ByteArray)] 35 (0, 0))) := ⟨h2_⟩
        have n3_ : Aside0 (w.heap.size ≤ gb349) := ⟨h3_⟩
        have n4_ : Aside0 (w.heap.size ≤ gb349) := ⟨h4_⟩
        have n5_ : Aside0 (gb341 ≠ gb349) := ⟨h5_⟩
        have n6_ : Aside0 (gb349 ≠ gb341) := ⟨h6_⟩
        have n7_ : Aside0 (gb347 ≠ gb349) := ⟨h7_⟩
        have n8_ : Aside0 (gb349 ≠ gb347) := ⟨h8_⟩
        have n9_ : Aside0 (Below w.heap.size w w26) := ⟨h9_⟩
        clear BK341
        clear BK347
        clear HB
        clear h0_ h1_ h2_ h3_ h4_ h5_ h6_ h7_ h8_ h9_
        have BK341 := n0_
        have BK347 := n1_
        have BK349 := n2_
        have GW349 := n3_
        have GE349 := n4_
        have NB341_349 := n5_
        have NB349_341 := n6_
        have NB347_349 := n7_
        have NB349_347 := n8_
        have HB := n9_
        clear n0_ n1_ n2_ n3_ n4_ n5_ n6_ n7_ n8_ n9_
        have hHeld : w26.cell? ⟨gb347, 0, none⟩ = some (.bool t342) ∧ w26.cell? ⟨gb347, 1, none⟩ = some (.int .i64 t343) ∧ w26.cell? ⟨gb347, 2, none⟩ = some (.int .i64 t344) ∧ w26.cell? ⟨gb347, 3, none⟩ = some (.string t345) := hS_
        refine norm_ (a' := ?_) ?_ ?_
        rotate_left
        ·simp only [putAll, Act.put, List.setIfInBounds_toArray, List.set_cons_zero, List.set_cons_succ]
         rfl
        refine one_ (i := 20) (N := none) #[true, true, true, true, true, true, true, true, true, true, true, true, true, true, true, true, true, true, true, true, true] rfl rfl (one_of HT_.out (by kernel_rfl)) (by decide) (fun K hK => ?_)
        have hs27 : w26.cell? ⟨gb349, 0, none⟩ = some (.int .i64 0) := (blk_cell BK349.out 0).trans rfl
        have hfs27 := blk_frozen BK349.out 0
        have hns27_0 := NB341_349.out
        have hns27_1 := NB347_349.out
        have hms27_0 := NB349_341.out
        have hms27_1 := NB349_347.out
        have hs28 : w26.cell? ⟨gb349, 1, none⟩ = some (.int .i64 0) := (blk_cell BK349.out 1).trans rfl
        have hfs28 := blk_frozen BK349.out 1
        have hns28_0 := NB341_349.out
        have hns28_1 := NB347_349.out
        have hms28_0 := NB349_341.out
        have hms28_1 := NB349_347.out
        have hs29 : w26.cell? ⟨gb349, 2, none⟩ = some (.int .i64 0) := (blk_cell BK349.out 2).trans rfl
        have hfs29 := blk_frozen BK349.out 2
        have hns29_0 := NB341_349.out
        have hns29_1 := NB347_349.out
        have hms29_0 := NB349_341.out
        have hms29_1 := NB349_347.out
        have hs30 : w26.cell? ⟨gb349, 3, none⟩ = some (.int .i64 0) := (blk_cell BK349.out 3).trans rfl
        have hfs30 := blk_frozen BK349.out 3
        have hns30_0 := NB341_349.out
        have hns30_1 := NB347_349.out
        have hms30_0 := NB349_341.out
        have hms30_1 := NB349_347.out
        have hs31 : w26.cell? ⟨gb349, 4, none⟩ = some (.int .i64 0) := (blk_cell BK349.out 4).trans rfl
        have hfs31 := blk_frozen BK349.out 4
        have hns31_0 := NB341_349.out
        have hns31_1 := NB347_349.out
        have hms31_0 := NB349_341.out
        have hms31_1 := NB349_347.out
        have hs32 : w26.cell? ⟨gb349, 5, none⟩ = some (.string (⟨#[]⟩ : ByteArray)) := (blk_cell BK349.out 5).trans rfl
        have hfs32 := blk_frozen BK349.out 5
        have hns32_0 := NB341_349.out
        have hns32_1 := NB347_349.out
        have hms32_0 := NB349_341.out
        have hms32_1 := NB349_347.out
        refine skip_ (w1 := ?_) (by rfl) rfl ?_ ?_
        rotate_left
        ·go_simp
         rfl
        refine hK.out _ _ ⟨((cell_far (p := ⟨gb349, _, none⟩) NB347_349.out _).trans (((cell_far (p := ⟨gb349, _, none⟩) NB347_349.out _).trans (((cell_far (p := ⟨gb349, _, none⟩) NB347_349.out _).trans (((cell_far (p := ⟨gb349, _, none⟩) NB347_349.out _).trans (((cell_far (p := ⟨gb349, _, none⟩) NB347_349.out _).trans (((cell_far (p := ⟨gb349, _, none⟩) NB347_349.out _).trans (hHeld.1)))))))))))), ((cell_far (p := ⟨gb349, _, none⟩) NB347_349.out _).trans (((cell_far (p := ⟨gb349, _, none⟩) NB347_349.out _).trans (((cell_far (p := ⟨gb349, _, none⟩) NB347_349.out _).trans (((cell_far (p := ⟨gb349, _, none⟩) NB347_349.out _).trans (((cell_far (p := ⟨gb349, _, none⟩) NB347_349.out _).trans (((cell_far (p := ⟨gb349, _, none⟩) NB347_349.out _).trans (hHeld.2.1)))))))))))), ((cell_far (p := ⟨gb349, _, none⟩) NB347_349.out _).trans (((cell_far (p := ⟨gb349, _, none⟩) NB347_349.out _).trans (((cell_far (p := ⟨gb349, _, none⟩) NB347_349.out _).trans (((cell_far (p := ⟨gb349, _, none⟩) NB347_349.out _).trans (((cell_far (p := ⟨gb349, _, none⟩) NB347_349.out _).trans (((cell_far (p := ⟨gb349, _, none⟩) NB347_349.out _).trans (hHeld.2.2.1)))))))))))), ((cell_far (p := ⟨gb349, _, none⟩) NB347_349.out _).trans (((cell_far (p := ⟨gb349, _, none⟩) NB347_349.out _).trans (((cell_far (p := ⟨gb349, _, none⟩) NB347_349.out _).trans (((cell_far (p := ⟨gb349, _, none⟩) NB347_349.out _).trans (((cell_far (p := ⟨gb349, _, none⟩) NB347_349.out _).trans (((cell_far (p := ⟨gb349, _, none⟩) NB347_349.out _).trans (hHeld.2.2.2))))))))))))⟩ (fun hHeld => ?_)
        clear hK K
        refine done_ (done_of HT_.out (by kernel_rfl)) ?_
        have hnb33 := NB349_341.out
        have hnc33 := NB341_349.out
        have hnb34 := NB349_347.out
        have hnc34 := NB347_349.out
        have hcz35_0 : w26.cell? ⟨gb349, 0, none⟩ = some (.int .i64 0) := (blk_cell BK349.out 0).trans rfl
        have hcz35_1 : w26.cell? ⟨gb349, 1, none⟩ = some (.int .i64 0) := (blk_cell BK349.out 1).trans rfl
        have hcz35_2 : w26.cell? ⟨gb349, 2, none⟩ = some (.int .i64 0) := (blk_cell BK349.out 2).trans rfl
        have hcz35_3 : w26.cell? ⟨gb349, 3, none⟩ = some (.int .i64 0) := (blk_cell BK349.out 3).trans rfl
        have hcz35_4 : w26.cell? ⟨gb349, 4, none⟩ = some (.int .i64 0) := (blk_cell BK349.out 4).trans rfl
        have hcz35_5 : w26.cell? ⟨gb349, 5, none⟩ = some (.string (⟨#[]⟩ : ByteArray)) := (blk_cell BK349.out 5).trans rfl
        have hfz35_0 := blk_frozen BK349.out 0
        have hfz35_1 := blk_frozen BK349.out 1
        have hfz35_2 := blk_frozen BK349.out 2
        have hfz35_3 := blk_frozen BK349.out 3
        have hfz35_4 := blk_frozen BK349.out 4
        have hfz35_5 := blk_frozen BK349.out 5
        try go_wp2_with (first | ((with_reducible refine gate_callee (f := 22) rfl ?_); refine goesL_ (some 47) rfl rfl Tryd.func22 (by kernel_rfl) rfl #[.agg #[.int .i64 t343, .int .i64 t344, .int .i64 (wrap64 (bt t345 1)), .int .i64 (wrap64 (bt t345 2)), .int .i64 t348, .string (t345.extract 7 t345.size)]] rfl gl_ ?_; (with_reducible refine (spec_RepPut.calls kj2 t343 t344 (wrap64 (bt t345 1)) (wrap64 (bt t345 2)) t348 (t345.extract 7 t345.size) t350 _ A22.out).mono ?_); rintro e w36 ⟨rfl, hb⟩; refine ⟨_, rfl, ?_⟩; have n0_ := m_ (blk_below (g := gb341) (o := .cells #[.int .i64 0, .int .i64 0, .int .i64 0, .int .i64 0, .int .i64 0, .string (⟨#[]⟩ : ByteArray)] 35 (0, 0)) (kF BK341.out NB341_349.out) hb); have n1_ := m_ (blk_below (g := gb347) (o := .cells #[.bool t342, .int .i64 t343, .int .i64 t344, .string t345] 23 (0, 0)) (kF BK347.out NB347_349.out) hb); have n2_ := m_ (blk_below (g := gb349) (o := .cells #[.int .i64 t343, .int .i64 t344, .int .i64 (wrap64 (bt t345 1)), .int .i64 (wrap64 (bt t345 2)), .int .i64 t348, .string (t345.extract 7 t345.size)] 35 (0, 0)) (kP BK349.out) hb); have n3_ := m_ (below_step (bN HB.out) hb); clear BK341; clear BK347; clear BK349; clear HB; have BK341 := n0_; have BK347 := n1_; have BK349 := n2_; have HB := n3_; clear n0_ n1_ n2_ n3_; (try clear hb); (try clear hb2); (try clear hk); (try clear hi); have hcz37_0 : w36.cell? ⟨gb349, 0, none⟩ = some (.int .i64 t343) := (blk_cell BK349.out 0).trans rfl; have hcz37_1 : w36.cell? ⟨gb349, 1, none⟩ = some (.int .i64 t344) := (blk_cell BK349.out 1).trans rfl; have hcz37_2 : w36.cell? ⟨gb349, 2, none⟩ = some (.int .i64 (wrap64 (bt t345 1))) := (blk_cell BK349.out 2).trans rfl; have hcz37_3 : w36.cell? ⟨gb349, 3, none⟩ = some (.int .i64 (wrap64 (bt t345 2))) := (blk_cell BK349.out 3).trans rfl; have hcz37_4 : w36.cell? ⟨gb349, 4, none⟩ = some (.int .i64 t348) := (blk_cell BK349.out 4).trans rfl; have hcz37_5 : w36.cell? ⟨gb349, 5, none⟩ = some (.string (t345.extract 7 t345.size)) := (blk_cell BK349.out 5).trans rfl; have hfz37_0 := blk_frozen BK349.out 0; have hfz37_1 := blk_frozen BK349.out 1; have hfz37_2 := blk_frozen BK349.out 2; have hfz37_3 := blk_frozen BK349.out 3; have hfz37_4 := blk_frozen BK349.out 4; have hfz37_5 := blk_frozen BK349.out 5; have hnb38 := NB341_347.out; have hnc38 := NB347_341.out; have hcz39_0 : w36.cell? ⟨gb341, 0, none⟩ = some (.int .i64 0) := (blk_cell BK341.out 0).trans rfl; have hcz39_1 : w36.cell? ⟨gb341, 1, none⟩ = some (.int .i64 0) := (blk_cell BK341.out 1).trans rfl; have hcz39_2 : w36.cell? ⟨gb341, 2, none⟩ = some (.int .i64 0) := (blk_cell BK341.out 2).trans rfl; have hcz39_3 : w36.cell? ⟨gb341, 3, none⟩ = some (.int .i64 0) := (blk_cell BK341.out 3).trans rfl; have hcz39_4 : w36.cell? ⟨gb341, 4, none⟩ = some (.int .i64 0) := (blk_cell BK341.out 4).trans rfl; have hcz39_5 : w36.cell? ⟨gb341, 5, none⟩ = some (.string (⟨#[]⟩ : ByteArray)) := (blk_cell BK341.out 5).trans rfl; have hfz39_0 := blk_frozen BK341.out 0; have hfz39_1 := blk_frozen BK341.out 1; have hfz39_2 := blk_frozen BK341.out 2; have hfz39_3 := blk_frozen BK341.out 3; have hfz39_4 := blk_frozen BK341.out 4; have hfz39_5 := blk_frozen BK341.out 5))
        refine bodyPost_ret (results_ct rfl _ _ gb341 35 #[.int .i64 t343, .int .i64 t344, .int .i64 (wrap64 (bt t345 1)), .int .i64 (wrap64 (bt t345 2)), .int .i64 t348, .string (t345.extract 7 t345.size)] (0, 0) _ rfl (kP BK341.out) Tryd.underlying35 rfl (by kernel_rfl)) rfl ?_
        exact ⟨by first | rfl | (simp [errW_none, errW_some] <;> rfl) | (simp [*, errW_none, errW_some] <;> rfl), by repeat (first | (with_reducible first | exact HB.out | apply below_alloc | apply pw_below_drewN | apply below_drew1 | refine below_set ?_ GE341.out | refine below_set ?_ GE347.out | refine below_set ?_ GE349.out) | exact HB.out)⟩
       ·rw [if_neg c23] at H
        have c23b0 : (t350.toList == a0.toList) = false := beq_eq_false_iff_ne.mpr c23
        have c23b1 : (t350.toList != a0.toList) = true := bne_iff_ne.mpr c23
        simp only [Option.some.injEq, Prod.mk.injEq] at H
        obtain ⟨rfl, rfl, rfl, rfl, rfl, rfl, rfl⟩ := H
        try go_wp2
        have n0_ := m_ (blk_drew BK341.out)
        have n1_ := m_ (blk_drew BK347.out)
        have n2_ := m_ (below_drew1 HB.out)
        clear BK341
        clear BK347
        clear HB
        have BK341 := n0_
        have BK347 := n1_
        have HB := n2_
        clear n0_ n1_ n2_
        have p17 : 0 ≤ (1 : Int) := (by omega)
        have q17 : 1 < t345.size := (by have : (1 : Int) < (t345.size : Int) := of_decide_eq_true (by first | (with_reducible assumption) | assumption); omega)
        have hx17 : ∀ h : 1 < t345.size, ((t345[1]'h).toNat : Int) = bt t345 1 := bt_at t345 1
        clear p17
        have qi17 : (1 < (t345.size : Int)) = True := eq_true (of_decide_eq_true (by first | (with_reducible assumption) | assumption))
        replace q17 := eq_true q17
        have p19 : 0 ≤ (2 : Int) := (by omega)
        have q19 : 2 < t345.size := (by have : (2 : Int) < (t345.size : Int) := of_decide_eq_true (by first | (with_reducible assumption) | assumption); omega)
        have hx19 : ∀ h : 2 < t345.size, ((t345[2]'h).toNat : Int) = bt t345 2 := bt_at t345 2
        clear p19
        have qi19 : (2 < (t345.size : Int)) = True := eq_true (of_decide_eq_true (by first | (with_reducible assumption) | assumption))
        replace q19 := eq_true q19
        refine start_ (n := 21) (S := fun w' => w'.cell? ⟨gb347, 0, none⟩ = some (.bool t342) ∧ w'.cell? ⟨gb347, 1, none⟩ = some (.int .i64 t343) ∧ w'.cell? ⟨gb347, 2, none⟩ = some (.int .i64 t344) ∧ w'.cell? ⟨gb347, 3, none⟩ = some (.string t345)) (ds := []) #[false, false, false, false, false, false, false, false, false, false, false, false, false, false, false, false, false, false, false, false, false] (by kernel_rfl) rfl rfl ⟨(blk_cell BK347.out 0).trans rfl, (blk_cell BK347.out 1).trans rfl, (blk_cell BK347.out 2).trans rfl, (blk_cell BK347.out 3).trans rfl⟩ (fun hHeld => ?_); refine with_tabW spec_RepGet.tab4 spec_RepGet.bits4 (fun HT_ HW_ => ?_)
        generalize wc.drew = w40 at BK341 BK347 HB hHeld ⊢
        refine pu 0 27 HT_ (h := ?_)
        refine pu 2 29 HT_ (h := ?_)
        refine pu 4 31 HT_ (h := ?_)
        refine pu 8 35 HT_ (h := ?_)
        refine pu 12 39 HT_ (h := ?_)
        refine pu 15 42 HT_ (h := ?_)
        refine take_ (i := 1) (N := some 28) (v := ?_) (a' := ?_) #[true, true, true, false, true, false, false, false, true, false, false, false, true, false, false, true, false, false, false, false, false] rfl rfl (take_ofW HT_.out HW_.out (by kernel_rfl)) (fun _ _ _ h => h) (Or.inl ⟨by rfl, ?_⟩) hHeld ?_ ?_
        rotate_left
        ·rintro w' ⟨s0, s1, s2, s3⟩
         go_simp
         with_reducible rfl
        rotate_left
        ·simp only [Act.put, List.setIfInBounds_toArray, List.set_cons_zero, List.set_cons_succ, i64_w, i32_w]
         rfl
        refine take_ (i := 3) (N := some 30) (v := ?_) (a' := ?_) #[true, true, true, true, true, false, false, false, true, false, false, false, true, false, false, true, false, false, false, false, false] rfl rfl (take_ofW HT_.out HW_.out (by kernel_rfl)) (fun _ _ _ h => h) (Or.inl ⟨by rfl, ?_⟩) hHeld ?_ ?_
        rotate_left
        ·rintro w' ⟨s0, s1, s2, s3⟩
         go_simp
         with_reducible rfl
        rotate_left
        ·simp only [Act.put, List.setIfInBounds_toArray, List.set_cons_zero, List.set_cons_succ, i64_w, i32_w]
         rfl
        refine take_ (i := 5) (N := some 32) (v := ?_) (a' := ?_) #[true, true, true, true, true, true, false, false, true, false, false, false, true, false, false, true, false, false, false, false, false] rfl rfl (take_ofW HT_.out HW_.out (by kernel_rfl)) (fun _ _ _ h => h) (Or.inl ⟨by rfl, ?_⟩) hHeld ?_ ?_
        rotate_left
        ·rintro w' ⟨s0, s1, s2, s3⟩
         go_simp
         with_reducible rfl
        rotate_left
        ·simp only [Act.put, List.setIfInBounds_toArray, List.set_cons_zero, List.set_cons_succ, i64_w, i32_w]
         rfl
        refine take_ (i := 6) (N := some 33) (v := ?_) (a' := ?_) #[true, true, true, true, true, true, true, false, true, false, false, false, true, false, false, true, false, false, false, false, false] rfl rfl (take_ofW HT_.out HW_.out (by kernel_rfl)) (fun _ _ _ h => h) (Or.inl ⟨by rfl, ?_⟩) hHeld ?_ ?_
        rotate_left
        ·rintro w' ⟨s0, s1, s2, s3⟩
         go_simp
         with_reducible rfl
        rotate_left
        ·simp only [Act.put, List.setIfInBounds_toArray, List.set_cons_zero, List.set_cons_succ, i64_w, i32_w]
         rfl
        refine pu 7 34 HT_ (h := ?_)
        refine take_ (i := 9) (N := some 36) (v := ?_) (a' := ?_) #[true, true, true, true, true, true, true, true, true, true, false, false, true, false, false, true, false, false, false, false, false] rfl rfl (take_ofW HT_.out HW_.out (by kernel_rfl)) (fun _ _ _ h => h) (Or.inl ⟨by rfl, ?_⟩) hHeld ?_ ?_
        rotate_left
        ·rintro w' ⟨s0, s1, s2, s3⟩
         go_simp
         with_reducible rfl
        rotate_left
        ·simp only [Act.put, List.setIfInBounds_toArray, List.set_cons_zero, List.set_cons_succ, i64_w, i32_w]
         rfl
        refine take_ (i := 10) (N := some 37) (v := ?_) (a' := ?_) #[true, true, true, true, true, true, true, true, true, true, true, false, true, false, false, true, false, false, false, false, false] rfl rfl (take_ofW HT_.out HW_.out (by kernel_rfl)) (fun _ _ _ h => h) (Or.inl ⟨by rfl, ?_⟩) hHeld ?_ ?_
        rotate_left
        ·rintro w' ⟨s0, s1, s2, s3⟩
         go_simp
         with_reducible rfl
        rotate_left
        ·simp only [Act.put, List.setIfInBounds_toArray, List.set_cons_zero, List.set_cons_succ, i64_w, i32_w]
         rfl
        refine pu 11 38 HT_ (h := ?_)
        refine take_ (i := 13) (N := some 40) (v := ?_) (a' := ?_) #[true, true, true, true, true, true, true, true, true, true, true, true, true, true, false, true, false, false, false, false, false] rfl rfl (take_ofW HT_.out HW_.out (by kernel_rfl)) (fun _ _ _ h => h) (Or.inl ⟨by rfl, ?_⟩) hHeld ?_ ?_
        rotate_left
        ·rintro w' ⟨s0, s1, s2, s3⟩
         go_simp
         with_reducible rfl
        rotate_left
        ·simp only [Act.put, List.setIfInBounds_toArray, List.set_cons_zero, List.set_cons_succ, i64_w, i32_w]
         rfl
        refine take_ (i := 16) (N := some 43) (v := ?_) (a' := ?_) #[true, true, true, true, true, true, true, true, true, true, true, true, true, true, false, true, true, false, false, false, false] rfl rfl (take_ofW HT_.out HW_.out (by kernel_rfl)) (fun _ _ _ h => h) (Or.inl ⟨by rfl, ?_⟩) hHeld ?_ ?_
        rotate_left
        ·rintro w' ⟨s0, s1, s2, s3⟩
         go_simp
         with_reducible rfl
        rotate_left
        ·simp only [Act.put, List.setIfInBounds_toArray, List.set_cons_zero, List.set_cons_succ, i64_w, i32_w]
         rfl
        refine pu 17 44 HT_ (h := ?_)
        refine join_ (σ := Nat) 1 #[true, true, true, true, true, true, true, true, true, true, true, true, true, true, true, true, true, true, true, true, false] (fun s_ => [(41, .int .i64 t348), (6, .pointer (some ⟨s_, 0, none⟩)), (45, .agg #[.int .i64 t343, .int .i64 t344, .int .i64 (wrap64 (bt t345 1)), .int .i64 (wrap64 (bt t345 2)), .int .i64 t348, .string (t345.extract 7 t345.size)])]) (fun s_ w' => (w'.cell? ⟨gb347, 0, none⟩ = some (.bool t342) ∧ w'.cell? ⟨gb347, 1, none⟩ = some (.int .i64 t343) ∧ w'.cell? ⟨gb347, 2, none⟩ = some (.int .i64 t344) ∧ w'.cell? ⟨gb347, 3, none⟩ = some (.string t345)) ∧ (w'.heap[gb341]? = some (.cells #[.int .i64 0, .int .i64 0, .int .i64 0, .int .i64 0, .int .i64 0, .string (⟨#[]⟩ : ByteArray)] 35 (0, 0))) ∧ (w'.heap[gb347]? = some (.cells #[.bool t342, .int .i64 t343, .int .i64 t344, .string t345] 23 (0, 0))) ∧ (w'.heap[s_]? = some (.cells #[.int .i64 0, .int .i64 0, .int .i64 0, .int .i64 0, .int .i64 0, .string (⟨#[]⟩ : ByteArray)] 35 (0, 0))) ∧ (w.heap.size ≤ s_) ∧ (w.heap.size ≤ s_) ∧ (gb341 ≠ s_) ∧ (s_ ≠ gb341) ∧ (gb347 ≠ s_) ∧ (s_ ≠ gb347) ∧ (Below w.heap.size w w')) ?_ ?_
        rotate_left
        ·intro hCont
         refine two_ (i := 14) (j := 19) (Ni := some 41) (Nj := some 6) #[true, true, true, true, true, true, true, true, true, true, true, true, true, true, true, true, true, true, false, false, false] #[true, true, true, true, true, true, true, true, true, true, true, true, true, true, false, true, true, true, false, true, false] rfl rfl rfl rfl (two_of HT_.out (by kernel_rfl)) (by decide) (by decide) (fun K hK => ?_) (fun K hK => ?_)
         ·skip
          refine goes_ Tryd.func32 (by kernel_rfl) rfl #[.string t345, .int .i64 3, .int .i64 4] (by rfl) rfl rfl gl_ ?_
          with_reducible refine (spec_l1Get.calls kj2 t345 3 4 t348 _ A20.out).mono ?_
          rintro e w' ⟨rfl, ⟨nd, rfl⟩⟩
          refine ⟨_, rfl, ?_⟩
          refine hK.out _ _ ⟨(blk_cell BK347.out 0).trans rfl, (blk_cell BK347.out 1).trans rfl, (blk_cell BK347.out 2).trans rfl, (blk_cell BK347.out 3).trans rfl⟩ (fun hHeld => ?_)
          clear hK K
          refine norm_ (a' := ?_) ?_ ?_
          rotate_left
          ·show Act.put _ (some 41) _ = _
           simp only [Act.put, List.setIfInBounds_toArray, List.set_cons_zero, List.set_cons_succ, i64_w, i32_w]
           rfl
          refine pu 18 45 HT_ (h := ?_)
          refine one_ (i := 19) (N := some 6) #[true, true, true, true, true, true, true, true, true, true, true, true, true, true, true, true, true, true, true, true, false] rfl rfl (one_of HT_.out (by kernel_rfl)) (by decide) (fun K hK => ?_)
          refine box_step ?hg (N := 6) ?hd (cs := #[.int .i64 0, .int .i64 0, .int .i64 0, .int .i64 0, .int .i64 0, .string (⟨#[]⟩ : ByteArray)]) (t := 35) ?hr ?_; (case hd => rfl); (case hg => rfl); (case hr => first | (go_simp; done) | (go_simp; rfl))
          intro gb349 hg w41 hbox hb
          have n0_ := m_ (blk_below (g := gb341) (o := .cells #[.int .i64 0, .int .i64 0, .int .i64 0, .int .i64 0, .int .i64 0, .string (⟨#[]⟩ : ByteArray)] 35 (0, 0)) (kN BK341.out) hb)
          have n1_ := m_ (blk_below (kN BK347.out) hb)
          have n2_ := m_ (below_step (bN HB.out) hb)
          have n3_ := m_ (hbox)
          have n4_ := m_ ((by rw [hg]; exact (below_size (bN HB.out)) : w.heap.size ≤ gb349))
          have n5_ := m_ ((by rw [hg]; exact (below_size (bN HB.out)) : w.heap.size ≤ gb349))
          have n6_ := m_ ((by rw [hg]; exact Nat.ne_of_lt (blk_lt (g := gb341) (o := .cells #[.int .i64 0, .int .i64 0, .int .i64 0, .int .i64 0, .int .i64 0, .string (⟨#[]⟩ : ByteArray)] 35 (0, 0)) (kN BK341.out)) : gb341 ≠ gb349))
          have n7_ := m_ ((by rw [hg]; exact Nat.ne_of_gt (blk_lt (g := gb341) (o := .cells #[.int .i64 0, .int .i64 0, .int .i64 0, .int .i64 0, .int .i64 0, .string (⟨#[]⟩ : ByteArray)] 35 (0, 0)) (kN BK341.out)) : gb349 ≠ gb341))
          have n8_ := m_ ((by rw [hg]; exact Nat.ne_of_lt (blk_lt (g := gb347) (o := .cells #[.bool t342, .int .i64 t343, .int .i64 t344, .string t345] 23 (0, 0)) (kN BK347.out)) : gb347 ≠ gb349))
          have n9_ := m_ ((by rw [hg]; exact Nat.ne_of_gt (blk_lt (g := gb347) (o := .cells #[.bool t342, .int .i64 t343, .int .i64 t344, .string t345] 23 (0, 0)) (kN BK347.out)) : gb349 ≠ gb347))
          clear BK341
          clear BK347
          clear HB
          have BK341 := n0_
          have BK347 := n1_
          have HB := n2_
          have BK349 := n3_
          have GW349 := n4_
          have GE349 := n5_
          have NB341_349 := n6_
          have NB349_341 := n7_
          have NB347_349 := n8_
          have NB349_347 := n9_
          clear n0_ n1_ n2_ n3_ n4_ n5_ n6_ n7_ n8_ n9_
          clear hb hbox hg
          refine hK.out _ _ ⟨(blk_cell BK347.out 0).trans rfl, (blk_cell BK347.out 1).trans rfl, (blk_cell BK347.out 2).trans rfl, (blk_cell BK347.out 3).trans rfl⟩ (fun hHeld => ?_)
          clear hK K
          refine norm_ (a' := ?_) ?_ ?_
          rotate_left
          ·show Act.put _ (some 6) _ = _
           simp only [Act.put, List.setIfInBounds_toArray, List.set_cons_zero, List.set_cons_succ, i64_w, i32_w]
           rfl
          exact norm_ (by simp only [putAll, Act.put, List.setIfInBounds_toArray, List.set_cons_zero, List.set_cons_succ]) (hCont (gb349) _ ⟨hHeld, (kN BK341.out), (kN BK347.out), (kN BK349.out), GW349.out, GE349.out, NB341_349.out, NB349_341.out, NB347_349.out, NB349_347.out, (bN HB.out)⟩)
         ·skip
          refine box_step ?hg (N := 6) ?hd (cs := #[.int .i64 0, .int .i64 0, .int .i64 0, .int .i64 0, .int .i64 0, .string (⟨#[]⟩ : ByteArray)]) (t := 35) ?hr ?_; (case hd => rfl); (case hg => rfl); (case hr => first | (go_simp; done) | (go_simp; rfl))
          intro gb349 hg w41 hbox hb
          have n0_ := m_ (blk_below (g := gb341) (o := .cells #[.int .i64 0, .int .i64 0, .int .i64 0, .int .i64 0, .int .i64 0, .string (⟨#[]⟩ : ByteArray)] 35 (0, 0)) (kN BK341.out) hb)
          have n1_ := m_ (blk_below (kN BK347.out) hb)
          have n2_ := m_ (below_step (bN HB.out) hb)
          have n3_ := m_ (hbox)
          have n4_ := m_ ((by rw [hg]; exact (below_size (bN HB.out)) : w.heap.size ≤ gb349))
          have n5_ := m_ ((by rw [hg]; exact (below_size (bN HB.out)) : w.heap.size ≤ gb349))
          have n6_ := m_ ((by rw [hg]; exact Nat.ne_of_lt (blk_lt (g := gb341) (o := .cells #[.int .i64 0, .int .i64 0, .int .i64 0, .int .i64 0, .int .i64 0, .string (⟨#[]⟩ : ByteArray)] 35 (0, 0)) (kN BK341.out)) : gb341 ≠ gb349))
          have n7_ := m_ ((by rw [hg]; exact Nat.ne_of_gt (blk_lt (g := gb341) (o := .cells #[.int .i64 0, .int .i64 0, .int .i64 0, .int .i64 0, .int .i64 0, .string (⟨#[]⟩ : ByteArray)] 35 (0, 0)) (kN BK341.out)) : gb349 ≠ gb341))
          have n8_ := m_ ((by rw [hg]; exact Nat.ne_of_lt (blk_lt (g := gb347) (o := .cells #[.bool t342, .int .i64 t343, .int .i64 t344, .string t345] 23 (0, 0)) (kN BK347.out)) : gb347 ≠ gb349))
          have n9_ := m_ ((by rw [hg]; exact Nat.ne_of_gt (blk_lt (g := gb347) (o := .cells #[.bool t342, .int .i64 t343, .int .i64 t344, .string t345] 23 (0, 0)) (kN BK347.out)) : gb349 ≠ gb347))
          clear BK341
          clear BK347
          clear HB
          have BK341 := n0_
          have BK347 := n1_
          have HB := n2_
          have BK349 := n3_
          have GW349 := n4_
          have GE349 := n5_
          have NB341_349 := n6_
          have NB349_341 := n7_
          have NB347_349 := n8_
          have NB349_347 := n9_
          clear n0_ n1_ n2_ n3_ n4_ n5_ n6_ n7_ n8_ n9_
          clear hb hbox hg
          refine hK.out _ _ ⟨(blk_cell BK347.out 0).trans rfl, (blk_cell BK347.out 1).trans rfl, (blk_cell BK347.out 2).trans rfl, (blk_cell BK347.out 3).trans rfl⟩ (fun hHeld => ?_)
          clear hK K
          refine norm_ (a' := ?_) ?_ ?_
          rotate_left
          ·show Act.put _ (some 6) _ = _
           simp only [Act.put, List.setIfInBounds_toArray, List.set_cons_zero, List.set_cons_succ, i64_w, i32_w]
           rfl
          refine one_ (i := 14) (N := some 41) #[true, true, true, true, true, true, true, true, true, true, true, true, true, true, true, true, true, true, false, true, false] rfl rfl (one_of HT_.out (by kernel_rfl)) (by decide) (fun K hK => ?_)
          refine goes_ Tryd.func32 (by kernel_rfl) rfl #[.string t345, .int .i64 3, .int .i64 4] (by rfl) rfl rfl gl_ ?_
          with_reducible refine (spec_l1Get.calls kj2 t345 3 4 t348 _ A20.out).mono ?_
          rintro e w' ⟨rfl, ⟨nd, rfl⟩⟩
          refine ⟨_, rfl, ?_⟩
          refine hK.out _ _ ⟨(blk_cell BK347.out 0).trans rfl, (blk_cell BK347.out 1).trans rfl, (blk_cell BK347.out 2).trans rfl, (blk_cell BK347.out 3).trans rfl⟩ (fun hHeld => ?_)
          clear hK K
          refine norm_ (a' := ?_) ?_ ?_
          rotate_left
          ·show Act.put _ (some 41) _ = _
           simp only [Act.put, List.setIfInBounds_toArray, List.set_cons_zero, List.set_cons_succ, i64_w, i32_w]
           rfl
          refine pu 18 45 HT_ (h := ?_)
          exact norm_ (by simp only [putAll, Act.put, List.setIfInBounds_toArray, List.set_cons_zero, List.set_cons_succ]) (hCont (gb349) _ ⟨hHeld, (kN BK341.out), (kN BK347.out), (kN BK349.out), GW349.out, GE349.out, NB341_349.out, NB349_341.out, NB347_349.out, NB349_347.out, (bN HB.out)⟩)
        rintro gb349 w42 ⟨hS_, h0_, h1_, h2_, h3_, h4_, h5_, h6_, h7_, h8_, h9_⟩
        have n0_ : Aside0 (w42.heap[gb341]? = some (.cells #[.int .i64 0, .int .i64 0, .int .i64 0, .int .i64 0, .int .i64 0, .string (⟨#[]⟩ : ByteArray)] 35 (0, 0))) := ⟨h0_⟩
        have n1_ : Aside0 (w42.heap[gb347]? = some (.cells #[.bool t342, .int .i64 t343, .int .i64 t344, .string t345] 23 (0, 0))) := ⟨h1_⟩
        have n2_ : Aside0 (w42.heap[gb349]? = some (.cells #[.int .i64 0, .int .i64 0, .int .i64 0, .int .i64 0, .int .i64 0, .string (⟨#[]⟩ : ByteArray)] 35 (0, 0))) := ⟨h2_⟩
        have n3_ : Aside0 (w.heap.size ≤ gb349) := ⟨h3_⟩
        have n4_ : Aside0 (w.heap.size ≤ gb349) := ⟨h4_⟩
        have n5_ : Aside0 (gb341 ≠ gb349) := ⟨h5_⟩
        have n6_ : Aside0 (gb349 ≠ gb341) := ⟨h6_⟩
        have n7_ : Aside0 (gb347 ≠ gb349) := ⟨h7_⟩
        have n8_ : Aside0 (gb349 ≠ gb347) := ⟨h8_⟩
        have n9_ : Aside0 (Below w.heap.size w w42) := ⟨h9_⟩
        clear BK341
        clear BK347
        clear HB
        clear h0_ h1_ h2_ h3_ h4_ h5_ h6_ h7_ h8_ h9_
        have BK341 := n0_
        have BK347 := n1_
        have BK349 := n2_
        have GW349 := n3_
        have GE349 := n4_
        have NB341_349 := n5_
        have NB349_341 := n6_
        have NB347_349 := n7_
        have NB349_347 := n8_
        have HB := n9_
        clear n0_ n1_ n2_ n3_ n4_ n5_ n6_ n7_ n8_ n9_
        have hHeld : w42.cell? ⟨gb347, 0, none⟩ = some (.bool t342) ∧ w42.cell? ⟨gb347, 1, none⟩ = some (.int .i64 t343) ∧ w42.cell? ⟨gb347, 2, none⟩ = some (.int .i64 t344) ∧ w42.cell? ⟨gb347, 3, none⟩ = some (.string t345) := hS_
        refine norm_ (a' := ?_) ?_ ?_
        rotate_left
        ·simp only [putAll, Act.put, List.setIfInBounds_toArray, List.set_cons_zero, List.set_cons_succ]
         rfl
        refine one_ (i := 20) (N := none) #[true, true, true, true, true, true, true, true, true, true, true, true, true, true, true, true, true, true, true, true, true] rfl rfl (one_of HT_.out (by kernel_rfl)) (by decide) (fun K hK => ?_)
        have hs43 : w42.cell? ⟨gb349, 0, none⟩ = some (.int .i64 0) := (blk_cell BK349.out 0).trans rfl
        have hfs43 := blk_frozen BK349.out 0
        have hns43_0 := NB341_349.out
        have hns43_1 := NB347_349.out
        have hms43_0 := NB349_341.out
        have hms43_1 := NB349_347.out
        have hs44 : w42.cell? ⟨gb349, 1, none⟩ = some (.int .i64 0) := (blk_cell BK349.out 1).trans rfl
        have hfs44 := blk_frozen BK349.out 1
        have hns44_0 := NB341_349.out
        have hns44_1 := NB347_349.out
        have hms44_0 := NB349_341.out
        have hms44_1 := NB349_347.out
        have hs45 : w42.cell? ⟨gb349, 2, none⟩ = some (.int .i64 0) := (blk_cell BK349.out 2).trans rfl
        have hfs45 := blk_frozen BK349.out 2
        have hns45_0 := NB341_349.out
        have hns45_1 := NB347_349.out
        have hms45_0 := NB349_341.out
        have hms45_1 := NB349_347.out
        have hs46 : w42.cell? ⟨gb349, 3, none⟩ = some (.int .i64 0) := (blk_cell BK349.out 3).trans rfl
        have hfs46 := blk_frozen BK349.out 3
        have hns46_0 := NB341_349.out
        have hns46_1 := NB347_349.out
        have hms46_0 := NB349_341.out
        have hms46_1 := NB349_347.out
        have hs47 : w42.cell? ⟨gb349, 4, none⟩ = some (.int .i64 0) := (blk_cell BK349.out 4).trans rfl
        have hfs47 := blk_frozen BK349.out 4
        have hns47_0 := NB341_349.out
        have hns47_1 := NB347_349.out
        have hms47_0 := NB349_341.out
        have hms47_1 := NB349_347.out
        have hs48 : w42.cell? ⟨gb349, 5, none⟩ = some (.string (⟨#[]⟩ : ByteArray)) := (blk_cell BK349.out 5).trans rfl
        have hfs48 := blk_frozen BK349.out 5
        have hns48_0 := NB341_349.out
        have hns48_1 := NB347_349.out
        have hms48_0 := NB349_341.out
        have hms48_1 := NB349_347.out
        refine skip_ (w1 := ?_) (by rfl) rfl ?_ ?_
        rotate_left
        ·go_simp
         rfl
        refine hK.out _ _ ⟨((cell_far (p := ⟨gb349, _, none⟩) NB347_349.out _).trans (((cell_far (p := ⟨gb349, _, none⟩) NB347_349.out _).trans (((cell_far (p := ⟨gb349, _, none⟩) NB347_349.out _).trans (((cell_far (p := ⟨gb349, _, none⟩) NB347_349.out _).trans (((cell_far (p := ⟨gb349, _, none⟩) NB347_349.out _).trans (((cell_far (p := ⟨gb349, _, none⟩) NB347_349.out _).trans (hHeld.1)))))))))))), ((cell_far (p := ⟨gb349, _, none⟩) NB347_349.out _).trans (((cell_far (p := ⟨gb349, _, none⟩) NB347_349.out _).trans (((cell_far (p := ⟨gb349, _, none⟩) NB347_349.out _).trans (((cell_far (p := ⟨gb349, _, none⟩) NB347_349.out _).trans (((cell_far (p := ⟨gb349, _, none⟩) NB347_349.out _).trans (((cell_far (p := ⟨gb349, _, none⟩) NB347_349.out _).trans (hHeld.2.1)))))))))))), ((cell_far (p := ⟨gb349, _, none⟩) NB347_349.out _).trans (((cell_far (p := ⟨gb349, _, none⟩) NB347_349.out _).trans (((cell_far (p := ⟨gb349, _, none⟩) NB347_349.out _).trans (((cell_far (p := ⟨gb349, _, none⟩) NB347_349.out _).trans (((cell_far (p := ⟨gb349, _, none⟩) NB347_349.out _).trans (((cell_far (p := ⟨gb349, _, none⟩) NB347_349.out _).trans (hHeld.2.2.1)))))))))))), ((cell_far (p := ⟨gb349, _, none⟩) NB347_349.out _).trans (((cell_far (p := ⟨gb349, _, none⟩) NB347_349.out _).trans (((cell_far (p := ⟨gb349, _, none⟩) NB347_349.out _).trans (((cell_far (p := ⟨gb349, _, none⟩) NB347_349.out _).trans (((cell_far (p := ⟨gb349, _, none⟩) NB347_349.out _).trans (((cell_far (p := ⟨gb349, _, none⟩) NB347_349.out _).trans (hHeld.2.2.2))))))))))))⟩ (fun hHeld => ?_)
        clear hK K
        refine done_ (done_of HT_.out (by kernel_rfl)) ?_
        have hnb49 := NB349_341.out
        have hnc49 := NB341_349.out
        have hnb50 := NB349_347.out
        have hnc50 := NB347_349.out
        have hcz51_0 : w42.cell? ⟨gb349, 0, none⟩ = some (.int .i64 0) := (blk_cell BK349.out 0).trans rfl
        have hcz51_1 : w42.cell? ⟨gb349, 1, none⟩ = some (.int .i64 0) := (blk_cell BK349.out 1).trans rfl
        have hcz51_2 : w42.cell? ⟨gb349, 2, none⟩ = some (.int .i64 0) := (blk_cell BK349.out 2).trans rfl
        have hcz51_3 : w42.cell? ⟨gb349, 3, none⟩ = some (.int .i64 0) := (blk_cell BK349.out 3).trans rfl
        have hcz51_4 : w42.cell? ⟨gb349, 4, none⟩ = some (.int .i64 0) := (blk_cell BK349.out 4).trans rfl
        have hcz51_5 : w42.cell? ⟨gb349, 5, none⟩ = some (.string (⟨#[]⟩ : ByteArray)) := (blk_cell BK349.out 5).trans rfl
        have hfz51_0 := blk_frozen BK349.out 0
        have hfz51_1 := blk_frozen BK349.out 1
        have hfz51_2 := blk_frozen BK349.out 2
        have hfz51_3 := blk_frozen BK349.out 3
        have hfz51_4 := blk_frozen BK349.out 4
        have hfz51_5 := blk_frozen BK349.out 5
        try go_wp2_with (first | ((with_reducible refine gate_callee (f := 22) rfl ?_); refine goesL_ (some 47) rfl rfl Tryd.func22 (by kernel_rfl) rfl #[.agg #[.int .i64 t343, .int .i64 t344, .int .i64 (wrap64 (bt t345 1)), .int .i64 (wrap64 (bt t345 2)), .int .i64 t348, .string (t345.extract 7 t345.size)]] rfl gl_ ?_; (with_reducible refine (spec_RepPut.calls kj2 t343 t344 (wrap64 (bt t345 1)) (wrap64 (bt t345 2)) t348 (t345.extract 7 t345.size) t350 _ A22.out).mono ?_); rintro e w52 ⟨rfl, hb⟩; refine ⟨_, rfl, ?_⟩; have n0_ := m_ (blk_below (g := gb341) (o := .cells #[.int .i64 0, .int .i64 0, .int .i64 0, .int .i64 0, .int .i64 0, .string (⟨#[]⟩ : ByteArray)] 35 (0, 0)) (kF BK341.out NB341_349.out) hb); have n1_ := m_ (blk_below (g := gb347) (o := .cells #[.bool t342, .int .i64 t343, .int .i64 t344, .string t345] 23 (0, 0)) (kF BK347.out NB347_349.out) hb); have n2_ := m_ (blk_below (g := gb349) (o := .cells #[.int .i64 t343, .int .i64 t344, .int .i64 (wrap64 (bt t345 1)), .int .i64 (wrap64 (bt t345 2)), .int .i64 t348, .string (t345.extract 7 t345.size)] 35 (0, 0)) (kP BK349.out) hb); have n3_ := m_ (below_step (bN HB.out) hb); clear BK341; clear BK347; clear BK349; clear HB; have BK341 := n0_; have BK347 := n1_; have BK349 := n2_; have HB := n3_; clear n0_ n1_ n2_ n3_; (try clear hb); (try clear hb2); (try clear hk); (try clear hi); have hnb53 := NB341_347.out; have hnc53 := NB347_341.out; have hcz54_0 : w52.cell? ⟨gb341, 0, none⟩ = some (.int .i64 0) := (blk_cell BK341.out 0).trans rfl; have hcz54_1 : w52.cell? ⟨gb341, 1, none⟩ = some (.int .i64 0) := (blk_cell BK341.out 1).trans rfl; have hcz54_2 : w52.cell? ⟨gb341, 2, none⟩ = some (.int .i64 0) := (blk_cell BK341.out 2).trans rfl; have hcz54_3 : w52.cell? ⟨gb341, 3, none⟩ = some (.int .i64 0) := (blk_cell BK341.out 3).trans rfl; have hcz54_4 : w52.cell? ⟨gb341, 4, none⟩ = some (.int .i64 0) := (blk_cell BK341.out 4).trans rfl; have hcz54_5 : w52.cell? ⟨gb341, 5, none⟩ = some (.string (⟨#[]⟩ : ByteArray)) := (blk_cell BK341.out 5).trans rfl; have hfz54_0 := blk_frozen BK341.out 0; have hfz54_1 := blk_frozen BK341.out 1; have hfz54_2 := blk_frozen BK341.out 2; have hfz54_3 := blk_frozen BK341.out 3; have hfz54_4 := blk_frozen BK341.out 4; have hfz54_5 := blk_frozen BK341.out 5))
        refine bodyPost_ret (results_ct rfl _ _ gb341 35 #[.int .i64 0, .int .i64 0, .int .i64 0, .int .i64 0, .int .i64 0, .string (⟨#[]⟩ : ByteArray)] (0, 0) _ rfl (kP BK341.out) Tryd.underlying35 rfl (by kernel_rfl)) rfl ?_
        exact ⟨by first | rfl | (simp [errW_none, errW_some] <;> rfl) | (simp [*, errW_none, errW_some] <;> rfl), by repeat (first | (with_reducible first | exact HB.out | apply below_alloc | apply pw_below_drewN | apply below_drew1 | refine below_set ?_ GE341.out | refine below_set ?_ GE347.out | refine below_set ?_ GE349.out) | exact HB.out)⟩
      ·rw [if_neg c21] at H
       exact absurd H (by simp)
     ·rw [if_neg c18] at H
      exact absurd H (by simp)
    ·rw [if_neg c16] at H
     exact absurd H (by simp)

end Go.Proofs.YtllchgipnfdneaaDoor.P
