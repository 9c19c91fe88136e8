/- The machine side of these statements, function by function: what each Go function answers (as a Lean function), and that it does. Written by a program (mp.py) for this claim. -/
import Derived.Test.YtllchgipnfdneaaDoorPx0
import Derived.Test.YtllchgipnfdneaaDoorPx8
import Derived.Test.YtllchgipnfdneaaDoorPx14
namespace Go.Proofs.YtllchgipnfdneaaDoor.P
open Go.RowKit Go.Proofs.YtllchgipnfdneaaDoorW.PrintWords Go.Proofs.YtllchgipnfdneaaDoorW.PrintLast Go.Proofs.YtllchgipnfdneaaDoorW.PrintMore
attribute [local go_sem] max2_int min2_int max_two min_two max_three min_three max_four min_four   -- for this text's walks alone
set_option linter.unusedVariables false
set_option linter.unusedSimpArgs false

/-! ### spec_CmdGet: function 25 -/
mutual
def spec_CmdGet.j0 : Nat → ByteArray → Int → Bool → Bool → Int → Int → ByteArray → Option (Int × Int × Int × Int × Int × ByteArray × Int)
 | 0, _, _, _, _, _, _, _ => none
 | k + 1, x0, x5, x23, x542000, x542001, x542002, x542003 => if x23 = true then (some (0, 0, 0, 0, 0, (⟨#[]⟩ : ByteArray), 1)) else (if (x542003.size : Int) < 2 then (spec_CmdGet.j1 k true x542000 x542001 x542002 x542003) else (if 0 ≤ (wrap64 (x5 - 2)) then (if (wrap64 (x5 - 2)) ≤ (x0.size : Int) then ((spec_Crc16.f k (x0.extract 0 ((wrap64 (x5 - 2)) : Int).toNat)).bind fun t542 => ((spec_l1Get.f k x0 (wrap64 (x5 - 2)) 2).bind fun t543 => (spec_CmdGet.j1 k (t542 != t543) x542000 x542001 x542002 x542003))) else (none)) else (none)))
def spec_CmdGet.j1 : Nat → Bool → Bool → Int → Int → ByteArray → Option (Int × Int × Int × Int × Int × ByteArray × Int)
 | 0, _, _, _, _, _ => none
 | k + 1, x40, x542000, x542001, x542002, x542003 => if x40 = true then (some (0, 0, 0, 0, 0, (⟨#[]⟩ : ByteArray), 2)) else (if (x542003.size : Int) < 6 then (some (0, 0, 0, 0, 0, (⟨#[]⟩ : ByteArray), 3)) else (if 0 < (x542003.size : Int) then (if (bt x542003 0) = 47 then (if (wrap64 ((x542003.size : Int) - 6)) > 60 then (some (0, 0, 0, 0, 0, (⟨#[]⟩ : ByteArray), 3)) else (if 3 < (x542003.size : Int) then (if 1 < (x542003.size : Int) then (if 2 < (x542003.size : Int) then (if 4 ≤ (wrap64 ((x542003.size : Int) - 2)) then (if (wrap64 ((x542003.size : Int) - 2)) ≤ (x542003.size : Int) then (some (x542001, x542002, wrap64 (bt x542003 3), wrap64 (bt x542003 1), wrap64 (bt x542003 2), x542003.extract 4 ((wrap64 ((x542003.size : Int) - 2)) : Int).toNat, 0)) else (none)) else (none)) else (none)) else (none)) else (none))) else (some (0, 0, 0, 0, 0, (⟨#[]⟩ : ByteArray), 3))) else (none)))
end
def spec_CmdGet.f (k : Nat) (a0 : ByteArray) : Option (Int × Int × Int × Int × Int × ByteArray × Int) := (spec_PacketGet.f k a0 0).bind fun bt536 => (if bt536.2.2.2.2 = 0 then (spec_CmdGet.j0 k a0 bt536.2.2.2.2 true bt536.1 bt536.2.1 bt536.2.2.1 bt536.2.2.2.1) else (if bt536.2.2.2.2 = (a0.size : Int) then (spec_CmdGet.j0 k a0 bt536.2.2.2.2 (!bt536.1) bt536.1 bt536.2.1 bt536.2.2.1 bt536.2.2.2.1) else (spec_CmdGet.j0 k a0 bt536.2.2.2.2 true bt536.1 bt536.2.1 bt536.2.2.1 bt536.2.2.2.1)))
theorem spec_CmdGet.mono_l : ∀ k, (∀ y0 y1 y2 y3 y4 y5 y6, LeO (spec_CmdGet.j0 k y0 y1 y2 y3 y4 y5 y6) (spec_CmdGet.j0 (k + 1) y0 y1 y2 y3 y4 y5 y6)) ∧ (∀ y0 y1 y2 y3 y4, LeO (spec_CmdGet.j1 k y0 y1 y2 y3 y4) (spec_CmdGet.j1 (k + 1) y0 y1 y2 y3 y4))
 | 0 => ⟨fun _ _ _ _ _ _ _ r h => by simp [spec_CmdGet.j0] at h, fun _ _ _ _ _ r h => by simp [spec_CmdGet.j1] at h⟩
 | k + 1 => by
  obtain ⟨ih0, ih1⟩ := spec_CmdGet.mono_l k
  refine ⟨?_, ?_⟩
  ·intro y0 y1 y2 y3 y4 y5 y6
   unfold spec_CmdGet.j0
   repeat' first
   | (with_reducible exact ih0 _ _ _ _ _ _ _)
   | (with_reducible exact ih1 _ _ _ _ _)
   | (with_reducible exact spec_Crc16.mono _ _)
   | (with_reducible exact spec_PacketGet.mono _ _ _)
   | (with_reducible exact spec_l1Get.mono _ _ _ _)
   | (with_reducible exact LeO.refl _)
   | (with_reducible exact LeO.none _)
   | (with_reducible refine LeO.ite ?_ ?_)
   | (with_reducible refine LeO.bind ?_ (fun _ => ?_))
   | exact ih0 _ _ _ _ _ _ _
   | exact ih1 _ _ _ _ _
   | exact spec_Crc16.mono _ _
   | exact spec_PacketGet.mono _ _ _
   | exact spec_l1Get.mono _ _ _ _
   | exact LeO.none _
   | refine LeO.ite ?_ ?_
   | refine LeO.bind ?_ (fun _ => ?_)
  ·intro y0 y1 y2 y3 y4
   unfold spec_CmdGet.j1
   repeat' first
   | (with_reducible exact ih0 _ _ _ _ _ _ _)
   | (with_reducible exact ih1 _ _ _ _ _)
   | (with_reducible exact spec_Crc16.mono _ _)
   | (with_reducible exact spec_PacketGet.mono _ _ _)
   | (with_reducible exact spec_l1Get.mono _ _ _ _)
   | (with_reducible exact LeO.refl _)
   | (with_reducible exact LeO.none _)
   | (with_reducible refine LeO.ite ?_ ?_)
   | (with_reducible refine LeO.bind ?_ (fun _ => ?_))
   | exact ih0 _ _ _ _ _ _ _
   | exact ih1 _ _ _ _ _
   | exact spec_Crc16.mono _ _
   | exact spec_PacketGet.mono _ _ _
   | exact spec_l1Get.mono _ _ _ _
   | exact LeO.none _
   | refine LeO.ite ?_ ?_
   | refine LeO.bind ?_ (fun _ => ?_)
theorem spec_CmdGet.mono : ∀ a0 k, LeO (spec_CmdGet.f k a0) (spec_CmdGet.f (k + 1) a0) := by
 intro a0 k
 obtain ⟨ih0, ih1⟩ := spec_CmdGet.mono_l k
 unfold spec_CmdGet.f
 repeat' first
   | (with_reducible exact ih0 _ _ _ _ _ _ _)
   | (with_reducible exact ih1 _ _ _ _ _)
   | (with_reducible exact spec_Crc16.mono _ _)
   | (with_reducible exact spec_PacketGet.mono _ _ _)
   | (with_reducible exact spec_l1Get.mono _ _ _ _)
   | (with_reducible exact LeO.refl _)
   | (with_reducible exact LeO.none _)
   | (with_reducible refine LeO.ite ?_ ?_)
   | (with_reducible refine LeO.bind ?_ (fun _ => ?_))
   | exact ih0 _ _ _ _ _ _ _
   | exact ih1 _ _ _ _ _
   | exact spec_Crc16.mono _ _
   | exact spec_PacketGet.mono _ _ _
   | exact spec_l1Get.mono _ _ _ _
   | exact LeO.none _
   | refine LeO.ite ?_ ?_
   | refine LeO.bind ?_ (fun _ => ?_)
def spec_CmdGet.T8 : Bool × List (List Nat × List Nat) := (true, [([], []), ([0], [0]), ([], []), ([2], [2]), ([], []), ([4], [4]), ([5], [5]), ([6], [6]), ([], []), ([8], [8]), ([9], [9]), ([10], [10]), ([], []), ([12], [12]), ([13], [13]), ([14], [14]), ([], []), ([16], [16]), ([], []), ([18], [18]), ([19], [19]), ([20], [20]), ([17, 21], [17, 21]), ([1, 3, 7, 11, 15, 22], [1, 3, 7, 11, 15, 22]), ([23, 0, 1, 2, 3, 4, 5, 6, 7, 8, 9, 10, 11, 12, 13, 14, 15, 16, 17, 18, 19, 20, 21, 22, 23], [23]), ([24, 0, 1, 2, 3, 4, 5, 6, 7, 8, 9, 10, 11, 12, 13, 14, 15, 16, 17, 18, 19, 20, 21, 22, 23, 24], [])])
def spec_CmdGet.B8 : List Nat := [0, 1, 0, 4, 0, 16, 48, 112, 0, 256, 768, 1792, 0, 4096, 12288, 28672, 0, 65536, 0, 262144, 786432, 1835008, 4128768, 8388607, 16777215, 33554431]
theorem spec_CmdGet.tab8 : rtab .any (opsOf Tryd.f25 8) = spec_CmdGet.T8 := by kernel_rfl
theorem spec_CmdGet.bits8 : waitsOk spec_CmdGet.T8.2 spec_CmdGet.B8 = true := by kernel_rfl
set_option maxHeartbeats 8000000 in
set_option maxRecDepth 100000 in
theorem spec_CmdGet.calls (k : Nat) (a0 : ByteArray) (r1 : Int) (r2 : Int) (r3 : Int) (r4 : Int) (r5 : Int) (r6 : ByteArray) (r7 : Int) (w : World) (h : spec_CmdGet.f k a0 = some (r1, r2, r3, r4, r5, r6, r7)) :
  Calls Tryd.prog 25 #[.string a0] w fun e w' => e = .returned (.tuple #[.agg #[.int .i64 r1, .int .i64 r2, .int .i64 r3, .int .i64 r4, .int .i64 r5, .string r6], .int .i64 r7]) ∧ Below w.heap.size w w' := by
 have hu43 := Tryd.underlying43
 have hu23 := Tryd.underlying23
 have HB := m_ (Below.refl w.heap.size w)
 have H : ((spec_PacketGet.f k a0 0).bind fun bt536 => (if bt536.2.2.2.2 = 0 then (spec_CmdGet.j0 k a0 bt536.2.2.2.2 true bt536.1 bt536.2.1 bt536.2.2.1 bt536.2.2.2.1) else (if bt536.2.2.2.2 = (a0.size : Int) then (spec_CmdGet.j0 k a0 bt536.2.2.2.2 (!bt536.1) bt536.1 bt536.2.1 bt536.2.2.1 bt536.2.2.2.1) else (spec_CmdGet.j0 k a0 bt536.2.2.2.2 true bt536.1 bt536.2.1 bt536.2.2.1 bt536.2.2.2.1)))) = some (r1, r2, r3, r4, r5, r6, r7) := h
 clear h
 replace H := Option.bind_eq_some_iff.mp H
 obtain ⟨⟨t536, t537, t538, t539, t540⟩, A20, H⟩ := H
 replace H : (if t540 = 0 then (spec_CmdGet.j0 k a0 t540 true t536 t537 t538 t539) else (if t540 = (a0.size : Int) then (spec_CmdGet.j0 k a0 t540 (!t536) t536 t537 t538 t539) else (spec_CmdGet.j0 k a0 t540 true t536 t537 t538 t539))) = some (r1, r2, r3, r4, r5, r6, r7) := H
 have A2 := Aside0.mk A20
 clear A20
 have HC3 := Aside0.mk H
 clear H
 go_enter Tryd.func25, Tryd.ntmps25
 go_upto_region 2 with (first | ((with_reducible refine gate_dst (N := 2) rfl ?_); (try (refine gate_guard (by rfl) ?_; dsimp only)); refine box_event ?hg (N := 2) ?hd (cs := #[.int .i64 0, .int .i64 0, .int .i64 0, .int .i64 0, .int .i64 0, .string (⟨#[]⟩ : ByteArray)]) (t := 43) ?hr ?_; (case hd => rfl); (case hg => rfl); (case hr => first | (go_simp; done) | (go_simp; rfl)); intro gb535 hg w4 hbox hb; have n0_ := m_ (below_step (bN HB.out) hb); have n1_ := m_ (hbox); have n2_ := m_ ((by rw [hg]; exact (below_size (bN HB.out)) : w.heap.size ≤ gb535)); have n3_ := m_ ((by rw [hg]; exact (below_size (bN HB.out)) : w.heap.size ≤ gb535)); clear HB; have HB := n0_; have BK535 := n1_; have GW535 := n2_; have GE535 := n3_; clear n0_ n1_ n2_ n3_; clear hb hbox hg) | ((with_reducible refine gate_callee (f := 10) rfl ?_); refine goesL_ (some 8) rfl rfl Tryd.func10 (by kernel_rfl) rfl #[.string a0, .int .i64 0] rfl gl_ ?_; (with_reducible refine (spec_PacketGet.calls k a0 0 t536 t537 t538 t539 t540 _ A2.out).mono ?_); rintro e w5 ⟨rfl, hb⟩; refine ⟨_, rfl, ?_⟩; have n0_ := m_ (blk_below (g := gb535) (o := .cells #[.int .i64 0, .int .i64 0, .int .i64 0, .int .i64 0, .int .i64 0, .string (⟨#[]⟩ : ByteArray)] 43 (0, 0)) (kN BK535.out) hb); have n1_ := m_ (below_step (bN HB.out) hb); clear BK535; clear HB; have BK535 := n0_; have HB := n1_; clear n0_ n1_; (try clear hb); (try clear hb2); (try clear hk); (try clear hi)) | ((with_reducible refine gate_dst (N := 4) rfl ?_); (try (refine gate_guard (by rfl) ?_; dsimp only)); refine box_event ?hg (N := 4) ?hd (cs := #[.bool false, .int .i64 0, .int .i64 0, .string (⟨#[]⟩ : ByteArray)]) (t := 23) ?hr ?_; (case hd => rfl); (case hg => rfl); (case hr => first | (go_simp; done) | (go_simp; rfl)); intro gb541 hg w6 hbox hb; have n0_ := m_ (blk_below (g := gb535) (o := .cells #[.int .i64 0, .int .i64 0, .int .i64 0, .int .i64 0, .int .i64 0, .string (⟨#[]⟩ : ByteArray)] 43 (0, 0)) (kN BK535.out) hb); have n1_ := m_ (below_step (bN HB.out) hb); have n2_ := m_ (hbox); have n3_ := m_ ((by rw [hg]; exact (below_size (bN HB.out)) : w.heap.size ≤ gb541)); have n4_ := m_ ((by rw [hg]; exact (below_size (bN HB.out)) : w.heap.size ≤ gb541)); have n5_ := m_ ((by rw [hg]; exact Nat.ne_of_lt (blk_lt (g := gb535) (o := .cells #[.int .i64 0, .int .i64 0, .int .i64 0, .int .i64 0, .int .i64 0, .string (⟨#[]⟩ : ByteArray)] 43 (0, 0)) (kN BK535.out)) : gb535 ≠ gb541)); have n6_ := m_ ((by rw [hg]; exact Nat.ne_of_gt (blk_lt (g := gb535) (o := .cells #[.int .i64 0, .int .i64 0, .int .i64 0, .int .i64 0, .int .i64 0, .string (⟨#[]⟩ : ByteArray)] 43 (0, 0)) (kN BK535.out)) : gb541 ≠ gb535)); clear BK535; clear HB; have BK535 := n0_; have HB := n1_; have BK541 := n2_; have GW541 := n3_; have GE541 := n4_; have NB535_541 := n5_; have NB541_535 := n6_; clear n0_ n1_ n2_ n3_ n4_ n5_ n6_; clear hb hbox hg; have hnb7 := NB541_535.out; have hnc7 := NB535_541.out; have hcz8_0 : w6.cell? ⟨gb541, 0, none⟩ = some (.bool false) := (blk_cell BK541.out 0).trans rfl; have hcz8_1 : w6.cell? ⟨gb541, 1, none⟩ = some (.int .i64 0) := (blk_cell BK541.out 1).trans rfl; have hcz8_2 : w6.cell? ⟨gb541, 2, none⟩ = some (.int .i64 0) := (blk_cell BK541.out 2).trans rfl; have hcz8_3 : w6.cell? ⟨gb541, 3, none⟩ = some (.string (⟨#[]⟩ : ByteArray)) := (blk_cell BK541.out 3).trans rfl; have hfz8_0 := blk_frozen BK541.out 0; have hfz8_1 := blk_frozen BK541.out 1; have hfz8_2 := blk_frozen BK541.out 2; have hfz8_3 := blk_frozen BK541.out 3))
 (try simp only [Act.put, List.setIfInBounds_toArray, List.set_cons_zero, List.set_cons_succ])
 go_cut [23] (fun v23 wc => ∃ (kq : Nat) (x23_2 : Bool), v23 = .bool x23_2 ∧ Aside0 (spec_CmdGet.j0 kq a0 t540 x23_2 t536 t537 t538 t539 = some (r1, r2, r3, r4, r5, r6, r7)) ∧ Aside0 (kq ≤ k) ∧ Aside0 (wc.heap[gb535]? = some (.cells #[.int .i64 0, .int .i64 0, .int .i64 0, .int .i64 0, .int .i64 0, .string (⟨#[]⟩ : ByteArray)] 43 (0, 0))) ∧ Aside0 (wc.heap[gb541]? = some (.cells #[.bool t536, .int .i64 t537, .int .i64 t538, .string t539] 23 (0, 0))) ∧ Aside0 (Below w.heap.size w wc))
 case first =>
  have H := HC3.out
  clear HC3
  by_cases c9 : t540 = 0
  ·rw [if_pos c9] at H
   have c9b0 : (t540 == 0) = true := beq_iff_eq.mpr c9
   have c9b1 : (t540 != 0) = false := bne_eq_false_iff_eq.mpr c9
   clear c9
   (first | rw [c9b0] | (simp only [i64_w, i32_w]; rw [c9b0]) | skip)
   have H' := Aside0.mk H
   clear H
   go_wp2
   go_meet
   case rel => exact ⟨_, (true), (by first | rfl | (simp; done) | (simp [*]; done)), H', ⟨by first | omega | exact Nat.le_refl _⟩, ⟨kF BK535.out NB535_541.out⟩, ⟨kP BK541.out⟩, ⟨by repeat (first | (with_reducible first | exact HB.out | apply below_alloc | apply pw_below_drewN | apply below_drew1 | refine below_set ?_ GE535.out | refine below_set ?_ GE541.out) | exact HB.out)⟩⟩
  ·rw [if_neg c9] at H
   have c9b0 : (t540 == 0) = false := beq_eq_false_iff_ne.mpr c9
   have c9b1 : (t540 != 0) = true := bne_iff_ne.mpr c9
   (first | rw [c9b0] | (simp only [i64_w, i32_w]; rw [c9b0]) | skip)
   by_cases c10 : t540 = (a0.size : Int)
   ·rw [if_pos c10] at H
    have c10b0 : (t540 == (a0.size : Int)) = true := beq_iff_eq.mpr c10
    have c10b1 : (t540 != (a0.size : Int)) = false := bne_eq_false_iff_eq.mpr c10
    clear c10
    have H' := Aside0.mk H
    clear H
    have hnb11 := NB541_535.out
    have hnc11 := NB535_541.out
    have hcz12_0 : w6.cell? ⟨gb541, 0, none⟩ = some (.bool false) := (blk_cell BK541.out 0).trans rfl
    have hcz12_1 : w6.cell? ⟨gb541, 1, none⟩ = some (.int .i64 0) := (blk_cell BK541.out 1).trans rfl
    have hcz12_2 : w6.cell? ⟨gb541, 2, none⟩ = some (.int .i64 0) := (blk_cell BK541.out 2).trans rfl
    have hcz12_3 : w6.cell? ⟨gb541, 3, none⟩ = some (.string (⟨#[]⟩ : ByteArray)) := (blk_cell BK541.out 3).trans rfl
    have hfz12_0 := blk_frozen BK541.out 0
    have hfz12_1 := blk_frozen BK541.out 1
    have hfz12_2 := blk_frozen BK541.out 2
    have hfz12_3 := blk_frozen BK541.out 3
    go_wp2
    go_meet
    case rel => exact ⟨_, (!t536), (by first | rfl | (simp; done) | (simp [*]; done)), H', ⟨by first | omega | exact Nat.le_refl _⟩, ⟨kF BK535.out NB535_541.out⟩, ⟨kP BK541.out⟩, ⟨by repeat (first | (with_reducible first | exact HB.out | apply below_alloc | apply pw_below_drewN | apply below_drew1 | refine below_set ?_ GE535.out | refine below_set ?_ GE541.out) | exact HB.out)⟩⟩
   ·rw [if_neg c10] at H
    have c10b0 : (t540 == (a0.size : Int)) = false := beq_eq_false_iff_ne.mpr c10
    have c10b1 : (t540 != (a0.size : Int)) = true := bne_iff_ne.mpr c10
    have H' := Aside0.mk H
    clear H
    go_wp2
    go_meet
    case rel => exact ⟨_, (true), (by first | rfl | (simp; done) | (simp [*]; done)), H', ⟨by first | omega | exact Nat.le_refl _⟩, ⟨kF BK535.out NB535_541.out⟩, ⟨kP BK541.out⟩, ⟨by repeat (first | (with_reducible first | exact HB.out | apply below_alloc | apply pw_below_drewN | apply below_drew1 | refine below_set ?_ GE535.out | refine below_set ?_ GE541.out) | exact HB.out)⟩⟩
 case rest =>
  clear HC3
  try clear c1
  try clear c2
  try clear p2
  try clear c7
  try clear c9
  try clear c9b0
  try clear c9b1
  try clear c10
  try clear c10b0
  try clear c10b1
  try clear c11
  try clear hcz12_0
  try clear hcz12_1
  try clear hcz12_2
  try clear hcz12_3
  try clear hcz8_0
  try clear hcz8_1
  try clear hcz8_2
  try clear hcz8_3
  try clear hfz12_0
  try clear hfz12_1
  try clear hfz12_2
  try clear hfz12_3
  try clear hfz8_0
  try clear hfz8_1
  try clear hfz8_2
  try clear hfz8_3
  obtain ⟨kq, x23_2, rfl, HA, HJ2, BK535, BK541, HB⟩ := hcut
  cases kq with
  | zero => exact absurd HA.out (by simp [spec_CmdGet.j0])
  | succ kj2 =>
   have H := HA.out
   clear HA
   simp only [spec_CmdGet.j0] at H
   by_cases c13 : x23_2 = true
   ·subst c13
    have H1 : (some (0, 0, 0, 0, 0, (⟨#[]⟩ : ByteArray), 1)) = some (r1, r2, r3, r4, r5, r6, r7) := by rw [if_pos rfl] at H; exact H
    clear H
    have H := H1
    clear H1
    simp only [Option.some.injEq, Prod.mk.injEq] at H
    obtain ⟨rfl, rfl, rfl, rfl, rfl, rfl, rfl⟩ := H
    have hnb14 := NB535_541.out
    have hnc14 := NB541_535.out
    have hcz15_0 : wc.cell? ⟨gb535, 0, none⟩ = some (.int .i64 0) := (blk_cell BK535.out 0).trans rfl
    have hcz15_1 : wc.cell? ⟨gb535, 1, none⟩ = some (.int .i64 0) := (blk_cell BK535.out 1).trans rfl
    have hcz15_2 : wc.cell? ⟨gb535, 2, none⟩ = some (.int .i64 0) := (blk_cell BK535.out 2).trans rfl
    have hcz15_3 : wc.cell? ⟨gb535, 3, none⟩ = some (.int .i64 0) := (blk_cell BK535.out 3).trans rfl
    have hcz15_4 : wc.cell? ⟨gb535, 4, none⟩ = some (.int .i64 0) := (blk_cell BK535.out 4).trans rfl
    have hcz15_5 : wc.cell? ⟨gb535, 5, none⟩ = some (.string (⟨#[]⟩ : ByteArray)) := (blk_cell BK535.out 5).trans rfl
    have hfz15_0 := blk_frozen BK535.out 0
    have hfz15_1 := blk_frozen BK535.out 1
    have hfz15_2 := blk_frozen BK535.out 2
    have hfz15_3 := blk_frozen BK535.out 3
    have hfz15_4 := blk_frozen BK535.out 4
    have hfz15_5 := blk_frozen BK535.out 5
    go_wp2
    refine bodyPost_ret (results_ct rfl _ _ gb535 43 #[.int .i64 0, .int .i64 0, .int .i64 0, .int .i64 0, .int .i64 0, .string (⟨#[]⟩ : ByteArray)] (0, 0) _ rfl (kP BK535.out) Tryd.underlying43 rfl (by kernel_rfl)) rfl ?_
    exact ⟨by first | rfl | (simp [errW_none, errW_some] <;> rfl) | (simp [*, errW_none, errW_some] <;> rfl), by repeat (first | (with_reducible first | exact HB.out | apply below_alloc | apply pw_below_drewN | apply below_drew1 | refine below_set ?_ GE535.out | refine below_set ?_ GE541.out) | exact HB.out)⟩
   ·replace c13 := Bool.eq_false_iff.mpr c13
    subst c13
    have H1 : (if (t539.size : Int) < 2 then (spec_CmdGet.j1 kj2 true t536 t537 t538 t539) else (if 0 ≤ (wrap64 (t540 - 2)) then (if (wrap64 (t540 - 2)) ≤ (a0.size : Int) then ((spec_Crc16.f kj2 (a0.extract 0 ((wrap64 (t540 - 2)) : Int).toNat)).bind fun t542 => ((spec_l1Get.f kj2 a0 (wrap64 (t540 - 2)) 2).bind fun t543 => (spec_CmdGet.j1 kj2 (t542 != t543) t536 t537 t538 t539))) else (none)) else (none))) = some (r1, r2, r3, r4, r5, r6, r7) := by rw [if_neg (show ¬ (false = true) by decide)] at H; exact H
    clear H
    have H := H1
    clear H1
    have HC16 := Aside0.mk H
    clear H
    go_upto_region 4 with (fail)
    go_cut [40] (fun v40 wc => ∃ (kq : Nat) (x40_15 : Bool), v40 = .bool x40_15 ∧ Aside0 (spec_CmdGet.j1 kq x40_15 t536 t537 t538 t539 = some (r1, r2, r3, r4, r5, r6, r7)) ∧ Aside0 (kq ≤ kj2) ∧ Aside0 (wc.heap[gb535]? = some (.cells #[.int .i64 0, .int .i64 0, .int .i64 0, .int .i64 0, .int .i64 0, .string (⟨#[]⟩ : ByteArray)] 43 (0, 0))) ∧ Aside0 (wc.heap[gb541]? = some (.cells #[.bool t536, .int .i64 t537, .int .i64 t538, .string t539] 23 (0, 0))) ∧ Aside0 (Below w.heap.size w wc))
    case first =>
     have H := HC16.out
     clear HC16
     by_cases c17 : (t539.size : Int) < 2
     ·rw [if_pos c17] at H
      have c17b0 : decide ((t539.size : Int) < 2) = true := decide_eq_true c17
      have c17b1 : decide (t539.size < 2) = true := decide_eq_true (by omega)
      clear c17
      (first | rw [c17b0] | (simp only [i64_w, i32_w]; rw [c17b0]) | skip)
      have H' := Aside0.mk H
      clear H
      have hnb18 := NB541_535.out
      have hnc18 := NB535_541.out
      have hcz19_0 : wc.cell? ⟨gb541, 0, none⟩ = some (.bool t536) := (blk_cell BK541.out 0).trans rfl
      have hcz19_1 : wc.cell? ⟨gb541, 1, none⟩ = some (.int .i64 t537) := (blk_cell BK541.out 1).trans rfl
      have hcz19_2 : wc.cell? ⟨gb541, 2, none⟩ = some (.int .i64 t538) := (blk_cell BK541.out 2).trans rfl
      have hcz19_3 : wc.cell? ⟨gb541, 3, none⟩ = some (.string t539) := (blk_cell BK541.out 3).trans rfl
      have hfz19_0 := blk_frozen BK541.out 0
      have hfz19_1 := blk_frozen BK541.out 1
      have hfz19_2 := blk_frozen BK541.out 2
      have hfz19_3 := blk_frozen BK541.out 3
      go_wp2
      go_meet
      case rel => exact ⟨_, (true), (by first | rfl | (simp; done) | (simp [*]; done)), H', ⟨by have := HJ2.out; first | omega | exact Nat.le_refl _⟩, ⟨kN BK535.out⟩, ⟨kN BK541.out⟩, ⟨by repeat (first | (with_reducible first | exact HB.out | apply below_alloc | apply pw_below_drewN | apply below_drew1 | refine below_set ?_ GE535.out | refine below_set ?_ GE541.out) | exact HB.out)⟩⟩
     ·rw [if_neg c17] at H
      have c17b0 : decide ((t539.size : Int) < 2) = false := decide_eq_false c17
      have c17b1 : decide (t539.size < 2) = false := decide_eq_false (by omega)
      clear c17
      (first | rw [c17b0] | (simp only [i64_w, i32_w]; rw [c17b0]) | skip)
      obtain ⟨ji20, hji20⟩ : ∃ j_ : Int, (wrap64 (t540 - 2)) = j_ := ⟨_, rfl⟩
      replace H : (if 0 ≤ (ji20) then (if (ji20) ≤ (a0.size : Int) then ((spec_Crc16.f kj2 (a0.extract 0 ((ji20) : Int).toNat)).bind fun t542 => ((spec_l1Get.f kj2 a0 (ji20) 2).bind fun t543 => (spec_CmdGet.j1 kj2 (t542 != t543) t536 t537 t538 t539))) else (none)) else (none)) = some (r1, r2, r3, r4, r5, r6, r7) := by first | (rw [hji20] at H; exact H) | (simp only [hji20] at H ⊢; exact H)
      have hji20w : (IntKind.i64.wrap (t540 - 2)) = ji20 := (i64_w _).trans hji20
      by_cases c21 : 0 ≤ (ji20)
      ·rw [if_pos c21] at H
       have c21b0 := eq_true c21
       have c21b1 : decide (0 ≤ (ji20)) = true := decide_eq_true c21
       clear c21
       by_cases c22 : (ji20) ≤ (a0.size : Int)
       ·rw [if_pos c22] at H
        have c22b0 := eq_true c22
        have c22b1 : decide ((ji20) ≤ (a0.size : Int)) = true := decide_eq_true c22
        clear c22
        replace H := Option.bind_eq_some_iff.mp H
        obtain ⟨t542, A230, H⟩ := H
        replace H : ((spec_l1Get.f kj2 a0 (ji20) 2).bind fun t543 => (spec_CmdGet.j1 kj2 (t542 != t543) t536 t537 t538 t539)) = some (r1, r2, r3, r4, r5, r6, r7) := H
        have A23 := Aside0.mk A230
        clear A230
        replace H := Option.bind_eq_some_iff.mp H
        obtain ⟨t543, A240, H⟩ := H
        replace H : (spec_CmdGet.j1 kj2 (t542 != t543) t536 t537 t538 t539) = some (r1, r2, r3, r4, r5, r6, r7) := H
        have A24 := Aside0.mk A240
        clear A240
        have H' := Aside0.mk H
        clear H
        have hnb25 := NB541_535.out
        have hnc25 := NB535_541.out
        have hcz26_0 : wc.cell? ⟨gb541, 0, none⟩ = some (.bool t536) := (blk_cell BK541.out 0).trans rfl
        have hcz26_1 : wc.cell? ⟨gb541, 1, none⟩ = some (.int .i64 t537) := (blk_cell BK541.out 1).trans rfl
        have hcz26_2 : wc.cell? ⟨gb541, 2, none⟩ = some (.int .i64 t538) := (blk_cell BK541.out 2).trans rfl
        have hcz26_3 : wc.cell? ⟨gb541, 3, none⟩ = some (.string t539) := (blk_cell BK541.out 3).trans rfl
        have hfz26_0 := blk_frozen BK541.out 0
        have hfz26_1 := blk_frozen BK541.out 1
        have hfz26_2 := blk_frozen BK541.out 2
        have hfz26_3 := blk_frozen BK541.out 3
        go_wp2_with (first | (go_at_call 57; (with_reducible refine (spec_Crc16.calls kj2 (a0.extract 0 ((ji20) : Int).toNat) t542 _ A23.out).mono ?_); rintro e w' ⟨rfl, ⟨nd, rfl⟩⟩) | (go_at_call 32; (with_reducible refine (spec_l1Get.calls kj2 a0 ji20 2 t543 _ A24.out).mono ?_); rintro e w' ⟨rfl, ⟨nd, rfl⟩⟩))
        go_meet
        case rel => exact ⟨_, ((t542 != t543)), (by first | rfl | (simp; done) | (simp [*]; done)), H', ⟨by have := HJ2.out; first | omega | exact Nat.le_refl _⟩, ⟨kN BK535.out⟩, ⟨kN BK541.out⟩, ⟨by repeat (first | (with_reducible first | exact HB.out | apply below_alloc | apply pw_below_drewN | apply below_drew1 | refine below_set ?_ GE535.out | refine below_set ?_ GE541.out) | exact HB.out)⟩⟩
       ·rw [if_neg c22] at H
        exact absurd H (by simp)
      ·rw [if_neg c21] at H
       exact absurd H (by simp)
    case rest =>
     clear HC16
     try clear c1
     try clear c2
     try clear p2
     try clear p6
     try clear c7
     try clear c9
     try clear c9b0
     try clear c9b1
     try clear c10
     try clear c10b0
     try clear c10b1
     try clear c11
     try clear c13
     try clear c14
     try clear c16
     try clear c17
     try clear c17b0
     try clear c17b1
     try clear c18
     try clear c21
     try clear c21b0
     try clear c21b1
     try clear c22
     try clear c22b0
     try clear c22b1
     try clear c25
     try clear hcz12_0
     try clear hcz12_1
     try clear hcz12_2
     try clear hcz12_3
     try clear hcz15_0
     try clear hcz15_1
     try clear hcz15_2
     try clear hcz15_3
     try clear hcz15_4
     try clear hcz15_5
     try clear hcz19_0
     try clear hcz19_1
     try clear hcz19_2
     try clear hcz19_3
     try clear hcz26_0
     try clear hcz26_1
     try clear hcz26_2
     try clear hcz26_3
     try clear hcz8_0
     try clear hcz8_1
     try clear hcz8_2
     try clear hcz8_3
     try clear hfz12_0
     try clear hfz12_1
     try clear hfz12_2
     try clear hfz12_3
     try clear hfz15_0
     try clear hfz15_1
     try clear hfz15_2
     try clear hfz15_3
     try clear hfz15_4
     try clear hfz15_5
     try clear hfz19_0
     try clear hfz19_1
     try clear hfz19_2
     try clear hfz19_3
     try clear hfz26_0
     try clear hfz26_1
     try clear hfz26_2
     try clear hfz26_3
     try clear hfz8_0
     try clear hfz8_1
     try clear hfz8_2
     try clear hfz8_3
     try clear p2
     obtain ⟨kq, x40_15, rfl, HA, HJ15, BK535, BK541, HB⟩ := hcut
     cases kq with
     | zero => exact absurd HA.out (by simp [spec_CmdGet.j1])
     | succ kj15 =>
      have H := HA.out
      clear HA
      simp only [spec_CmdGet.j1] at H
      by_cases c27 : x40_15 = true
      ·subst c27
       have H1 : (some (0, 0, 0, 0, 0, (⟨#[]⟩ : ByteArray), 2)) = some (r1, r2, r3, r4, r5, r6, r7) := by rw [if_pos rfl] at H; exact H
       clear H
       have H := H1
       clear H1
       simp only [Option.some.injEq, Prod.mk.injEq] at H
       obtain ⟨rfl, rfl, rfl, rfl, rfl, rfl, rfl⟩ := H
       have hnb28 := NB535_541.out
       have hnc28 := NB541_535.out
       have hcz29_0 : wc.cell? ⟨gb535, 0, none⟩ = some (.int .i64 0) := (blk_cell BK535.out 0).trans rfl
       have hcz29_1 : wc.cell? ⟨gb535, 1, none⟩ = some (.int .i64 0) := (blk_cell BK535.out 1).trans rfl
       have hcz29_2 : wc.cell? ⟨gb535, 2, none⟩ = some (.int .i64 0) := (blk_cell BK535.out 2).trans rfl
       have hcz29_3 : wc.cell? ⟨gb535, 3, none⟩ = some (.int .i64 0) := (blk_cell BK535.out 3).trans rfl
       have hcz29_4 : wc.cell? ⟨gb535, 4, none⟩ = some (.int .i64 0) := (blk_cell BK535.out 4).trans rfl
       have hcz29_5 : wc.cell? ⟨gb535, 5, none⟩ = some (.string (⟨#[]⟩ : ByteArray)) := (blk_cell BK535.out 5).trans rfl
       have hfz29_0 := blk_frozen BK535.out 0
       have hfz29_1 := blk_frozen BK535.out 1
       have hfz29_2 := blk_frozen BK535.out 2
       have hfz29_3 := blk_frozen BK535.out 3
       have hfz29_4 := blk_frozen BK535.out 4
       have hfz29_5 := blk_frozen BK535.out 5
       go_wp2
       refine bodyPost_ret (results_ct rfl _ _ gb535 43 #[.int .i64 0, .int .i64 0, .int .i64 0, .int .i64 0, .int .i64 0, .string (⟨#[]⟩ : ByteArray)] (0, 0) _ rfl (kP BK535.out) Tryd.underlying43 rfl (by kernel_rfl)) rfl ?_
       exact ⟨by first | rfl | (simp [errW_none, errW_some] <;> rfl) | (simp [*, errW_none, errW_some] <;> rfl), by repeat (first | (with_reducible first | exact HB.out | apply below_alloc | apply pw_below_drewN | apply below_drew1 | refine below_set ?_ GE535.out | refine below_set ?_ GE541.out) | exact HB.out)⟩
      ·replace c27 := Bool.eq_false_iff.mpr c27
       subst c27
       have H1 : (if (t539.size : Int) < 6 then (some (0, 0, 0, 0, 0, (⟨#[]⟩ : ByteArray), 3)) else (if 0 < (t539.size : Int) then (if (bt t539 0) = 47 then (if (wrap64 ((t539.size : Int) - 6)) > 60 then (some (0, 0, 0, 0, 0, (⟨#[]⟩ : ByteArray), 3)) else (if 3 < (t539.size : Int) then (if 1 < (t539.size : Int) then (if 2 < (t539.size : Int) then (if 4 ≤ (wrap64 ((t539.size : Int) - 2)) then (if (wrap64 ((t539.size : Int) - 2)) ≤ (t539.size : Int) then (some (t537, t538, wrap64 (bt t539 3), wrap64 (bt t539 1), wrap64 (bt t539 2), t539.extract 4 ((wrap64 ((t539.size : Int) - 2)) : Int).toNat, 0)) else (none)) else (none)) else (none)) else (none)) else (none))) else (some (0, 0, 0, 0, 0, (⟨#[]⟩ : ByteArray), 3))) else (none))) = some (r1, r2, r3, r4, r5, r6, r7) := by rw [if_neg (show ¬ (false = true) by decide)] at H; exact H
       clear H
       have H := H1
       clear H1
       by_cases c30 : (t539.size : Int) < 6
       ·rw [if_pos c30] at H
        have c30b0 : decide ((t539.size : Int) < 6) = true := decide_eq_true c30
        have c30b1 : decide (t539.size < 6) = true := decide_eq_true (by omega)
        clear c30
        simp only [Option.some.injEq, Prod.mk.injEq] at H
        obtain ⟨rfl, rfl, rfl, rfl, rfl, rfl, rfl⟩ := H
        have hnb31 := NB541_535.out
        have hnc31 := NB535_541.out
        have hcz32_0 : wc.cell? ⟨gb541, 0, none⟩ = some (.bool t536) := (blk_cell BK541.out 0).trans rfl
        have hcz32_1 : wc.cell? ⟨gb541, 1, none⟩ = some (.int .i64 t537) := (blk_cell BK541.out 1).trans rfl
        have hcz32_2 : wc.cell? ⟨gb541, 2, none⟩ = some (.int .i64 t538) := (blk_cell BK541.out 2).trans rfl
        have hcz32_3 : wc.cell? ⟨gb541, 3, none⟩ = some (.string t539) := (blk_cell BK541.out 3).trans rfl
        have hfz32_0 := blk_frozen BK541.out 0
        have hfz32_1 := blk_frozen BK541.out 1
        have hfz32_2 := blk_frozen BK541.out 2
        have hfz32_3 := blk_frozen BK541.out 3
        have hcz33_0 : wc.cell? ⟨gb535, 0, none⟩ = some (.int .i64 0) := (blk_cell BK535.out 0).trans rfl
        have hcz33_1 : wc.cell? ⟨gb535, 1, none⟩ = some (.int .i64 0) := (blk_cell BK535.out 1).trans rfl
        have hcz33_2 : wc.cell? ⟨gb535, 2, none⟩ = some (.int .i64 0) := (blk_cell BK535.out 2).trans rfl
        have hcz33_3 : wc.cell? ⟨gb535, 3, none⟩ = some (.int .i64 0) := (blk_cell BK535.out 3).trans rfl
        have hcz33_4 : wc.cell? ⟨gb535, 4, none⟩ = some (.int .i64 0) := (blk_cell BK535.out 4).trans rfl
        have hcz33_5 : wc.cell? ⟨gb535, 5, none⟩ = some (.string (⟨#[]⟩ : ByteArray)) := (blk_cell BK535.out 5).trans rfl
        have hfz33_0 := blk_frozen BK535.out 0
        have hfz33_1 := blk_frozen BK535.out 1
        have hfz33_2 := blk_frozen BK535.out 2
        have hfz33_3 := blk_frozen BK535.out 3
        have hfz33_4 := blk_frozen BK535.out 4
        have hfz33_5 := blk_frozen BK535.out 5
        go_wp2
        refine bodyPost_ret (results_ct rfl _ _ gb535 43 #[.int .i64 0, .int .i64 0, .int .i64 0, .int .i64 0, .int .i64 0, .string (⟨#[]⟩ : ByteArray)] (0, 0) _ rfl (kP BK535.out) Tryd.underlying43 rfl (by kernel_rfl)) rfl ?_
        exact ⟨by first | rfl | (simp [errW_none, errW_some] <;> rfl) | (simp [*, errW_none, errW_some] <;> rfl), by repeat (first | (with_reducible first | exact HB.out | apply below_alloc | apply pw_below_drewN | apply below_drew1 | refine below_set ?_ GE535.out | refine below_set ?_ GE541.out) | exact HB.out)⟩
       ·rw [if_neg c30] at H
        have c30b0 : decide ((t539.size : Int) < 6) = false := decide_eq_false c30
        have c30b1 : decide (t539.size < 6) = false := decide_eq_false (by omega)
        clear c30
        by_cases c34 : 0 < (t539.size : Int)
        ·rw [if_pos c34] at H
         have c34b0 : decide (0 < (t539.size : Int)) = true := decide_eq_true c34
         have c34b1 : decide (0 < t539.size) = true := decide_eq_true (by omega)
         clear c34
         by_cases c36 : (bt t539 0) = 47
         ·rw [if_pos c36] at H
          have c36b0 : ((bt t539 0) == 47) = true := beq_iff_eq.mpr c36
          have c36b1 : ((bt t539 0) != 47) = false := bne_eq_false_iff_eq.mpr c36
          clear c36
          by_cases c37 : (wrap64 ((t539.size : Int) - 6)) > 60
          ·rw [if_pos c37] at H
           have c37b0 : decide (60 < (wrap64 ((t539.size : Int) - 6))) = true := decide_eq_true c37
           clear c37
           simp only [Option.some.injEq, Prod.mk.injEq] at H
           obtain ⟨rfl, rfl, rfl, rfl, rfl, rfl, rfl⟩ := H
           have hnb38 := NB541_535.out
           have hnc38 := NB535_541.out
           have hcz39_0 : wc.cell? ⟨gb541, 0, none⟩ = some (.bool t536) := (blk_cell BK541.out 0).trans rfl
           have hcz39_1 : wc.cell? ⟨gb541, 1, none⟩ = some (.int .i64 t537) := (blk_cell BK541.out 1).trans rfl
           have hcz39_2 : wc.cell? ⟨gb541, 2, none⟩ = some (.int .i64 t538) := (blk_cell BK541.out 2).trans rfl
           have hcz39_3 : wc.cell? ⟨gb541, 3, none⟩ = some (.string t539) := (blk_cell BK541.out 3).trans rfl
           have hfz39_0 := blk_frozen BK541.out 0
           have hfz39_1 := blk_frozen BK541.out 1
           have hfz39_2 := blk_frozen BK541.out 2
           have hfz39_3 := blk_frozen BK541.out 3
           have p35 : 0 ≤ (0 : Int) := (by omega)
           have q35 : 0 < t539.size := (by have : (0 : Int) < (t539.size : Int) := of_decide_eq_true (by first | (with_reducible assumption) | assumption); omega)
           have hx35 : ∀ h : 0 < t539.size, ((t539[0]'h).toNat : Int) = bt t539 0 := bt_at t539 0
           clear p35
           have qi35 : (0 < (t539.size : Int)) = True := eq_true (of_decide_eq_true (by first | (with_reducible assumption) | assumption))
           replace q35 := eq_true q35
           have hcz40_0 : wc.cell? ⟨gb535, 0, none⟩ = some (.int .i64 0) := (blk_cell BK535.out 0).trans rfl
           have hcz40_1 : wc.cell? ⟨gb535, 1, none⟩ = some (.int .i64 0) := (blk_cell BK535.out 1).trans rfl
           have hcz40_2 : wc.cell? ⟨gb535, 2, none⟩ = some (.int .i64 0) := (blk_cell BK535.out 2).trans rfl
           have hcz40_3 : wc.cell? ⟨gb535, 3, none⟩ = some (.int .i64 0) := (blk_cell BK535.out 3).trans rfl
           have hcz40_4 : wc.cell? ⟨gb535, 4, none⟩ = some (.int .i64 0) := (blk_cell BK535.out 4).trans rfl
           have hcz40_5 : wc.cell? ⟨gb535, 5, none⟩ = some (.string (⟨#[]⟩ : ByteArray)) := (blk_cell BK535.out 5).trans rfl
           have hfz40_0 := blk_frozen BK535.out 0
           have hfz40_1 := blk_frozen BK535.out 1
           have hfz40_2 := blk_frozen BK535.out 2
           have hfz40_3 := blk_frozen BK535.out 3
           have hfz40_4 := blk_frozen BK535.out 4
           have hfz40_5 := blk_frozen BK535.out 5
           go_wp2
           refine bodyPost_ret (results_ct rfl _ _ gb535 43 #[.int .i64 0, .int .i64 0, .int .i64 0, .int .i64 0, .int .i64 0, .string (⟨#[]⟩ : ByteArray)] (0, 0) _ rfl (kP BK535.out) Tryd.underlying43 rfl (by kernel_rfl)) rfl ?_
           exact ⟨by first | rfl | (simp [errW_none, errW_some] <;> rfl) | (simp [*, errW_none, errW_some] <;> rfl), by repeat (first | (with_reducible first | exact HB.out | apply below_alloc | apply pw_below_drewN | apply below_drew1 | refine below_set ?_ GE535.out | refine below_set ?_ GE541.out) | exact HB.out)⟩
          ·rw [if_neg c37] at H
           have c37b0 : decide (60 < (wrap64 ((t539.size : Int) - 6))) = false := decide_eq_false c37
           clear c37
           by_cases c41 : 3 < (t539.size : Int)
           ·rw [if_pos c41] at H
            have c41b0 : decide (3 < (t539.size : Int)) = true := decide_eq_true c41
            have c41b1 : decide (3 < t539.size) = true := decide_eq_true (by omega)
            clear c41
            by_cases c43 : 1 < (t539.size : Int)
            ·rw [if_pos c43] at H
             have c43b0 : decide (1 < (t539.size : Int)) = true := decide_eq_true c43
             have c43b1 : decide (1 < t539.size) = true := decide_eq_true (by omega)
             clear c43
             by_cases c45 : 2 < (t539.size : Int)
             ·rw [if_pos c45] at H
              have c45b0 : decide (2 < (t539.size : Int)) = true := decide_eq_true c45
              have c45b1 : decide (2 < t539.size) = true := decide_eq_true (by omega)
              clear c45
              by_cases c47 : 4 ≤ (wrap64 ((t539.size : Int) - 2))
              ·rw [if_pos c47] at H
               have c47b0 := eq_true c47
               have c47b1 : decide (4 ≤ (wrap64 ((t539.size : Int) - 2))) = true := decide_eq_true c47
               clear c47
               by_cases c48 : (wrap64 ((t539.size : Int) - 2)) ≤ (t539.size : Int)
               ·rw [if_pos c48] at H
                have c48b0 := eq_true c48
                have c48b1 : decide ((wrap64 ((t539.size : Int) - 2)) ≤ (t539.size : Int)) = true := decide_eq_true c48
                clear c48
                simp only [Option.some.injEq, Prod.mk.injEq] at H
                obtain ⟨rfl, rfl, rfl, rfl, rfl, rfl, rfl⟩ := H
                have hnb49 := NB541_535.out
                have hnc49 := NB535_541.out
                have hcz50_0 : wc.cell? ⟨gb541, 0, none⟩ = some (.bool t536) := (blk_cell BK541.out 0).trans rfl
                have hcz50_1 : wc.cell? ⟨gb541, 1, none⟩ = some (.int .i64 t537) := (blk_cell BK541.out 1).trans rfl
                have hcz50_2 : wc.cell? ⟨gb541, 2, none⟩ = some (.int .i64 t538) := (blk_cell BK541.out 2).trans rfl
                have hcz50_3 : wc.cell? ⟨gb541, 3, none⟩ = some (.string t539) := (blk_cell BK541.out 3).trans rfl
                have hfz50_0 := blk_frozen BK541.out 0
                have hfz50_1 := blk_frozen BK541.out 1
                have hfz50_2 := blk_frozen BK541.out 2
                have hfz50_3 := blk_frozen BK541.out 3
                have p35 : 0 ≤ (0 : Int) := (by omega)
                have q35 : 0 < t539.size := (by have : (0 : Int) < (t539.size : Int) := of_decide_eq_true (by first | (with_reducible assumption) | assumption); omega)
                have hx35 : ∀ h : 0 < t539.size, ((t539[0]'h).toNat : Int) = bt t539 0 := bt_at t539 0
                clear p35
                have qi35 : (0 < (t539.size : Int)) = True := eq_true (of_decide_eq_true (by first | (with_reducible assumption) | assumption))
                replace q35 := eq_true q35
                try go_wp2
                have n0_ := m_ (blk_drew BK535.out)
                have n1_ := m_ (blk_drew BK541.out)
                have n2_ := m_ (below_drew1 HB.out)
                clear BK535
                clear BK541
                clear HB
                have BK535 := n0_
                have BK541 := n1_
                have HB := n2_
                clear n0_ n1_ n2_
                have p42 : 0 ≤ (3 : Int) := (by omega)
                have q42 : 3 < t539.size := (by have : (3 : Int) < (t539.size : Int) := of_decide_eq_true (by first | (with_reducible assumption) | assumption); omega)
                have hx42 : ∀ h : 3 < t539.size, ((t539[3]'h).toNat : Int) = bt t539 3 := bt_at t539 3
                clear p42
                have qi42 : (3 < (t539.size : Int)) = True := eq_true (of_decide_eq_true (by first | (with_reducible assumption) | assumption))
                replace q42 := eq_true q42
                have p44 : 0 ≤ (1 : Int) := (by omega)
                have q44 : 1 < t539.size := (by have : (1 : Int) < (t539.size : Int) := of_decide_eq_true (by first | (with_reducible assumption) | assumption); omega)
                have hx44 : ∀ h : 1 < t539.size, ((t539[1]'h).toNat : Int) = bt t539 1 := bt_at t539 1
                clear p44
                have qi44 : (1 < (t539.size : Int)) = True := eq_true (of_decide_eq_true (by first | (with_reducible assumption) | assumption))
                replace q44 := eq_true q44
                have p46 : 0 ≤ (2 : Int) := (by omega)
                have q46 : 2 < t539.size := (by have : (2 : Int) < (t539.size : Int) := of_decide_eq_true (by first | (with_reducible assumption) | assumption); omega)
                have hx46 : ∀ h : 2 < t539.size, ((t539[2]'h).toNat : Int) = bt t539 2 := bt_at t539 2
                clear p46
                have qi46 : (2 < (t539.size : Int)) = True := eq_true (of_decide_eq_true (by first | (with_reducible assumption) | assumption))
                replace q46 := eq_true q46
                refine start_ (n := 26) (S := fun w' => w'.cell? ⟨gb541, 0, none⟩ = some (.bool t536) ∧ w'.cell? ⟨gb541, 1, none⟩ = some (.int .i64 t537) ∧ w'.cell? ⟨gb541, 2, none⟩ = some (.int .i64 t538) ∧ w'.cell? ⟨gb541, 3, none⟩ = some (.string t539)) (ds := []) #[false, false, false, false, false, false, false, false, false, false, false, false, false, false, false, false, false, false, false, false, false, false, false, false, false, false] (by kernel_rfl) rfl rfl ⟨(blk_cell BK541.out 0).trans rfl, (blk_cell BK541.out 1).trans rfl, (blk_cell BK541.out 2).trans rfl, (blk_cell BK541.out 3).trans rfl⟩ (fun hHeld => ?_); refine with_tabW spec_CmdGet.tab8 spec_CmdGet.bits8 (fun HT_ HW_ => ?_)
                generalize wc.drew = w51 at BK535 BK541 HB hHeld ⊢
                refine pu 0 60 HT_ (h := ?_)
                refine pu 2 62 HT_ (h := ?_)
                refine pu 4 64 HT_ (h := ?_)
                refine pu 8 68 HT_ (h := ?_)
                refine pu 12 72 HT_ (h := ?_)
                refine pu 16 76 HT_ (h := ?_)
                refine pu 18 78 HT_ (h := ?_)
                refine take_ (i := 1) (N := some 61) (v := ?_) (a' := ?_) #[true, true, true, false, true, false, false, false, true, false, false, false, true, false, false, false, true, false, true, false, false, false, false, false, false, false] rfl rfl (take_ofW HT_.out HW_.out (by kernel_rfl)) (fun _ _ _ h => h) (Or.inl ⟨by rfl, ?_⟩) hHeld ?_ ?_
                rotate_left
                ·rintro w' ⟨s0, s1, s2, s3⟩
                 go_simp
                 with_reducible rfl
                rotate_left
                ·simp only [Act.put, List.setIfInBounds_toArray, List.set_cons_zero, List.set_cons_succ, i64_w, i32_w]
                 rfl
                refine take_ (i := 3) (N := some 63) (v := ?_) (a' := ?_) #[true, true, true, true, true, false, false, false, true, false, false, false, true, false, false, false, true, false, true, false, false, false, false, false, false, false] rfl rfl (take_ofW HT_.out HW_.out (by kernel_rfl)) (fun _ _ _ h => h) (Or.inl ⟨by rfl, ?_⟩) hHeld ?_ ?_
                rotate_left
                ·rintro w' ⟨s0, s1, s2, s3⟩
                 go_simp
                 with_reducible rfl
                rotate_left
                ·simp only [Act.put, List.setIfInBounds_toArray, List.set_cons_zero, List.set_cons_succ, i64_w, i32_w]
                 rfl
                refine take_ (i := 5) (N := some 65) (v := ?_) (a' := ?_) #[true, true, true, true, true, true, false, false, true, false, false, false, true, false, false, false, true, false, true, false, false, false, false, false, false, false] rfl rfl (take_ofW HT_.out HW_.out (by kernel_rfl)) (fun _ _ _ h => h) (Or.inl ⟨by rfl, ?_⟩) hHeld ?_ ?_
                rotate_left
                ·rintro w' ⟨s0, s1, s2, s3⟩
                 go_simp
                 with_reducible rfl
                rotate_left
                ·simp only [Act.put, List.setIfInBounds_toArray, List.set_cons_zero, List.set_cons_succ, i64_w, i32_w]
                 rfl
                refine take_ (i := 6) (N := some 66) (v := ?_) (a' := ?_) #[true, true, true, true, true, true, true, false, true, false, false, false, true, false, false, false, true, false, true, false, false, false, false, false, false, false] rfl rfl (take_ofW HT_.out HW_.out (by kernel_rfl)) (fun _ _ _ h => h) (Or.inl ⟨by rfl, ?_⟩) hHeld ?_ ?_
                rotate_left
                ·rintro w' ⟨s0, s1, s2, s3⟩
                 go_simp
                 with_reducible rfl
                rotate_left
                ·simp only [Act.put, List.setIfInBounds_toArray, List.set_cons_zero, List.set_cons_succ, i64_w, i32_w]
                 rfl
                refine pu 7 67 HT_ (h := ?_)
                refine take_ (i := 9) (N := some 69) (v := ?_) (a' := ?_) #[true, true, true, true, true, true, true, true, true, true, false, false, true, false, false, false, true, false, true, false, false, false, false, false, false, false] rfl rfl (take_ofW HT_.out HW_.out (by kernel_rfl)) (fun _ _ _ h => h) (Or.inl ⟨by rfl, ?_⟩) hHeld ?_ ?_
                rotate_left
                ·rintro w' ⟨s0, s1, s2, s3⟩
                 go_simp
                 with_reducible rfl
                rotate_left
                ·simp only [Act.put, List.setIfInBounds_toArray, List.set_cons_zero, List.set_cons_succ, i64_w, i32_w]
                 rfl
                refine take_ (i := 10) (N := some 70) (v := ?_) (a' := ?_) #[true, true, true, true, true, true, true, true, true, true, true, false, true, false, false, false, true, false, true, false, false, false, false, false, false, false] rfl rfl (take_ofW HT_.out HW_.out (by kernel_rfl)) (fun _ _ _ h => h) (Or.inl ⟨by rfl, ?_⟩) hHeld ?_ ?_
                rotate_left
                ·rintro w' ⟨s0, s1, s2, s3⟩
                 go_simp
                 with_reducible rfl
                rotate_left
                ·simp only [Act.put, List.setIfInBounds_toArray, List.set_cons_zero, List.set_cons_succ, i64_w, i32_w]
                 rfl
                refine pu 11 71 HT_ (h := ?_)
                refine take_ (i := 13) (N := some 73) (v := ?_) (a' := ?_) #[true, true, true, true, true, true, true, true, true, true, true, true, true, true, false, false, true, false, true, false, false, false, false, false, false, false] rfl rfl (take_ofW HT_.out HW_.out (by kernel_rfl)) (fun _ _ _ h => h) (Or.inl ⟨by rfl, ?_⟩) hHeld ?_ ?_
                rotate_left
                ·rintro w' ⟨s0, s1, s2, s3⟩
                 go_simp
                 with_reducible rfl
                rotate_left
                ·simp only [Act.put, List.setIfInBounds_toArray, List.set_cons_zero, List.set_cons_succ, i64_w, i32_w]
                 rfl
                refine take_ (i := 14) (N := some 74) (v := ?_) (a' := ?_) #[true, true, true, true, true, true, true, true, true, true, true, true, true, true, true, false, true, false, true, false, false, false, false, false, false, false] rfl rfl (take_ofW HT_.out HW_.out (by kernel_rfl)) (fun _ _ _ h => h) (Or.inl ⟨by rfl, ?_⟩) hHeld ?_ ?_
                rotate_left
                ·rintro w' ⟨s0, s1, s2, s3⟩
                 go_simp
                 with_reducible rfl
                rotate_left
                ·simp only [Act.put, List.setIfInBounds_toArray, List.set_cons_zero, List.set_cons_succ, i64_w, i32_w]
                 rfl
                refine pu 15 75 HT_ (h := ?_)
                refine take_ (i := 17) (N := some 77) (v := ?_) (a' := ?_) #[true, true, true, true, true, true, true, true, true, true, true, true, true, true, true, true, true, true, true, false, false, false, false, false, false, false] rfl rfl (take_ofW HT_.out HW_.out (by kernel_rfl)) (fun _ _ _ h => h) (Or.inl ⟨by rfl, ?_⟩) hHeld ?_ ?_
                rotate_left
                ·rintro w' ⟨s0, s1, s2, s3⟩
                 go_simp
                 with_reducible rfl
                rotate_left
                ·simp only [Act.put, List.setIfInBounds_toArray, List.set_cons_zero, List.set_cons_succ, i64_w, i32_w]
                 rfl
                refine take_ (i := 19) (N := some 79) (v := ?_) (a' := ?_) #[true, true, true, true, true, true, true, true, true, true, true, true, true, true, true, true, true, true, true, true, false, false, false, false, false, false] rfl rfl (take_ofW HT_.out HW_.out (by kernel_rfl)) (fun _ _ _ h => h) (Or.inl ⟨by rfl, ?_⟩) hHeld ?_ ?_
                rotate_left
                ·rintro w' ⟨s0, s1, s2, s3⟩
                 go_simp
                 with_reducible rfl
                rotate_left
                ·simp only [Act.put, List.setIfInBounds_toArray, List.set_cons_zero, List.set_cons_succ, i64_w, i32_w]
                 rfl
                refine pu 20 80 HT_ (h := ?_)
                refine pu 21 81 HT_ (h := ?_)
                refine pu 22 82 HT_ (h := ?_)
                refine pu 23 83 HT_ (h := ?_)
                refine one_ (i := 24) (N := none) #[true, true, true, true, true, true, true, true, true, true, true, true, true, true, true, true, true, true, true, true, true, true, true, true, true, false] rfl rfl (one_of HT_.out (by kernel_rfl)) (by decide) (fun K hK => ?_)
                have hs52 : w51.cell? ⟨gb535, 0, none⟩ = some (.int .i64 0) := (blk_cell BK535.out 0).trans rfl
                have hfs52 := blk_frozen BK535.out 0
                have hns52_1 := NB541_535.out
                have hms52_1 := NB535_541.out
                have hs53 : w51.cell? ⟨gb535, 1, none⟩ = some (.int .i64 0) := (blk_cell BK535.out 1).trans rfl
                have hfs53 := blk_frozen BK535.out 1
                have hns53_1 := NB541_535.out
                have hms53_1 := NB535_541.out
                have hs54 : w51.cell? ⟨gb535, 2, none⟩ = some (.int .i64 0) := (blk_cell BK535.out 2).trans rfl
                have hfs54 := blk_frozen BK535.out 2
                have hns54_1 := NB541_535.out
                have hms54_1 := NB535_541.out
                have hs55 : w51.cell? ⟨gb535, 3, none⟩ = some (.int .i64 0) := (blk_cell BK535.out 3).trans rfl
                have hfs55 := blk_frozen BK535.out 3
                have hns55_1 := NB541_535.out
                have hms55_1 := NB535_541.out
                have hs56 : w51.cell? ⟨gb535, 4, none⟩ = some (.int .i64 0) := (blk_cell BK535.out 4).trans rfl
                have hfs56 := blk_frozen BK535.out 4
                have hns56_1 := NB541_535.out
                have hms56_1 := NB535_541.out
                have hs57 : w51.cell? ⟨gb535, 5, none⟩ = some (.string (⟨#[]⟩ : ByteArray)) := (blk_cell BK535.out 5).trans rfl
                have hfs57 := blk_frozen BK535.out 5
                have hns57_1 := NB541_535.out
                have hms57_1 := NB535_541.out
                refine skip_ (w1 := ?_) (by rfl) rfl ?_ ?_
                rotate_left
                ·go_simp
                 rfl
                refine hK.out _ _ ⟨((cell_far (p := ⟨gb535, _, none⟩) NB541_535.out _).trans (((cell_far (p := ⟨gb535, _, none⟩) NB541_535.out _).trans (((cell_far (p := ⟨gb535, _, none⟩) NB541_535.out _).trans (((cell_far (p := ⟨gb535, _, none⟩) NB541_535.out _).trans (((cell_far (p := ⟨gb535, _, none⟩) NB541_535.out _).trans (((cell_far (p := ⟨gb535, _, none⟩) NB541_535.out _).trans (hHeld.1)))))))))))), ((cell_far (p := ⟨gb535, _, none⟩) NB541_535.out _).trans (((cell_far (p := ⟨gb535, _, none⟩) NB541_535.out _).trans (((cell_far (p := ⟨gb535, _, none⟩) NB541_535.out _).trans (((cell_far (p := ⟨gb535, _, none⟩) NB541_535.out _).trans (((cell_far (p := ⟨gb535, _, none⟩) NB541_535.out _).trans (((cell_far (p := ⟨gb535, _, none⟩) NB541_535.out _).trans (hHeld.2.1)))))))))))), ((cell_far (p := ⟨gb535, _, none⟩) NB541_535.out _).trans (((cell_far (p := ⟨gb535, _, none⟩) NB541_535.out _).trans (((cell_far (p := ⟨gb535, _, none⟩) NB541_535.out _).trans (((cell_far (p := ⟨gb535, _, none⟩) NB541_535.out _).trans (((cell_far (p := ⟨gb535, _, none⟩) NB541_535.out _).trans (((cell_far (p := ⟨gb535, _, none⟩) NB541_535.out _).trans (hHeld.2.2.1)))))))))))), ((cell_far (p := ⟨gb535, _, none⟩) NB541_535.out _).trans (((cell_far (p := ⟨gb535, _, none⟩) NB541_535.out _).trans (((cell_far (p := ⟨gb535, _, none⟩) NB541_535.out _).trans (((cell_far (p := ⟨gb535, _, none⟩) NB541_535.out _).trans (((cell_far (p := ⟨gb535, _, none⟩) NB541_535.out _).trans (((cell_far (p := ⟨gb535, _, none⟩) NB541_535.out _).trans (hHeld.2.2.2))))))))))))⟩ (fun hHeld => ?_)
                clear hK K
                refine pu 25 3 HT_ (h := ?_)
                refine done_ (done_of HT_.out (by kernel_rfl)) ?_
                try go_wp2
                refine bodyPost_ret (results_ct rfl _ _ gb535 43 #[.int .i64 t537, .int .i64 t538, .int .i64 (wrap64 (bt t539 3)), .int .i64 (wrap64 (bt t539 1)), .int .i64 (wrap64 (bt t539 2)), .string (t539.extract 4 ((wrap64 ((t539.size : Int) - 2)) : Int).toNat)] (0, 0) _ rfl (kP BK535.out) Tryd.underlying43 rfl (by kernel_rfl)) rfl ?_
                exact ⟨by first | rfl | (simp [errW_none, errW_some] <;> rfl) | (simp [*, errW_none, errW_some] <;> rfl), by repeat (first | (with_reducible first | exact HB.out | apply below_alloc | apply pw_below_drewN | apply below_drew1 | refine below_set ?_ GE535.out | refine below_set ?_ GE541.out) | exact HB.out)⟩
               ·rw [if_neg c48] at H
                exact absurd H (by simp)
              ·rw [if_neg c47] at H
               exact absurd H (by simp)
             ·rw [if_neg c45] at H
              exact absurd H (by simp)
            ·rw [if_neg c43] at H
             exact absurd H (by simp)
           ·rw [if_neg c41] at H
            exact absurd H (by simp)
         ·rw [if_neg c36] at H
          have c36b0 : ((bt t539 0) == 47) = false := beq_eq_false_iff_ne.mpr c36
          have c36b1 : ((bt t539 0) != 47) = true := bne_iff_ne.mpr c36
          simp only [Option.some.injEq, Prod.mk.injEq] at H
          obtain ⟨rfl, rfl, rfl, rfl, rfl, rfl, rfl⟩ := H
          have hnb58 := NB541_535.out
          have hnc58 := NB535_541.out
          have hcz59_0 : wc.cell? ⟨gb541, 0, none⟩ = some (.bool t536) := (blk_cell BK541.out 0).trans rfl
          have hcz59_1 : wc.cell? ⟨gb541, 1, none⟩ = some (.int .i64 t537) := (blk_cell BK541.out 1).trans rfl
          have hcz59_2 : wc.cell? ⟨gb541, 2, none⟩ = some (.int .i64 t538) := (blk_cell BK541.out 2).trans rfl
          have hcz59_3 : wc.cell? ⟨gb541, 3, none⟩ = some (.string t539) := (blk_cell BK541.out 3).trans rfl
          have hfz59_0 := blk_frozen BK541.out 0
          have hfz59_1 := blk_frozen BK541.out 1
          have hfz59_2 := blk_frozen BK541.out 2
          have hfz59_3 := blk_frozen BK541.out 3
          have p35 : 0 ≤ (0 : Int) := (by omega)
          have q35 : 0 < t539.size := (by have : (0 : Int) < (t539.size : Int) := of_decide_eq_true (by first | (with_reducible assumption) | assumption); omega)
          have hx35 : ∀ h : 0 < t539.size, ((t539[0]'h).toNat : Int) = bt t539 0 := bt_at t539 0
          clear p35
          have qi35 : (0 < (t539.size : Int)) = True := eq_true (of_decide_eq_true (by first | (with_reducible assumption) | assumption))
          replace q35 := eq_true q35
          have hcz60_0 : wc.cell? ⟨gb535, 0, none⟩ = some (.int .i64 0) := (blk_cell BK535.out 0).trans rfl
          have hcz60_1 : wc.cell? ⟨gb535, 1, none⟩ = some (.int .i64 0) := (blk_cell BK535.out 1).trans rfl
          have hcz60_2 : wc.cell? ⟨gb535, 2, none⟩ = some (.int .i64 0) := (blk_cell BK535.out 2).trans rfl
          have hcz60_3 : wc.cell? ⟨gb535, 3, none⟩ = some (.int .i64 0) := (blk_cell BK535.out 3).trans rfl
          have hcz60_4 : wc.cell? ⟨gb535, 4, none⟩ = some (.int .i64 0) := (blk_cell BK535.out 4).trans rfl
          have hcz60_5 : wc.cell? ⟨gb535, 5, none⟩ = some (.string (⟨#[]⟩ : ByteArray)) := (blk_cell BK535.out 5).trans rfl
          have hfz60_0 := blk_frozen BK535.out 0
          have hfz60_1 := blk_frozen BK535.out 1
          have hfz60_2 := blk_frozen BK535.out 2
          have hfz60_3 := blk_frozen BK535.out 3
          have hfz60_4 := blk_frozen BK535.out 4
          have hfz60_5 := blk_frozen BK535.out 5
          go_wp2
          refine bodyPost_ret (results_ct rfl _ _ gb535 43 #[.int .i64 0, .int .i64 0, .int .i64 0, .int .i64 0, .int .i64 0, .string (⟨#[]⟩ : ByteArray)] (0, 0) _ rfl (kP BK535.out) Tryd.underlying43 rfl (by kernel_rfl)) rfl ?_
          exact ⟨by first | rfl | (simp [errW_none, errW_some] <;> rfl) | (simp [*, errW_none, errW_some] <;> rfl), by repeat (first | (with_reducible first | exact HB.out | apply below_alloc | apply pw_below_drewN | apply below_drew1 | refine below_set ?_ GE535.out | refine below_set ?_ GE541.out) | exact HB.out)⟩
        ·rw [if_neg c34] at H
         exact absurd H (by simp)

end Go.Proofs.YtllchgipnfdneaaDoor.P
