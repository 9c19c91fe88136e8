/- The machine side of these statements, function by function: what each Go function answers (as a Lean function), and that it does. Written by a program (mp.py) for this claim. -/
import Derived.Test.YtpehnincnpnggaaDoorPx0
import Derived.Test.YtpehnincnpnggaaDoorPx3
import Derived.Test.YtpehnincnpnggaaDoorPx4
import Derived.Test.YtpehnincnpnggaaDoorPx6
namespace Go.Proofs.YtpehnincnpnggaaDoor.P
open Go.RowKit Go.Proofs.YtpehnincnpnggaaDoorW.PrintWords Go.Proofs.YtpehnincnpnggaaDoorW.PrintLast Go.Proofs.YtpehnincnpnggaaDoorW.PrintMore
attribute [local go_sem] max2_int min2_int max_two min_two max_three min_three max_four min_four   -- for this text's walks alone
set_option linter.unusedVariables false
set_option linter.unusedSimpArgs false

/-! ### impl_CmdGet: function 7 -/
mutual
def impl_CmdGet.j0 : Nat → ByteArray → Bool → Bool → Int → Int → ByteArray → Option (Int × Int × Int × Int × Int × ByteArray × Int)
 | 0, _, _, _, _, _, _ => none
 | k + 1, x0, x19, x289000, x289001, x289002, x289003 => if x19 = true then (some (0, 0, 0, 0, 0, (⟨#[]⟩ : ByteArray), 1)) else (if (x289003.size : Int) < 2 then (impl_CmdGet.j1 k true x289000 x289001 x289002 x289003) else (if 0 ≤ (wrap64 ((x0.size : Int) - 2)) then (if (wrap64 ((x0.size : Int) - 2)) ≤ (x0.size : Int) then ((impl_Crc16.f (x0.extract 0 ((wrap64 ((x0.size : Int) - 2)) : Int).toNat)).bind fun t289 => ((impl_NumPut.f k t289 2).bind fun t290 => (impl_CmdGet.j1 k (t290.toList != (x0.extract ((wrap64 ((x0.size : Int) - 2)) : Int).toNat x0.size).toList) x289000 x289001 x289002 x289003))) else (none)) else (none)))
def impl_CmdGet.j1 : Nat → Bool → Bool → Int → Int → ByteArray → Option (Int × Int × Int × Int × Int × ByteArray × Int)
 | 0, _, _, _, _, _ => none
 | k + 1, x38, x289000, x289001, x289002, x289003 => if x38 = true then (some (0, 0, 0, 0, 0, (⟨#[]⟩ : ByteArray), 2)) else (if (wrap64 ((x289003.size : Int) - 6)) < 0 then (some (0, 0, 0, 0, 0, (⟨#[]⟩ : ByteArray), 3)) else (if 0 ≤ 1 then (if 1 ≤ (x289003.size : Int) then (if (x289003.extract 0 1).toList = ([47] : List UInt8) then (if (wrap64 ((x289003.size : Int) - 6)) > 60 then (some (0, 0, 0, 0, 0, (⟨#[]⟩ : ByteArray), 3)) else (if 3 < (x289003.size : Int) then (if 1 < (x289003.size : Int) then (if 2 < (x289003.size : Int) then (if 4 ≤ (wrap64 (4 + (wrap64 ((x289003.size : Int) - 6)))) then (if (wrap64 (4 + (wrap64 ((x289003.size : Int) - 6)))) ≤ (x289003.size : Int) then (some (x289001, x289002, wrap64 (bt x289003 3), wrap64 (bt x289003 1), wrap64 (bt x289003 2), x289003.extract 4 ((wrap64 (4 + (wrap64 ((x289003.size : Int) - 6)))) : Int).toNat, 0)) else (none)) else (none)) else (none)) else (none)) else (none))) else (some (0, 0, 0, 0, 0, (⟨#[]⟩ : ByteArray), 3))) else (none)) else (none)))
end
def impl_CmdGet.f (k : Nat) (a0 : ByteArray) : Option (Int × Int × Int × Int × Int × ByteArray × Int) := (impl_packetOnly.f k a0).bind fun bt283 => (if bt283.2.2.2.2 = true then (impl_CmdGet.j0 k a0 (!bt283.1) bt283.1 bt283.2.1 bt283.2.2.1 bt283.2.2.2.1) else (impl_CmdGet.j0 k a0 true bt283.1 bt283.2.1 bt283.2.2.1 bt283.2.2.2.1))
theorem impl_CmdGet.mono_l : ∀ k, (∀ y0 y1 y2 y3 y4 y5, LeO (impl_CmdGet.j0 k y0 y1 y2 y3 y4 y5) (impl_CmdGet.j0 (k + 1) y0 y1 y2 y3 y4 y5)) ∧ (∀ y0 y1 y2 y3 y4, LeO (impl_CmdGet.j1 k y0 y1 y2 y3 y4) (impl_CmdGet.j1 (k + 1) y0 y1 y2 y3 y4))
 | 0 => ⟨fun _ _ _ _ _ _ r h => by simp [impl_CmdGet.j0] at h, fun _ _ _ _ _ r h => by simp [impl_CmdGet.j1] at h⟩
 | k + 1 => by
  obtain ⟨ih0, ih1⟩ := impl_CmdGet.mono_l k
  refine ⟨?_, ?_⟩
  ·intro y0 y1 y2 y3 y4 y5
   unfold impl_CmdGet.j0
   repeat' first
   | (with_reducible exact ih0 _ _ _ _ _ _)
   | (with_reducible exact ih1 _ _ _ _ _)
   | (with_reducible exact impl_NumPut.mono _ _ _)
   | (with_reducible exact impl_packetOnly.mono _ _)
   | (with_reducible exact LeO.refl _)
   | (with_reducible exact LeO.none _)
   | (with_reducible refine LeO.ite ?_ ?_)
   | (with_reducible refine LeO.bind ?_ (fun _ => ?_))
   | exact ih0 _ _ _ _ _ _
   | exact ih1 _ _ _ _ _
   | exact impl_NumPut.mono _ _ _
   | exact impl_packetOnly.mono _ _
   | exact LeO.none _
   | refine LeO.ite ?_ ?_
   | refine LeO.bind ?_ (fun _ => ?_)
  ·intro y0 y1 y2 y3 y4
   unfold impl_CmdGet.j1
   repeat' first
   | (with_reducible exact ih0 _ _ _ _ _ _)
   | (with_reducible exact ih1 _ _ _ _ _)
   | (with_reducible exact impl_NumPut.mono _ _ _)
   | (with_reducible exact impl_packetOnly.mono _ _)
   | (with_reducible exact LeO.refl _)
   | (with_reducible exact LeO.none _)
   | (with_reducible refine LeO.ite ?_ ?_)
   | (with_reducible refine LeO.bind ?_ (fun _ => ?_))
   | exact ih0 _ _ _ _ _ _
   | exact ih1 _ _ _ _ _
   | exact impl_NumPut.mono _ _ _
   | exact impl_packetOnly.mono _ _
   | exact LeO.none _
   | refine LeO.ite ?_ ?_
   | refine LeO.bind ?_ (fun _ => ?_)
theorem impl_CmdGet.mono : ∀ a0 k, LeO (impl_CmdGet.f k a0) (impl_CmdGet.f (k + 1) a0) := by
 intro a0 k
 obtain ⟨ih0, ih1⟩ := impl_CmdGet.mono_l k
 unfold impl_CmdGet.f
 repeat' first
   | (with_reducible exact ih0 _ _ _ _ _ _)
   | (with_reducible exact ih1 _ _ _ _ _)
   | (with_reducible exact impl_NumPut.mono _ _ _)
   | (with_reducible exact impl_packetOnly.mono _ _)
   | (with_reducible exact LeO.refl _)
   | (with_reducible exact LeO.none _)
   | (with_reducible refine LeO.ite ?_ ?_)
   | (with_reducible refine LeO.bind ?_ (fun _ => ?_))
   | exact ih0 _ _ _ _ _ _
   | exact ih1 _ _ _ _ _
   | exact impl_NumPut.mono _ _ _
   | exact impl_packetOnly.mono _ _
   | exact LeO.none _
   | refine LeO.ite ?_ ?_
   | refine LeO.bind ?_ (fun _ => ?_)
def impl_CmdGet.T5 : Bool × List (List Nat × List Nat) := (true, [([], []), ([0], [0]), ([1], [1]), ([2], [2]), ([3], [3]), ([4], [4]), ([4], [4]), ([5, 6, 4], [4, 5, 6]), ([7, 4, 4], [4, 7]), ([8, 8, 4], [4, 8]), ([4], [4]), ([4], [4]), ([10, 11, 4], [4, 10, 11]), ([9, 12, 4], [4, 9, 12]), ([4, 13], [4, 13])])
def impl_CmdGet.B5 : List Nat := [0, 1, 3, 7, 15, 31, 31, 127, 255, 511, 31, 31, 3103, 8191, 16383]
theorem impl_CmdGet.tab5 : rtab .any (opsOf Tryd.f7 5) = impl_CmdGet.T5 := by kernel_rfl
theorem impl_CmdGet.bits5 : waitsOk impl_CmdGet.T5.2 impl_CmdGet.B5 = true := by kernel_rfl
def impl_CmdGet.T10 : Bool × List (List Nat × List Nat) := (true, [([], []), ([0], [0]), ([], []), ([2], [2]), ([], []), ([4], [4]), ([5], [5]), ([6], [6]), ([], []), ([8], [8]), ([9], [9]), ([10], [10]), ([], []), ([12], [12]), ([13], [13]), ([14], [14]), ([], []), ([16], [16]), ([], []), ([18], [18]), ([17, 19], [17, 19]), ([1, 3, 7, 11, 15, 20], [1, 3, 7, 11, 15, 20]), ([21, 0, 1, 2, 3, 4, 5, 6, 7, 8, 9, 10, 11, 12, 13, 14, 15, 16, 17, 18, 19, 20, 21], [21]), ([22, 0, 1, 2, 3, 4, 5, 6, 7, 8, 9, 10, 11, 12, 13, 14, 15, 16, 17, 18, 19, 20, 21, 22], [])])
def impl_CmdGet.B10 : List Nat := [0, 1, 0, 4, 0, 16, 48, 112, 0, 256, 768, 1792, 0, 4096, 12288, 28672, 0, 65536, 0, 262144, 983040, 2097151, 4194303, 8388607]
theorem impl_CmdGet.tab10 : rtab .any (opsOf Tryd.f7 10) = impl_CmdGet.T10 := by kernel_rfl
theorem impl_CmdGet.bits10 : waitsOk impl_CmdGet.T10.2 impl_CmdGet.B10 = true := by kernel_rfl
set_option maxHeartbeats 8000000 in
set_option maxRecDepth 100000 in
theorem impl_CmdGet.calls (k : Nat) (a0 : ByteArray) (r1 : Int) (r2 : Int) (r3 : Int) (r4 : Int) (r5 : Int) (r6 : ByteArray) (r7 : Int) (w : World) (h : impl_CmdGet.f k a0 = some (r1, r2, r3, r4, r5, r6, r7)) :
  Calls Tryd.prog 7 #[.string a0] w fun e w' => e = .returned (.tuple #[.agg #[.int .i64 r1, .int .i64 r2, .int .i64 r3, .int .i64 r4, .int .i64 r5, .string r6], .int .i64 r7]) ∧ Below w.heap.size w w' := by
 have hu24 := Tryd.underlying24
 have hu39 := Tryd.underlying39
 have HB := m_ (Below.refl w.heap.size w)
 have H : ((impl_packetOnly.f k a0).bind fun bt283 => (if bt283.2.2.2.2 = true then (impl_CmdGet.j0 k a0 (!bt283.1) bt283.1 bt283.2.1 bt283.2.2.1 bt283.2.2.2.1) else (impl_CmdGet.j0 k a0 true bt283.1 bt283.2.1 bt283.2.2.1 bt283.2.2.2.1))) = some (r1, r2, r3, r4, r5, r6, r7) := h
 clear h
 replace H := Option.bind_eq_some_iff.mp H
 obtain ⟨⟨t283, t284, t285, t286, t287⟩, A20, H⟩ := H
 replace H : (if t287 = true then (impl_CmdGet.j0 k a0 (!t283) t283 t284 t285 t286) else (impl_CmdGet.j0 k a0 true t283 t284 t285 t286)) = some (r1, r2, r3, r4, r5, r6, r7) := H
 have A2 := Aside0.mk A20
 clear A20
 have HC3 := Aside0.mk H
 clear H
 go_enter Tryd.func7, Tryd.ntmps7
 go_upto_region 2 with (first | ((with_reducible refine gate_dst (N := 2) rfl ?_); refine box_event ?hg (N := 2) ?hd (cs := #[.int .i64 0, .int .i64 0, .int .i64 0, .int .i64 0, .int .i64 0, .string (⟨#[]⟩ : ByteArray)]) (t := 24) ?hr ?_; (case hd => rfl); (case hg => rfl); (case hr => first | (go_simp; done) | (go_simp; rfl)); intro gb282 hg w4 hbox hb; have n0_ := m_ (below_step (bN HB.out) hb); have n1_ := m_ (hbox); have n2_ := m_ ((by rw [hg]; exact (below_size (bN HB.out)) : w.heap.size ≤ gb282)); have n3_ := m_ ((by rw [hg]; exact (below_size (bN HB.out)) : w.heap.size ≤ gb282)); clear HB; have HB := n0_; have BK282 := n1_; have GW282 := n2_; have GE282 := n3_; clear n0_ n1_ n2_ n3_; clear hb hbox hg) | ((with_reducible refine gate_callee (f := 18) rfl ?_); refine goesL_ (some 10) rfl rfl Tryd.func18 (by kernel_rfl) rfl #[.string a0] rfl gl_ ?_; (with_reducible refine (impl_packetOnly.calls k a0 t283 t284 t285 t286 t287 _ A2.out).mono ?_); rintro e w5 ⟨rfl, hb⟩; refine ⟨_, rfl, ?_⟩; have n0_ := m_ (blk_below (g := gb282) (o := .cells #[.int .i64 0, .int .i64 0, .int .i64 0, .int .i64 0, .int .i64 0, .string (⟨#[]⟩ : ByteArray)] 24 (0, 0)) (kN BK282.out) hb); have n1_ := m_ (below_step (bN HB.out) hb); clear BK282; clear HB; have BK282 := n0_; have HB := n1_; clear n0_ n1_; (try clear hb); (try clear hb2); (try clear hk); (try clear hi)) | ((with_reducible refine gate_dst (N := 4) rfl ?_); refine box_event ?hg (N := 4) ?hd (cs := #[.bool false, .int .i64 0, .int .i64 0, .string (⟨#[]⟩ : ByteArray)]) (t := 39) ?hr ?_; (case hd => rfl); (case hg => rfl); (case hr => first | (go_simp; done) | (go_simp; rfl)); intro gb288 hg w6 hbox hb; have n0_ := m_ (blk_below (g := gb282) (o := .cells #[.int .i64 0, .int .i64 0, .int .i64 0, .int .i64 0, .int .i64 0, .string (⟨#[]⟩ : ByteArray)] 24 (0, 0)) (kN BK282.out) hb); have n1_ := m_ (below_step (bN HB.out) hb); have n2_ := m_ (hbox); have n3_ := m_ ((by rw [hg]; exact (below_size (bN HB.out)) : w.heap.size ≤ gb288)); have n4_ := m_ ((by rw [hg]; exact (below_size (bN HB.out)) : w.heap.size ≤ gb288)); have n5_ := m_ ((by rw [hg]; exact Nat.ne_of_lt (blk_lt (g := gb282) (o := .cells #[.int .i64 0, .int .i64 0, .int .i64 0, .int .i64 0, .int .i64 0, .string (⟨#[]⟩ : ByteArray)] 24 (0, 0)) (kN BK282.out)) : gb282 ≠ gb288)); have n6_ := m_ ((by rw [hg]; exact Nat.ne_of_gt (blk_lt (g := gb282) (o := .cells #[.int .i64 0, .int .i64 0, .int .i64 0, .int .i64 0, .int .i64 0, .string (⟨#[]⟩ : ByteArray)] 24 (0, 0)) (kN BK282.out)) : gb288 ≠ gb282)); clear BK282; clear HB; have BK282 := n0_; have HB := n1_; have BK288 := n2_; have GW288 := n3_; have GE288 := n4_; have NB282_288 := n5_; have NB288_282 := n6_; clear n0_ n1_ n2_ n3_ n4_ n5_ n6_; clear hb hbox hg; have hnb7 := NB288_282.out; have hnc7 := NB282_288.out; have hcz8_0 : w6.cell? ⟨gb288, 0, none⟩ = some (.bool false) := bc BK288 0; have hcz8_1 : w6.cell? ⟨gb288, 1, none⟩ = some (.int .i64 0) := bc BK288 1; have hcz8_2 : w6.cell? ⟨gb288, 2, none⟩ = some (.int .i64 0) := bc BK288 2; have hcz8_3 : w6.cell? ⟨gb288, 3, none⟩ = some (.string (⟨#[]⟩ : ByteArray)) := bc BK288 3; have hfz8_0 := blk_frozen BK288.out 0; have hfz8_1 := blk_frozen BK288.out 1; have hfz8_2 := blk_frozen BK288.out 2; have hfz8_3 := blk_frozen BK288.out 3))
 (try simp only [Act.put, List.setIfInBounds_toArray, List.set_cons_zero, List.set_cons_succ])
 go_cut [19] (fun v19 wc => ∃ (kq : Nat) (x19_2 : Bool), v19 = .bool x19_2 ∧ Aside0 (impl_CmdGet.j0 kq a0 x19_2 t283 t284 t285 t286 = some (r1, r2, r3, r4, r5, r6, r7)) ∧ Aside0 (kq ≤ k) ∧ Aside0 (wc.heap[gb282]? = some (.cells #[.int .i64 0, .int .i64 0, .int .i64 0, .int .i64 0, .int .i64 0, .string (⟨#[]⟩ : ByteArray)] 24 (0, 0))) ∧ Aside0 (wc.heap[gb288]? = some (.cells #[.bool t283, .int .i64 t284, .int .i64 t285, .string t286] 39 (0, 0))) ∧ Aside0 (Below w.heap.size w wc))
 case first =>
  have H := HC3.out
  clear HC3
  by_cases c9 : t287 = true
  ·subst c9
   have H1 : (impl_CmdGet.j0 k a0 (!t283) t283 t284 t285 t286) = some (r1, r2, r3, r4, r5, r6, r7) := by rw [if_pos rfl] at H; exact H
   clear H
   have H := H1
   clear H1
   have H' := Aside0.mk H
   clear H
   have hnb10 := NB288_282.out
   have hnc10 := NB282_288.out
   have hcz11_0 : w6.cell? ⟨gb288, 0, none⟩ = some (.bool false) := bc BK288 0
   have hcz11_1 : w6.cell? ⟨gb288, 1, none⟩ = some (.int .i64 0) := bc BK288 1
   have hcz11_2 : w6.cell? ⟨gb288, 2, none⟩ = some (.int .i64 0) := bc BK288 2
   have hcz11_3 : w6.cell? ⟨gb288, 3, none⟩ = some (.string (⟨#[]⟩ : ByteArray)) := bc BK288 3
   have hfz11_0 := blk_frozen BK288.out 0
   have hfz11_1 := blk_frozen BK288.out 1
   have hfz11_2 := blk_frozen BK288.out 2
   have hfz11_3 := blk_frozen BK288.out 3
   go_wp2
   go_meet
   case rel => exact ⟨_, (!t283), (by first | rfl | (simp; done) | (simp [*]; done)), H', ⟨by first | omega | exact Nat.le_refl _⟩, ⟨kF BK282.out NB282_288.out⟩, ⟨kP BK288.out⟩, ⟨by repeat (first | (with_reducible first | exact HB.out | apply below_alloc | apply pw_below_drewN | apply below_drew1 | refine below_set ?_ GE282.out | refine below_set ?_ GE288.out) | exact HB.out)⟩⟩
  ·replace c9 := Bool.eq_false_iff.mpr c9
   subst c9
   have H1 : (impl_CmdGet.j0 k a0 true t283 t284 t285 t286) = some (r1, r2, r3, r4, r5, r6, r7) := by rw [if_neg (show ¬ (false = true) by decide)] at H; exact H
   clear H
   have H := H1
   clear H1
   have H' := Aside0.mk H
   clear H
   go_wp2
   go_meet
   case rel => exact ⟨_, (true), (by first | rfl | (simp; done) | (simp [*]; done)), H', ⟨by first | omega | exact Nat.le_refl _⟩, ⟨kF BK282.out NB282_288.out⟩, ⟨kP BK288.out⟩, ⟨by repeat (first | (with_reducible first | exact HB.out | apply below_alloc | apply pw_below_drewN | apply below_drew1 | refine below_set ?_ GE282.out | refine below_set ?_ GE288.out) | exact HB.out)⟩⟩
 case rest =>
  clear HC3
  try clear c1
  try clear p2
  try clear c7
  try clear c9
  try clear c10
  try clear hcz11_0
  try clear hcz11_1
  try clear hcz11_2
  try clear hcz11_3
  try clear hcz8_0
  try clear hcz8_1
  try clear hcz8_2
  try clear hcz8_3
  try clear hfz11_0
  try clear hfz11_1
  try clear hfz11_2
  try clear hfz11_3
  try clear hfz8_0
  try clear hfz8_1
  try clear hfz8_2
  try clear hfz8_3
  obtain ⟨kq, x19_2, rfl, HA, HJ2, BK282, BK288, HB⟩ := hcut
  cases kq with
  | zero => exact absurd HA.out (by simp [impl_CmdGet.j0])
  | succ kj2 =>
   have H := HA.out
   clear HA
   simp only [impl_CmdGet.j0] at H
   by_cases c12 : x19_2 = true
   ·subst c12
    have H1 : (some (0, 0, 0, 0, 0, (⟨#[]⟩ : ByteArray), 1)) = some (r1, r2, r3, r4, r5, r6, r7) := by rw [if_pos rfl] at H; exact H
    clear H
    have H := H1
    clear H1
    simp only [Option.some.injEq, Prod.mk.injEq] at H
    obtain ⟨rfl, rfl, rfl, rfl, rfl, rfl, rfl⟩ := H
    have hnb13 := NB282_288.out
    have hnc13 := NB288_282.out
    have hcz14_0 : wc.cell? ⟨gb282, 0, none⟩ = some (.int .i64 0) := bc BK282 0
    have hcz14_1 : wc.cell? ⟨gb282, 1, none⟩ = some (.int .i64 0) := bc BK282 1
    have hcz14_2 : wc.cell? ⟨gb282, 2, none⟩ = some (.int .i64 0) := bc BK282 2
    have hcz14_3 : wc.cell? ⟨gb282, 3, none⟩ = some (.int .i64 0) := bc BK282 3
    have hcz14_4 : wc.cell? ⟨gb282, 4, none⟩ = some (.int .i64 0) := bc BK282 4
    have hcz14_5 : wc.cell? ⟨gb282, 5, none⟩ = some (.string (⟨#[]⟩ : ByteArray)) := bc BK282 5
    have hfz14_0 := blk_frozen BK282.out 0
    have hfz14_1 := blk_frozen BK282.out 1
    have hfz14_2 := blk_frozen BK282.out 2
    have hfz14_3 := blk_frozen BK282.out 3
    have hfz14_4 := blk_frozen BK282.out 4
    have hfz14_5 := blk_frozen BK282.out 5
    go_wp2
    refine bodyPost_ret (results_ct rfl _ _ gb282 24 #[.int .i64 0, .int .i64 0, .int .i64 0, .int .i64 0, .int .i64 0, .string (⟨#[]⟩ : ByteArray)] (0, 0) _ rfl (kP BK282.out) Tryd.underlying24 rfl (by kernel_rfl)) rfl ?_
    exact ⟨by first | rfl | (simp [errW_none, errW_some] <;> rfl) | (simp [*, errW_none, errW_some] <;> rfl), by repeat (first | (with_reducible first | exact HB.out | apply below_alloc | apply pw_below_drewN | apply below_drew1 | refine below_set ?_ GE282.out | refine below_set ?_ GE288.out) | exact HB.out)⟩
   ·replace c12 := Bool.eq_false_iff.mpr c12
    subst c12
    have H1 : (if (t286.size : Int) < 2 then (impl_CmdGet.j1 kj2 true t283 t284 t285 t286) else (if 0 ≤ (wrap64 ((a0.size : Int) - 2)) then (if (wrap64 ((a0.size : Int) - 2)) ≤ (a0.size : Int) then ((impl_Crc16.f (a0.extract 0 ((wrap64 ((a0.size : Int) - 2)) : Int).toNat)).bind fun t289 => ((impl_NumPut.f kj2 t289 2).bind fun t290 => (impl_CmdGet.j1 kj2 (t290.toList != (a0.extract ((wrap64 ((a0.size : Int) - 2)) : Int).toNat a0.size).toList) t283 t284 t285 t286))) else (none)) else (none))) = some (r1, r2, r3, r4, r5, r6, r7) := by rw [if_neg (show ¬ (false = true) by decide)] at H; exact H
    clear H
    have H := H1
    clear H1
    have HC15 := Aside0.mk H
    clear H
    go_upto_region 5 with (fail)
    go_cut [38] (fun v38 wc => ∃ (kq : Nat) (x38_14 : Bool), v38 = .bool x38_14 ∧ Aside0 (impl_CmdGet.j1 kq x38_14 t283 t284 t285 t286 = some (r1, r2, r3, r4, r5, r6, r7)) ∧ Aside0 (kq ≤ kj2) ∧ Aside0 (wc.heap[gb282]? = some (.cells #[.int .i64 0, .int .i64 0, .int .i64 0, .int .i64 0, .int .i64 0, .string (⟨#[]⟩ : ByteArray)] 24 (0, 0))) ∧ Aside0 (wc.heap[gb288]? = some (.cells #[.bool t283, .int .i64 t284, .int .i64 t285, .string t286] 39 (0, 0))) ∧ Aside0 (Below w.heap.size w wc))
    case first =>
     have H := HC15.out
     clear HC15
     by_cases c16 : (t286.size : Int) < 2
     ·rw [if_pos c16] at H
      have c16b0 : decide ((t286.size : Int) < 2) = true := decide_eq_true c16
      have c16b1 : decide (t286.size < 2) = true := decide_eq_true (by omega)
      clear c16
      (first | rw [c16b0] | (simp only [i64_w, i32_w]; rw [c16b0]) | skip)
      have H' := Aside0.mk H
      clear H
      try go_wp2
      have n0_ := m_ (blk_drew BK282.out)
      have n1_ := m_ (blk_drew BK288.out)
      have n2_ := m_ (below_drew1 HB.out)
      clear BK282
      clear BK288
      clear HB
      have BK282 := n0_
      have BK288 := n1_
      have HB := n2_
      clear n0_ n1_ n2_
      refine start_ (n := 15) (S := fun w' => w'.cell? ⟨gb288, 0, none⟩ = some (.bool t283) ∧ w'.cell? ⟨gb288, 1, none⟩ = some (.int .i64 t284) ∧ w'.cell? ⟨gb288, 2, none⟩ = some (.int .i64 t285) ∧ w'.cell? ⟨gb288, 3, none⟩ = some (.string t286)) (ds := []) #[false, false, false, false, false, false, false, false, false, false, false, false, false, false, false] (by kernel_rfl) rfl rfl ⟨bc BK288 0, bc BK288 1, bc BK288 2, bc BK288 3⟩ (fun hHeld => ?_); refine with_tabW impl_CmdGet.tab5 impl_CmdGet.bits5 (fun HT_ HW_ => ?_)
      generalize wc.drew = w17 at BK282 BK288 HB hHeld ⊢
      refine pu 0 24 HT_ (h := ?_)
      refine take_ (i := 1) (N := some 25) (v := ?_) (a' := ?_) #[true, true, false, false, false, false, false, false, false, false, false, false, false, false, false] rfl rfl (take_ofW HT_.out HW_.out (by kernel_rfl)) (fun _ _ _ h => h) (Or.inl ⟨by rfl, ?_⟩) hHeld ?_ ?_
      rotate_left
      ·rintro w' ⟨s0, s1, s2, s3⟩
       go_simp
       with_reducible rfl
      rotate_left
      ·simp only [Act.put, List.setIfInBounds_toArray, List.set_cons_zero, List.set_cons_succ, i64_w, i32_w]
       rfl
      refine pu 2 26 HT_ (h := ?_)
      refine pu 3 27 HT_ (h := ?_)
      refine pu 4 28 HT_ (h := ?_)
      refine pv 5 29 HT_ (h := ?_)
      refine pv 6 30 HT_ (h := ?_)
      refine pv 7 31 HT_ (h := ?_)
      refine pv 8 32 HT_ (h := ?_)
      refine pv 9 33 HT_ (h := ?_)
      refine pv 10 34 HT_ (h := ?_)
      refine pv 11 35 HT_ (h := ?_)
      refine pv 12 36 HT_ (h := ?_)
      refine pv 13 37 HT_ (h := ?_)
      refine pu 14 38 HT_ (h := ?_)
      refine done_ (done_of HT_.out (by kernel_rfl)) ?_
      try go_wp2
      go_meet
      case rel => exact ⟨_, (true), (by first | rfl | (simp; done) | (simp [*]; done)), H', ⟨by have := HJ2.out; first | omega | exact Nat.le_refl _⟩, ⟨kN BK282.out⟩, ⟨kN BK288.out⟩, ⟨by repeat (first | (with_reducible first | exact HB.out | apply below_alloc | apply pw_below_drewN | apply below_drew1 | refine below_set ?_ GE282.out | refine below_set ?_ GE288.out) | exact HB.out)⟩⟩
     ·rw [if_neg c16] at H
      have c16b0 : decide ((t286.size : Int) < 2) = false := decide_eq_false c16
      have c16b1 : decide (t286.size < 2) = false := decide_eq_false (by omega)
      clear c16
      (first | rw [c16b0] | (simp only [i64_w, i32_w]; rw [c16b0]) | skip)
      obtain ⟨ji18, hji18⟩ : ∃ j_ : Int, (wrap64 ((a0.size : Int) - 2)) = j_ := ⟨_, rfl⟩
      replace H : (if 0 ≤ (ji18) then (if (ji18) ≤ (a0.size : Int) then ((impl_Crc16.f (a0.extract 0 ((ji18) : Int).toNat)).bind fun t289 => ((impl_NumPut.f kj2 t289 2).bind fun t290 => (impl_CmdGet.j1 kj2 (t290.toList != (a0.extract ((ji18) : Int).toNat a0.size).toList) t283 t284 t285 t286))) else (none)) else (none)) = some (r1, r2, r3, r4, r5, r6, r7) := by first | (rw [hji18] at H; exact H) | (simp only [hji18] at H ⊢; exact H)
      have hji18w : (IntKind.i64.wrap ((a0.size : Int) - 2)) = ji18 := (i64_w _).trans hji18
      by_cases c19 : 0 ≤ (ji18)
      ·rw [if_pos c19] at H
       have c19b0 := eq_true c19
       have c19b1 : decide (0 ≤ (ji18)) = true := decide_eq_true c19
       clear c19
       by_cases c20 : (ji18) ≤ (a0.size : Int)
       ·rw [if_pos c20] at H
        have c20b0 := eq_true c20
        have c20b1 : decide ((ji18) ≤ (a0.size : Int)) = true := decide_eq_true c20
        clear c20
        replace H := Option.bind_eq_some_iff.mp H
        obtain ⟨t289, A210, H⟩ := H
        replace H : ((impl_NumPut.f kj2 t289 2).bind fun t290 => (impl_CmdGet.j1 kj2 (t290.toList != (a0.extract ((ji18) : Int).toNat a0.size).toList) t283 t284 t285 t286)) = some (r1, r2, r3, r4, r5, r6, r7) := H
        have A21 := Aside0.mk A210
        clear A210
        replace H := Option.bind_eq_some_iff.mp H
        obtain ⟨t290, A220, H⟩ := H
        replace H : (impl_CmdGet.j1 kj2 (t290.toList != (a0.extract ((ji18) : Int).toNat a0.size).toList) t283 t284 t285 t286) = some (r1, r2, r3, r4, r5, r6, r7) := H
        have A22 := Aside0.mk A220
        clear A220
        have c23b0 := eq_true (of_decide_eq_true (by first | (with_reducible assumption) | assumption) : 0 ≤ (ji18))
        have c24b0 := eq_true (of_decide_eq_true (by first | (with_reducible assumption) | assumption) : (ji18) ≤ (a0.size : Int))
        have H' := Aside0.mk H
        clear H
        try go_wp2
        have n0_ := m_ (blk_drew BK282.out)
        have n1_ := m_ (blk_drew BK288.out)
        have n2_ := m_ (below_drew1 HB.out)
        clear BK282
        clear BK288
        clear HB
        have BK282 := n0_
        have BK288 := n1_
        have HB := n2_
        clear n0_ n1_ n2_
        refine start_ (n := 15) (S := fun w' => w'.cell? ⟨gb288, 0, none⟩ = some (.bool t283) ∧ w'.cell? ⟨gb288, 1, none⟩ = some (.int .i64 t284) ∧ w'.cell? ⟨gb288, 2, none⟩ = some (.int .i64 t285) ∧ w'.cell? ⟨gb288, 3, none⟩ = some (.string t286)) (ds := []) #[false, false, false, false, false, false, false, false, false, false, false, false, false, false, false] (by kernel_rfl) rfl rfl ⟨bc BK288 0, bc BK288 1, bc BK288 2, bc BK288 3⟩ (fun hHeld => ?_); refine with_tabW impl_CmdGet.tab5 impl_CmdGet.bits5 (fun HT_ HW_ => ?_)
        generalize wc.drew = w25 at BK282 BK288 HB hHeld ⊢
        refine pu 0 24 HT_ (h := ?_)
        refine take_ (i := 1) (N := some 25) (v := ?_) (a' := ?_) #[true, true, false, false, false, false, false, false, false, false, false, false, false, false, false] rfl rfl (take_ofW HT_.out HW_.out (by kernel_rfl)) (fun _ _ _ h => h) (Or.inl ⟨by rfl, ?_⟩) hHeld ?_ ?_
        rotate_left
        ·rintro w' ⟨s0, s1, s2, s3⟩
         go_simp
         with_reducible rfl
        rotate_left
        ·simp only [Act.put, List.setIfInBounds_toArray, List.set_cons_zero, List.set_cons_succ, i64_w, i32_w]
         rfl
        refine pu 2 26 HT_ (h := ?_)
        refine pu 3 27 HT_ (h := ?_)
        refine pu 4 28 HT_ (h := ?_)
        refine pu 5 29 HT_ (h := ?_)
        refine pu 6 30 HT_ (h := ?_)
        refine pu 7 31 HT_ (h := ?_)
        refine pu 10 34 HT_ (h := ?_)
        refine pu 11 35 HT_ (h := ?_)
        refine pu 12 36 HT_ (h := ?_)
        refine one_ (i := 8) (N := some 32) #[true, true, true, true, true, true, true, true, true, false, true, true, true, false, false] rfl rfl (one_of HT_.out (by kernel_rfl)) (by decide) (fun K hK => ?_)
        refine goes_ Tryd.func15 (by kernel_rfl) rfl #[.string (a0.extract 0 ((ji18) : Int).toNat)] (by rfl) rfl rfl (by (try simp only [List.map_toArray, List.map_cons, List.map_nil]); first | done | (simp only [hji18]; rfl) | rfl | (simp only [List.length_drop, List.length_take]; rfl)) ?_
        with_reducible refine (impl_Crc16.calls (a0.extract 0 ((ji18) : Int).toNat) t289 _ A21.out).mono ?_
        rintro e w26 ⟨rfl, hb⟩
        refine ⟨_, rfl, ?_⟩
        have n0_ := m_ (blk_below (g := gb282) (o := .cells #[.int .i64 0, .int .i64 0, .int .i64 0, .int .i64 0, .int .i64 0, .string (⟨#[]⟩ : ByteArray)] 24 (0, 0)) (kN BK282.out) hb)
        have n1_ := m_ (blk_below (kN BK288.out) hb)
        have n2_ := m_ (below_step (bN HB.out) hb)
        clear BK282
        clear BK288
        clear HB
        have BK282 := n0_
        have BK288 := n1_
        have HB := n2_
        clear n0_ n1_ n2_
        (try clear hb)
        (try clear hb2)
        (try clear hk)
        (try clear hi)
        refine hK.out _ _ ⟨bc BK288 0, bc BK288 1, bc BK288 2, bc BK288 3⟩ (fun hHeld => ?_)
        clear hK K
        refine np (h := ?_)
        refine one_ (i := 9) (N := some 33) #[true, true, true, true, true, true, true, true, true, true, true, true, true, false, false] rfl rfl (one_of HT_.out (by kernel_rfl)) (by decide) (fun K hK => ?_)
        refine goes_ Tryd.func14 (by kernel_rfl) rfl #[.int .i64 t289, .int .i64 2] (by rfl) rfl rfl gl_ ?_
        with_reducible refine (impl_NumPut.calls kj2 t289 2 t290 _ A22.out).mono ?_
        rintro e w27 ⟨rfl, hb⟩
        refine ⟨_, rfl, ?_⟩
        have n0_ := m_ (blk_below (g := gb282) (o := .cells #[.int .i64 0, .int .i64 0, .int .i64 0, .int .i64 0, .int .i64 0, .string (⟨#[]⟩ : ByteArray)] 24 (0, 0)) (kN BK282.out) hb)
        have n1_ := m_ (blk_below (kN BK288.out) hb)
        have n2_ := m_ (below_step (bN HB.out) hb)
        clear BK282
        clear BK288
        clear HB
        have BK282 := n0_
        have BK288 := n1_
        have HB := n2_
        clear n0_ n1_ n2_
        (try clear hb)
        (try clear hb2)
        (try clear hk)
        (try clear hi)
        refine hK.out _ _ ⟨bc BK288 0, bc BK288 1, bc BK288 2, bc BK288 3⟩ (fun hHeld => ?_)
        clear hK K
        refine np (h := ?_)
        refine pu 13 37 HT_ (h := ?_)
        refine pu 14 38 HT_ (h := ?_)
        refine done_ (done_of HT_.out (by kernel_rfl)) ?_
        try go_wp2
        go_meet
        case rel => exact ⟨_, ((t290.toList != (a0.extract ((ji18) : Int).toNat a0.size).toList)), (by first | rfl | (simp; done) | (simp only [← hji18] <;> (first | rfl | simp)) | (simp [*]; done)), H', ⟨by have := HJ2.out; first | omega | exact Nat.le_refl _⟩, ⟨kN BK282.out⟩, ⟨kN BK288.out⟩, ⟨by repeat (first | (with_reducible first | exact HB.out | apply below_alloc | apply pw_below_drewN | apply below_drew1 | refine below_set ?_ GE282.out | refine below_set ?_ GE288.out) | exact HB.out)⟩⟩
       ·rw [if_neg c20] at H
        exact absurd H (by simp)
      ·rw [if_neg c19] at H
       exact absurd H (by simp)
    case rest =>
     clear HC15
     try clear c1
     try clear c2
     try clear p2
     try clear p6
     try clear c7
     try clear c9
     try clear c10
     try clear c12
     try clear c13
     try clear c14
     try clear c15
     try clear c16
     try clear c16b0
     try clear c16b1
     try clear c18
     try clear c19
     try clear c19b0
     try clear c19b1
     try clear c20
     try clear c20b0
     try clear c20b1
     try clear c23
     try clear c23b0
     try clear c24
     try clear c24b0
     try clear hcz11_0
     try clear hcz11_1
     try clear hcz11_2
     try clear hcz11_3
     try clear hcz14_0
     try clear hcz14_1
     try clear hcz14_2
     try clear hcz14_3
     try clear hcz14_4
     try clear hcz14_5
     try clear hcz8_0
     try clear hcz8_1
     try clear hcz8_2
     try clear hcz8_3
     try clear hfz11_0
     try clear hfz11_1
     try clear hfz11_2
     try clear hfz11_3
     try clear hfz14_0
     try clear hfz14_1
     try clear hfz14_2
     try clear hfz14_3
     try clear hfz14_4
     try clear hfz14_5
     try clear hfz8_0
     try clear hfz8_1
     try clear hfz8_2
     try clear hfz8_3
     try clear p2
     obtain ⟨kq, x38_14, rfl, HA, HJ14, BK282, BK288, HB⟩ := hcut
     cases kq with
     | zero => exact absurd HA.out (by simp [impl_CmdGet.j1])
     | succ kj14 =>
      have H := HA.out
      clear HA
      simp only [impl_CmdGet.j1] at H
      by_cases c28 : x38_14 = true
      ·subst c28
       have H1 : (some (0, 0, 0, 0, 0, (⟨#[]⟩ : ByteArray), 2)) = some (r1, r2, r3, r4, r5, r6, r7) := by rw [if_pos rfl] at H; exact H
       clear H
       have H := H1
       clear H1
       simp only [Option.some.injEq, Prod.mk.injEq] at H
       obtain ⟨rfl, rfl, rfl, rfl, rfl, rfl, rfl⟩ := H
       have hnb29 := NB282_288.out
       have hnc29 := NB288_282.out
       have hcz30_0 : wc.cell? ⟨gb282, 0, none⟩ = some (.int .i64 0) := bc BK282 0
       have hcz30_1 : wc.cell? ⟨gb282, 1, none⟩ = some (.int .i64 0) := bc BK282 1
       have hcz30_2 : wc.cell? ⟨gb282, 2, none⟩ = some (.int .i64 0) := bc BK282 2
       have hcz30_3 : wc.cell? ⟨gb282, 3, none⟩ = some (.int .i64 0) := bc BK282 3
       have hcz30_4 : wc.cell? ⟨gb282, 4, none⟩ = some (.int .i64 0) := bc BK282 4
       have hcz30_5 : wc.cell? ⟨gb282, 5, none⟩ = some (.string (⟨#[]⟩ : ByteArray)) := bc BK282 5
       have hfz30_0 := blk_frozen BK282.out 0
       have hfz30_1 := blk_frozen BK282.out 1
       have hfz30_2 := blk_frozen BK282.out 2
       have hfz30_3 := blk_frozen BK282.out 3
       have hfz30_4 := blk_frozen BK282.out 4
       have hfz30_5 := blk_frozen BK282.out 5
       go_wp2
       refine bodyPost_ret (results_ct rfl _ _ gb282 24 #[.int .i64 0, .int .i64 0, .int .i64 0, .int .i64 0, .int .i64 0, .string (⟨#[]⟩ : ByteArray)] (0, 0) _ rfl (kP BK282.out) Tryd.underlying24 rfl (by kernel_rfl)) rfl ?_
       exact ⟨by first | rfl | (simp [errW_none, errW_some] <;> rfl) | (simp [*, errW_none, errW_some] <;> rfl), by repeat (first | (with_reducible first | exact HB.out | apply below_alloc | apply pw_below_drewN | apply below_drew1 | refine below_set ?_ GE282.out | refine below_set ?_ GE288.out) | exact HB.out)⟩
      ·replace c28 := Bool.eq_false_iff.mpr c28
       subst c28
       have H1 : (if (wrap64 ((t286.size : Int) - 6)) < 0 then (some (0, 0, 0, 0, 0, (⟨#[]⟩ : ByteArray), 3)) else (if 0 ≤ 1 then (if 1 ≤ (t286.size : Int) then (if (t286.extract 0 1).toList = ([47] : List UInt8) then (if (wrap64 ((t286.size : Int) - 6)) > 60 then (some (0, 0, 0, 0, 0, (⟨#[]⟩ : ByteArray), 3)) else (if 3 < (t286.size : Int) then (if 1 < (t286.size : Int) then (if 2 < (t286.size : Int) then (if 4 ≤ (wrap64 (4 + (wrap64 ((t286.size : Int) - 6)))) then (if (wrap64 (4 + (wrap64 ((t286.size : Int) - 6)))) ≤ (t286.size : Int) then (some (t284, t285, wrap64 (bt t286 3), wrap64 (bt t286 1), wrap64 (bt t286 2), t286.extract 4 ((wrap64 (4 + (wrap64 ((t286.size : Int) - 6)))) : Int).toNat, 0)) else (none)) else (none)) else (none)) else (none)) else (none))) else (some (0, 0, 0, 0, 0, (⟨#[]⟩ : ByteArray), 3))) else (none)) else (none))) = some (r1, r2, r3, r4, r5, r6, r7) := by rw [if_neg (show ¬ (false = true) by decide)] at H; exact H
       clear H
       have H := H1
       clear H1
       by_cases c31 : (wrap64 ((t286.size : Int) - 6)) < 0
       ·rw [if_pos c31] at H
        have c31b0 : decide ((wrap64 ((t286.size : Int) - 6)) < 0) = true := decide_eq_true c31
        clear c31
        simp only [Option.some.injEq, Prod.mk.injEq] at H
        obtain ⟨rfl, rfl, rfl, rfl, rfl, rfl, rfl⟩ := H
        have hnb32 := NB288_282.out
        have hnc32 := NB282_288.out
        have hcz33_0 : wc.cell? ⟨gb288, 0, none⟩ = some (.bool t283) := bc BK288 0
        have hcz33_1 : wc.cell? ⟨gb288, 1, none⟩ = some (.int .i64 t284) := bc BK288 1
        have hcz33_2 : wc.cell? ⟨gb288, 2, none⟩ = some (.int .i64 t285) := bc BK288 2
        have hcz33_3 : wc.cell? ⟨gb288, 3, none⟩ = some (.string t286) := bc BK288 3
        have hfz33_0 := blk_frozen BK288.out 0
        have hfz33_1 := blk_frozen BK288.out 1
        have hfz33_2 := blk_frozen BK288.out 2
        have hfz33_3 := blk_frozen BK288.out 3
        have hcz34_0 : wc.cell? ⟨gb282, 0, none⟩ = some (.int .i64 0) := bc BK282 0
        have hcz34_1 : wc.cell? ⟨gb282, 1, none⟩ = some (.int .i64 0) := bc BK282 1
        have hcz34_2 : wc.cell? ⟨gb282, 2, none⟩ = some (.int .i64 0) := bc BK282 2
        have hcz34_3 : wc.cell? ⟨gb282, 3, none⟩ = some (.int .i64 0) := bc BK282 3
        have hcz34_4 : wc.cell? ⟨gb282, 4, none⟩ = some (.int .i64 0) := bc BK282 4
        have hcz34_5 : wc.cell? ⟨gb282, 5, none⟩ = some (.string (⟨#[]⟩ : ByteArray)) := bc BK282 5
        have hfz34_0 := blk_frozen BK282.out 0
        have hfz34_1 := blk_frozen BK282.out 1
        have hfz34_2 := blk_frozen BK282.out 2
        have hfz34_3 := blk_frozen BK282.out 3
        have hfz34_4 := blk_frozen BK282.out 4
        have hfz34_5 := blk_frozen BK282.out 5
        go_wp2
        refine bodyPost_ret (results_ct rfl _ _ gb282 24 #[.int .i64 0, .int .i64 0, .int .i64 0, .int .i64 0, .int .i64 0, .string (⟨#[]⟩ : ByteArray)] (0, 0) _ rfl (kP BK282.out) Tryd.underlying24 rfl (by kernel_rfl)) rfl ?_
        exact ⟨by first | rfl | (simp [errW_none, errW_some] <;> rfl) | (simp [*, errW_none, errW_some] <;> rfl), by repeat (first | (with_reducible first | exact HB.out | apply below_alloc | apply pw_below_drewN | apply below_drew1 | refine below_set ?_ GE282.out | refine below_set ?_ GE288.out) | exact HB.out)⟩
       ·rw [if_neg c31] at H
        have c31b0 : decide ((wrap64 ((t286.size : Int) - 6)) < 0) = false := decide_eq_false c31
        clear c31
        by_cases c35 : 0 ≤ 1
        ·rw [if_pos c35] at H
         have c35b0 := eq_true c35
         have c35b1 : decide (0 ≤ 1) = true := decide_eq_true c35
         clear c35
         by_cases c36 : 1 ≤ (t286.size : Int)
         ·rw [if_pos c36] at H
          have c36b0 := eq_true c36
          have c36b1 : decide (1 ≤ (t286.size : Int)) = true := decide_eq_true c36
          clear c36
          by_cases c37 : (t286.extract 0 1).toList = ([47] : List UInt8)
          ·rw [if_pos c37] at H
           have c37b0 : ((t286.extract 0 1).toList == ([47] : List UInt8)) = true := beq_iff_eq.mpr c37
           have c37b1 : ((t286.extract 0 1).toList != ([47] : List UInt8)) = false := bne_eq_false_iff_eq.mpr c37
           clear c37
           by_cases c38 : (wrap64 ((t286.size : Int) - 6)) > 60
           ·rw [if_pos c38] at H
            have c38b0 : decide (60 < (wrap64 ((t286.size : Int) - 6))) = true := decide_eq_true c38
            clear c38
            simp only [Option.some.injEq, Prod.mk.injEq] at H
            obtain ⟨rfl, rfl, rfl, rfl, rfl, rfl, rfl⟩ := H
            have hnb39 := NB288_282.out
            have hnc39 := NB282_288.out
            have hcz40_0 : wc.cell? ⟨gb288, 0, none⟩ = some (.bool t283) := bc BK288 0
            have hcz40_1 : wc.cell? ⟨gb288, 1, none⟩ = some (.int .i64 t284) := bc BK288 1
            have hcz40_2 : wc.cell? ⟨gb288, 2, none⟩ = some (.int .i64 t285) := bc BK288 2
            have hcz40_3 : wc.cell? ⟨gb288, 3, none⟩ = some (.string t286) := bc BK288 3
            have hfz40_0 := blk_frozen BK288.out 0
            have hfz40_1 := blk_frozen BK288.out 1
            have hfz40_2 := blk_frozen BK288.out 2
            have hfz40_3 := blk_frozen BK288.out 3
            have hcz41_0 : wc.cell? ⟨gb282, 0, none⟩ = some (.int .i64 0) := bc BK282 0
            have hcz41_1 : wc.cell? ⟨gb282, 1, none⟩ = some (.int .i64 0) := bc BK282 1
            have hcz41_2 : wc.cell? ⟨gb282, 2, none⟩ = some (.int .i64 0) := bc BK282 2
            have hcz41_3 : wc.cell? ⟨gb282, 3, none⟩ = some (.int .i64 0) := bc BK282 3
            have hcz41_4 : wc.cell? ⟨gb282, 4, none⟩ = some (.int .i64 0) := bc BK282 4
            have hcz41_5 : wc.cell? ⟨gb282, 5, none⟩ = some (.string (⟨#[]⟩ : ByteArray)) := bc BK282 5
            have hfz41_0 := blk_frozen BK282.out 0
            have hfz41_1 := blk_frozen BK282.out 1
            have hfz41_2 := blk_frozen BK282.out 2
            have hfz41_3 := blk_frozen BK282.out 3
            have hfz41_4 := blk_frozen BK282.out 4
            have hfz41_5 := blk_frozen BK282.out 5
            go_wp2
            refine bodyPost_ret (results_ct rfl _ _ gb282 24 #[.int .i64 0, .int .i64 0, .int .i64 0, .int .i64 0, .int .i64 0, .string (⟨#[]⟩ : ByteArray)] (0, 0) _ rfl (kP BK282.out) Tryd.underlying24 rfl (by kernel_rfl)) rfl ?_
            exact ⟨by first | rfl | (simp [errW_none, errW_some] <;> rfl) | (simp [*, errW_none, errW_some] <;> rfl), by repeat (first | (with_reducible first | exact HB.out | apply below_alloc | apply pw_below_drewN | apply below_drew1 | refine below_set ?_ GE282.out | refine below_set ?_ GE288.out) | exact HB.out)⟩
           ·rw [if_neg c38] at H
            have c38b0 : decide (60 < (wrap64 ((t286.size : Int) - 6))) = false := decide_eq_false c38
            clear c38
            by_cases c42 : 3 < (t286.size : Int)
            ·rw [if_pos c42] at H
             have c42b0 : decide (3 < (t286.size : Int)) = true := decide_eq_true c42
             have c42b1 : decide (3 < t286.size) = true := decide_eq_true (by omega)
             clear c42
             by_cases c44 : 1 < (t286.size : Int)
             ·rw [if_pos c44] at H
              have c44b0 : decide (1 < (t286.size : Int)) = true := decide_eq_true c44
              have c44b1 : decide (1 < t286.size) = true := decide_eq_true (by omega)
              clear c44
              by_cases c46 : 2 < (t286.size : Int)
              ·rw [if_pos c46] at H
               have c46b0 : decide (2 < (t286.size : Int)) = true := decide_eq_true c46
               have c46b1 : decide (2 < t286.size) = true := decide_eq_true (by omega)
               clear c46
               by_cases c48 : 4 ≤ (wrap64 (4 + (wrap64 ((t286.size : Int) - 6))))
               ·rw [if_pos c48] at H
                have c48b0 := eq_true c48
                have c48b1 : decide (4 ≤ (wrap64 (4 + (wrap64 ((t286.size : Int) - 6))))) = true := decide_eq_true c48
                by_cases c49 : (wrap64 (4 + (wrap64 ((t286.size : Int) - 6)))) ≤ (t286.size : Int)
                ·rw [if_pos c49] at H
                 have c49b0 := eq_true c49
                 have c49b1 : decide ((wrap64 (4 + (wrap64 ((t286.size : Int) - 6)))) ≤ (t286.size : Int)) = true := decide_eq_true c49
                 simp only [Option.some.injEq, Prod.mk.injEq] at H
                 obtain ⟨rfl, rfl, rfl, rfl, rfl, rfl, rfl⟩ := H
                 have hnb50 := NB288_282.out
                 have hnc50 := NB282_288.out
                 have hcz51_0 : wc.cell? ⟨gb288, 0, none⟩ = some (.bool t283) := bc BK288 0
                 have hcz51_1 : wc.cell? ⟨gb288, 1, none⟩ = some (.int .i64 t284) := bc BK288 1
                 have hcz51_2 : wc.cell? ⟨gb288, 2, none⟩ = some (.int .i64 t285) := bc BK288 2
                 have hcz51_3 : wc.cell? ⟨gb288, 3, none⟩ = some (.string t286) := bc BK288 3
                 have hfz51_0 := blk_frozen BK288.out 0
                 have hfz51_1 := blk_frozen BK288.out 1
                 have hfz51_2 := blk_frozen BK288.out 2
                 have hfz51_3 := blk_frozen BK288.out 3
                 try go_wp2
                 have n0_ := m_ (blk_drew BK282.out)
                 have n1_ := m_ (blk_drew BK288.out)
                 have n2_ := m_ (below_drew1 HB.out)
                 clear BK282
                 clear BK288
                 clear HB
                 have BK282 := n0_
                 have BK288 := n1_
                 have HB := n2_
                 clear n0_ n1_ n2_
                 have p43 : 0 ≤ (3 : Int) := (by omega)
                 have q43 : 3 < t286.size := (by have : (3 : Int) < (t286.size : Int) := of_decide_eq_true (by first | (with_reducible assumption) | assumption); omega)
                 have hx43 : ∀ h : 3 < t286.size, ((t286[3]'h).toNat : Int) = bt t286 3 := bt_at t286 3
                 clear p43
                 have qi43 : (3 < (t286.size : Int)) = True := eq_true (of_decide_eq_true (by first | (with_reducible assumption) | assumption))
                 replace q43 := eq_true q43
                 have p45 : 0 ≤ (1 : Int) := (by omega)
                 have q45 : 1 < t286.size := (by have : (1 : Int) < (t286.size : Int) := of_decide_eq_true (by first | (with_reducible assumption) | assumption); omega)
                 have hx45 : ∀ h : 1 < t286.size, ((t286[1]'h).toNat : Int) = bt t286 1 := bt_at t286 1
                 clear p45
                 have qi45 : (1 < (t286.size : Int)) = True := eq_true (of_decide_eq_true (by first | (with_reducible assumption) | assumption))
                 replace q45 := eq_true q45
                 have p47 : 0 ≤ (2 : Int) := (by omega)
                 have q47 : 2 < t286.size := (by have : (2 : Int) < (t286.size : Int) := of_decide_eq_true (by first | (with_reducible assumption) | assumption); omega)
                 have hx47 : ∀ h : 2 < t286.size, ((t286[2]'h).toNat : Int) = bt t286 2 := bt_at t286 2
                 clear p47
                 have qi47 : (2 < (t286.size : Int)) = True := eq_true (of_decide_eq_true (by first | (with_reducible assumption) | assumption))
                 replace q47 := eq_true q47
                 refine start_ (n := 24) (S := fun w' => w'.cell? ⟨gb288, 0, none⟩ = some (.bool t283) ∧ w'.cell? ⟨gb288, 1, none⟩ = some (.int .i64 t284) ∧ w'.cell? ⟨gb288, 2, none⟩ = some (.int .i64 t285) ∧ w'.cell? ⟨gb288, 3, none⟩ = some (.string t286)) (ds := []) #[false, false, false, false, false, false, false, false, false, false, false, false, false, false, false, false, false, false, false, false, false, false, false, false] (by kernel_rfl) rfl rfl ⟨bc BK288 0, bc BK288 1, bc BK288 2, bc BK288 3⟩ (fun hHeld => ?_); refine with_tabW impl_CmdGet.tab10 impl_CmdGet.bits10 (fun HT_ HW_ => ?_)
                 generalize wc.drew = w52 at BK282 BK288 HB hHeld ⊢
                 refine pu 0 57 HT_ (h := ?_)
                 refine pu 2 59 HT_ (h := ?_)
                 refine pu 4 61 HT_ (h := ?_)
                 refine pu 8 65 HT_ (h := ?_)
                 refine pu 12 69 HT_ (h := ?_)
                 refine pu 16 73 HT_ (h := ?_)
                 refine pu 18 75 HT_ (h := ?_)
                 refine pu 19 76 HT_ (h := ?_)
                 refine take_ (i := 1) (N := some 58) (v := ?_) (a' := ?_) #[true, true, true, false, true, false, false, false, true, false, false, false, true, false, false, false, true, false, true, true, false, false, false, false] rfl rfl (take_ofW HT_.out HW_.out (by kernel_rfl)) (fun _ _ _ h => h) (Or.inl ⟨by rfl, ?_⟩) hHeld ?_ ?_
                 rotate_left
                 ·rintro w' ⟨s0, s1, s2, s3⟩
                  go_simp
                  with_reducible rfl
                 rotate_left
                 ·simp only [Act.put, List.setIfInBounds_toArray, List.set_cons_zero, List.set_cons_succ, i64_w, i32_w]
                  rfl
                 refine take_ (i := 3) (N := some 60) (v := ?_) (a' := ?_) #[true, true, true, true, true, false, false, false, true, false, false, false, true, false, false, false, true, false, true, true, false, false, false, false] rfl rfl (take_ofW HT_.out HW_.out (by kernel_rfl)) (fun _ _ _ h => h) (Or.inl ⟨by rfl, ?_⟩) hHeld ?_ ?_
                 rotate_left
                 ·rintro w' ⟨s0, s1, s2, s3⟩
                  go_simp
                  with_reducible rfl
                 rotate_left
                 ·simp only [Act.put, List.setIfInBounds_toArray, List.set_cons_zero, List.set_cons_succ, i64_w, i32_w]
                  rfl
                 refine take_ (i := 5) (N := some 62) (v := ?_) (a' := ?_) #[true, true, true, true, true, true, false, false, true, false, false, false, true, false, false, false, true, false, true, true, false, false, false, false] rfl rfl (take_ofW HT_.out HW_.out (by kernel_rfl)) (fun _ _ _ h => h) (Or.inl ⟨by rfl, ?_⟩) hHeld ?_ ?_
                 rotate_left
                 ·rintro w' ⟨s0, s1, s2, s3⟩
                  go_simp
                  with_reducible rfl
                 rotate_left
                 ·simp only [Act.put, List.setIfInBounds_toArray, List.set_cons_zero, List.set_cons_succ, i64_w, i32_w]
                  rfl
                 refine take_ (i := 6) (N := some 63) (v := ?_) (a' := ?_) #[true, true, true, true, true, true, true, false, true, false, false, false, true, false, false, false, true, false, true, true, false, false, false, false] rfl rfl (take_ofW HT_.out HW_.out (by kernel_rfl)) (fun _ _ _ h => h) (Or.inl ⟨by rfl, ?_⟩) hHeld ?_ ?_
                 rotate_left
                 ·rintro w' ⟨s0, s1, s2, s3⟩
                  go_simp
                  with_reducible rfl
                 rotate_left
                 ·simp only [Act.put, List.setIfInBounds_toArray, List.set_cons_zero, List.set_cons_succ, i64_w, i32_w]
                  rfl
                 refine pu 7 64 HT_ (h := ?_)
                 refine take_ (i := 9) (N := some 66) (v := ?_) (a' := ?_) #[true, true, true, true, true, true, true, true, true, true, false, false, true, false, false, false, true, false, true, true, false, false, false, false] rfl rfl (take_ofW HT_.out HW_.out (by kernel_rfl)) (fun _ _ _ h => h) (Or.inl ⟨by rfl, ?_⟩) hHeld ?_ ?_
                 rotate_left
                 ·rintro w' ⟨s0, s1, s2, s3⟩
                  go_simp
                  with_reducible rfl
                 rotate_left
                 ·simp only [Act.put, List.setIfInBounds_toArray, List.set_cons_zero, List.set_cons_succ, i64_w, i32_w]
                  rfl
                 refine take_ (i := 10) (N := some 67) (v := ?_) (a' := ?_) #[true, true, true, true, true, true, true, true, true, true, true, false, true, false, false, false, true, false, true, true, false, false, false, false] rfl rfl (take_ofW HT_.out HW_.out (by kernel_rfl)) (fun _ _ _ h => h) (Or.inl ⟨by rfl, ?_⟩) hHeld ?_ ?_
                 rotate_left
                 ·rintro w' ⟨s0, s1, s2, s3⟩
                  go_simp
                  with_reducible rfl
                 rotate_left
                 ·simp only [Act.put, List.setIfInBounds_toArray, List.set_cons_zero, List.set_cons_succ, i64_w, i32_w]
                  rfl
                 refine pu 11 68 HT_ (h := ?_)
                 refine take_ (i := 13) (N := some 70) (v := ?_) (a' := ?_) #[true, true, true, true, true, true, true, true, true, true, true, true, true, true, false, false, true, false, true, true, false, false, false, false] rfl rfl (take_ofW HT_.out HW_.out (by kernel_rfl)) (fun _ _ _ h => h) (Or.inl ⟨by rfl, ?_⟩) hHeld ?_ ?_
                 rotate_left
                 ·rintro w' ⟨s0, s1, s2, s3⟩
                  go_simp
                  with_reducible rfl
                 rotate_left
                 ·simp only [Act.put, List.setIfInBounds_toArray, List.set_cons_zero, List.set_cons_succ, i64_w, i32_w]
                  rfl
                 refine take_ (i := 14) (N := some 71) (v := ?_) (a' := ?_) #[true, true, true, true, true, true, true, true, true, true, true, true, true, true, true, false, true, false, true, true, false, false, false, false] rfl rfl (take_ofW HT_.out HW_.out (by kernel_rfl)) (fun _ _ _ h => h) (Or.inl ⟨by rfl, ?_⟩) hHeld ?_ ?_
                 rotate_left
                 ·rintro w' ⟨s0, s1, s2, s3⟩
                  go_simp
                  with_reducible rfl
                 rotate_left
                 ·simp only [Act.put, List.setIfInBounds_toArray, List.set_cons_zero, List.set_cons_succ, i64_w, i32_w]
                  rfl
                 refine pu 15 72 HT_ (h := ?_)
                 refine take_ (i := 17) (N := some 74) (v := ?_) (a' := ?_) #[true, true, true, true, true, true, true, true, true, true, true, true, true, true, true, true, true, true, true, true, false, false, false, false] rfl rfl (take_ofW HT_.out HW_.out (by kernel_rfl)) (fun _ _ _ h => h) (Or.inl ⟨by rfl, ?_⟩) hHeld ?_ ?_
                 rotate_left
                 ·rintro w' ⟨s0, s1, s2, s3⟩
                  go_simp
                  with_reducible rfl
                 rotate_left
                 ·simp only [Act.put, List.setIfInBounds_toArray, List.set_cons_zero, List.set_cons_succ, i64_w, i32_w]
                  rfl
                 refine pu 20 77 HT_ (h := ?_)
                 refine pu 21 78 HT_ (h := ?_)
                 refine one_ (i := 22) (N := none) #[true, true, true, true, true, true, true, true, true, true, true, true, true, true, true, true, true, true, true, true, true, true, true, false] rfl rfl (one_of HT_.out (by kernel_rfl)) (by decide) (fun K hK => ?_)
                 have hs53 : w52.cell? ⟨gb282, 0, none⟩ = some (.int .i64 0) := bc BK282 0
                 have hfs53 := blk_frozen BK282.out 0
                 have hns53_1 := NB288_282.out
                 have hms53_1 := NB282_288.out
                 have hs54 : w52.cell? ⟨gb282, 1, none⟩ = some (.int .i64 0) := bc BK282 1
                 have hfs54 := blk_frozen BK282.out 1
                 have hns54_1 := NB288_282.out
                 have hms54_1 := NB282_288.out
                 have hs55 : w52.cell? ⟨gb282, 2, none⟩ = some (.int .i64 0) := bc BK282 2
                 have hfs55 := blk_frozen BK282.out 2
                 have hns55_1 := NB288_282.out
                 have hms55_1 := NB282_288.out
                 have hs56 : w52.cell? ⟨gb282, 3, none⟩ = some (.int .i64 0) := bc BK282 3
                 have hfs56 := blk_frozen BK282.out 3
                 have hns56_1 := NB288_282.out
                 have hms56_1 := NB282_288.out
                 have hs57 : w52.cell? ⟨gb282, 4, none⟩ = some (.int .i64 0) := bc BK282 4
                 have hfs57 := blk_frozen BK282.out 4
                 have hns57_1 := NB288_282.out
                 have hms57_1 := NB282_288.out
                 have hs58 : w52.cell? ⟨gb282, 5, none⟩ = some (.string (⟨#[]⟩ : ByteArray)) := bc BK282 5
                 have hfs58 := blk_frozen BK282.out 5
                 have hns58_1 := NB288_282.out
                 have hms58_1 := NB282_288.out
                 refine skip_ (w1 := ?_) (by rfl) rfl ?_ ?_
                 rotate_left
                 ·go_simp
                  rfl
                 refine hK.out _ _ ⟨((cell_far (p := ⟨gb282, _, none⟩) NB288_282.out _).trans (((cell_far (p := ⟨gb282, _, none⟩) NB288_282.out _).trans (((cell_far (p := ⟨gb282, _, none⟩) NB288_282.out _).trans (((cell_far (p := ⟨gb282, _, none⟩) NB288_282.out _).trans (((cell_far (p := ⟨gb282, _, none⟩) NB288_282.out _).trans (((cell_far (p := ⟨gb282, _, none⟩) NB288_282.out _).trans (hHeld.1)))))))))))), ((cell_far (p := ⟨gb282, _, none⟩) NB288_282.out _).trans (((cell_far (p := ⟨gb282, _, none⟩) NB288_282.out _).trans (((cell_far (p := ⟨gb282, _, none⟩) NB288_282.out _).trans (((cell_far (p := ⟨gb282, _, none⟩) NB288_282.out _).trans (((cell_far (p := ⟨gb282, _, none⟩) NB288_282.out _).trans (((cell_far (p := ⟨gb282, _, none⟩) NB288_282.out _).trans (hHeld.2.1)))))))))))), ((cell_far (p := ⟨gb282, _, none⟩) NB288_282.out _).trans (((cell_far (p := ⟨gb282, _, none⟩) NB288_282.out _).trans (((cell_far (p := ⟨gb282, _, none⟩) NB288_282.out _).trans (((cell_far (p := ⟨gb282, _, none⟩) NB288_282.out _).trans (((cell_far (p := ⟨gb282, _, none⟩) NB288_282.out _).trans (((cell_far (p := ⟨gb282, _, none⟩) NB288_282.out _).trans (hHeld.2.2.1)))))))))))), ((cell_far (p := ⟨gb282, _, none⟩) NB288_282.out _).trans (((cell_far (p := ⟨gb282, _, none⟩) NB288_282.out _).trans (((cell_far (p := ⟨gb282, _, none⟩) NB288_282.out _).trans (((cell_far (p := ⟨gb282, _, none⟩) NB288_282.out _).trans (((cell_far (p := ⟨gb282, _, none⟩) NB288_282.out _).trans (((cell_far (p := ⟨gb282, _, none⟩) NB288_282.out _).trans (hHeld.2.2.2))))))))))))⟩ (fun hHeld => ?_)
                 clear hK K
                 refine pu 23 3 HT_ (h := ?_)
                 refine done_ (done_of HT_.out (by kernel_rfl)) ?_
                 try go_wp2
                 refine bodyPost_ret (results_ct rfl _ _ gb282 24 #[.int .i64 t284, .int .i64 t285, .int .i64 (wrap64 (bt t286 3)), .int .i64 (wrap64 (bt t286 1)), .int .i64 (wrap64 (bt t286 2)), .string (t286.extract 4 ((wrap64 (4 + (wrap64 ((t286.size : Int) - 6)))) : Int).toNat)] (0, 0) _ rfl (kP BK282.out) Tryd.underlying24 rfl (by kernel_rfl)) rfl ?_
                 exact ⟨by first | rfl | (simp [errW_none, errW_some] <;> rfl) | (simp [*, errW_none, errW_some] <;> rfl), by repeat (first | (with_reducible first | exact HB.out | apply below_alloc | apply pw_below_drewN | apply below_drew1 | refine below_set ?_ GE282.out | refine below_set ?_ GE288.out) | exact HB.out)⟩
                ·rw [if_neg c49] at H
                 exact absurd H (by simp)
               ·rw [if_neg c48] at H
                exact absurd H (by simp)
              ·rw [if_neg c46] at H
               exact absurd H (by simp)
             ·rw [if_neg c44] at H
              exact absurd H (by simp)
            ·rw [if_neg c42] at H
             exact absurd H (by simp)
          ·rw [if_neg c37] at H
           have c37b0 : ((t286.extract 0 1).toList == ([47] : List UInt8)) = false := beq_eq_false_iff_ne.mpr c37
           have c37b1 : ((t286.extract 0 1).toList != ([47] : List UInt8)) = true := bne_iff_ne.mpr c37
           simp only [Option.some.injEq, Prod.mk.injEq] at H
           obtain ⟨rfl, rfl, rfl, rfl, rfl, rfl, rfl⟩ := H
           have hnb59 := NB288_282.out
           have hnc59 := NB282_288.out
           have hcz60_0 : wc.cell? ⟨gb288, 0, none⟩ = some (.bool t283) := bc BK288 0
           have hcz60_1 : wc.cell? ⟨gb288, 1, none⟩ = some (.int .i64 t284) := bc BK288 1
           have hcz60_2 : wc.cell? ⟨gb288, 2, none⟩ = some (.int .i64 t285) := bc BK288 2
           have hcz60_3 : wc.cell? ⟨gb288, 3, none⟩ = some (.string t286) := bc BK288 3
           have hfz60_0 := blk_frozen BK288.out 0
           have hfz60_1 := blk_frozen BK288.out 1
           have hfz60_2 := blk_frozen BK288.out 2
           have hfz60_3 := blk_frozen BK288.out 3
           have hcz61_0 : wc.cell? ⟨gb282, 0, none⟩ = some (.int .i64 0) := bc BK282 0
           have hcz61_1 : wc.cell? ⟨gb282, 1, none⟩ = some (.int .i64 0) := bc BK282 1
           have hcz61_2 : wc.cell? ⟨gb282, 2, none⟩ = some (.int .i64 0) := bc BK282 2
           have hcz61_3 : wc.cell? ⟨gb282, 3, none⟩ = some (.int .i64 0) := bc BK282 3
           have hcz61_4 : wc.cell? ⟨gb282, 4, none⟩ = some (.int .i64 0) := bc BK282 4
           have hcz61_5 : wc.cell? ⟨gb282, 5, none⟩ = some (.string (⟨#[]⟩ : ByteArray)) := bc BK282 5
           have hfz61_0 := blk_frozen BK282.out 0
           have hfz61_1 := blk_frozen BK282.out 1
           have hfz61_2 := blk_frozen BK282.out 2
           have hfz61_3 := blk_frozen BK282.out 3
           have hfz61_4 := blk_frozen BK282.out 4
           have hfz61_5 := blk_frozen BK282.out 5
           go_wp2
           refine bodyPost_ret (results_ct rfl _ _ gb282 24 #[.int .i64 0, .int .i64 0, .int .i64 0, .int .i64 0, .int .i64 0, .string (⟨#[]⟩ : ByteArray)] (0, 0) _ rfl (kP BK282.out) Tryd.underlying24 rfl (by kernel_rfl)) rfl ?_
           exact ⟨by first | rfl | (simp [errW_none, errW_some] <;> rfl) | (simp [*, errW_none, errW_some] <;> rfl), by repeat (first | (with_reducible first | exact HB.out | apply below_alloc | apply pw_below_drewN | apply below_drew1 | refine below_set ?_ GE282.out | refine below_set ?_ GE288.out) | exact HB.out)⟩
         ·rw [if_neg c36] at H
          exact absurd H (by simp)
        ·rw [if_neg c35] at H
         exact absurd H (by simp)

end Go.Proofs.YtpehnincnpnggaaDoor.P
