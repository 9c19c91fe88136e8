/- The machine side of these statements, function by function: what each Go function answers (as a Lean function), and that it does. Written by a program (mp.py) for this claim. -/
import Derived.Test.YtllchgipnfdneaaDoorPx0
import Derived.Test.YtllchgipnfdneaaDoorPx4
import Derived.Test.YtllchgipnfdneaaDoorPx6
import Derived.Test.YtllchgipnfdneaaDoorPx9
import Derived.Test.YtllchgipnfdneaaDoorPx18
namespace Go.Proofs.YtllchgipnfdneaaDoor.P
open Go.RowKit Go.Proofs.YtllchgipnfdneaaDoorW.PrintWords Go.Proofs.YtllchgipnfdneaaDoorW.PrintLast Go.Proofs.YtllchgipnfdneaaDoorW.PrintMore
attribute [local go_sem] max2_int min2_int max_two min_two max_three min_three max_four min_four   -- for this text's walks alone
set_option linter.unusedVariables false
set_option linter.unusedSimpArgs false

/-! ### impl_RepGet: function 18 -/
def impl_RepGet.j0 : Nat → ByteArray → Bool → Bool → Int → Int → ByteArray → Option (Int × Int × Int × Int × Int × ByteArray × Bool)
 | 0, _, _, _, _, _, _ => none
 | k + 1, x0, x20, x371000, x371001, x371002, x371003 => if x20 = true then (some (0, 0, 0, 0, 0, (⟨#[]⟩ : ByteArray), false)) else (if 1 ≤ (x371003.size : Int) then ((impl_readerOf.f (x371003.extract 1 x371003.size)).bind fun bt371 => ((impl_reader_number.f k bt371.1 bt371.2.1 bt371.2.2.1 bt371.2.2.2 1).bind fun bt376 => ((impl_reader_number.f k bt376.2.1 bt376.2.2.1 bt376.2.2.2.1 bt376.2.2.2.2 1).bind fun bt381 => ((impl_reader_number.f k bt381.2.1 bt381.2.2.1 bt381.2.2.2.1 bt381.2.2.2.2 4).bind fun bt386 => (if 7 ≤ (x371003.size : Int) then ((impl_RepPut.f k x371001 x371002 bt376.1 bt381.1 bt386.1 (x371003.extract 7 x371003.size)).bind fun t392 => (if t392.toList = x0.toList then (some (x371001, x371002, bt376.1, bt381.1, bt386.1, x371003.extract 7 x371003.size, true)) else (some (0, 0, 0, 0, 0, (⟨#[]⟩ : ByteArray), false)))) else (none)))))) else (none))
def impl_RepGet.f (k : Nat) (a0 : ByteArray) : Option (Int × Int × Int × Int × Int × ByteArray × Bool) := (impl_packetOnly.f k a0).bind fun bt365 => (if bt365.2.2.2.2 = true then (impl_RepGet.j0 k a0 (decide ((bt365.2.2.2.1.size : Int) < 7)) bt365.1 bt365.2.1 bt365.2.2.1 bt365.2.2.2.1) else (impl_RepGet.j0 k a0 true bt365.1 bt365.2.1 bt365.2.2.1 bt365.2.2.2.1))
theorem impl_RepGet.mono_l : ∀ k, (∀ y0 y1 y2 y3 y4 y5, LeO (impl_RepGet.j0 k y0 y1 y2 y3 y4 y5) (impl_RepGet.j0 (k + 1) y0 y1 y2 y3 y4 y5))
 | 0 => fun _ _ _ _ _ _ r h => by simp [impl_RepGet.j0] at h
 | k + 1 => by
  have ih0 := impl_RepGet.mono_l k
  ·intro y0 y1 y2 y3 y4 y5
   unfold impl_RepGet.j0
   repeat' first
   | (with_reducible exact ih0 _ _ _ _ _ _)
   | (with_reducible exact impl_RepPut.mono _ _ _ _ _ _ _)
   | (with_reducible exact impl_packetOnly.mono _ _)
   | (with_reducible exact impl_reader_number.mono _ _ _ _ _ _)
   | (with_reducible exact LeO.refl _)
   | (with_reducible exact LeO.none _)
   | (with_reducible refine LeO.ite ?_ ?_)
   | (with_reducible refine LeO.bind ?_ (fun _ => ?_))
   | exact ih0 _ _ _ _ _ _
   | exact impl_RepPut.mono _ _ _ _ _ _ _
   | exact impl_packetOnly.mono _ _
   | exact impl_reader_number.mono _ _ _ _ _ _
   | exact LeO.none _
   | refine LeO.ite ?_ ?_
   | refine LeO.bind ?_ (fun _ => ?_)
theorem impl_RepGet.mono : ∀ a0 k, LeO (impl_RepGet.f k a0) (impl_RepGet.f (k + 1) a0) := by
 intro a0 k
 have ih0 := impl_RepGet.mono_l k
 unfold impl_RepGet.f
 repeat' first
   | (with_reducible exact ih0 _ _ _ _ _ _)
   | (with_reducible exact impl_RepPut.mono _ _ _ _ _ _ _)
   | (with_reducible exact impl_packetOnly.mono _ _)
   | (with_reducible exact impl_reader_number.mono _ _ _ _ _ _)
   | (with_reducible exact LeO.refl _)
   | (with_reducible exact LeO.none _)
   | (with_reducible refine LeO.ite ?_ ?_)
   | (with_reducible refine LeO.bind ?_ (fun _ => ?_))
   | exact ih0 _ _ _ _ _ _
   | exact impl_RepPut.mono _ _ _ _ _ _ _
   | exact impl_packetOnly.mono _ _
   | exact impl_reader_number.mono _ _ _ _ _ _
   | exact LeO.none _
   | refine LeO.ite ?_ ?_
   | refine LeO.bind ?_ (fun _ => ?_)
def impl_RepGet.T5 : Bool × List (List Nat × List Nat) := (true, [([], []), ([0], [0]), ([], []), ([2], [2]), ([], []), ([4], [4]), ([], []), ([6, 5], [6]), ([], []), ([8, 7], [8]), ([], []), ([10], [10]), ([11], [11]), ([1, 3, 5, 7, 9, 12], [1, 3, 5, 7, 9, 12]), ([], []), ([14, 13, 9, 0, 1, 2, 3, 4, 5, 6, 7, 8, 9, 10, 11, 12, 13, 14], [13, 14])])
def impl_RepGet.B5 : List Nat := [0, 1, 0, 4, 0, 16, 0, 112, 0, 496, 0, 1024, 3072, 8191, 0, 32767]
theorem impl_RepGet.tab5 : rtab .any (opsOf Tryd.f18 5) = impl_RepGet.T5 := by kernel_rfl
theorem impl_RepGet.bits5 : waitsOk impl_RepGet.T5.2 impl_RepGet.B5 = true := by kernel_rfl
set_option maxHeartbeats 8000000 in
set_option maxRecDepth 100000 in
theorem impl_RepGet.calls (k : Nat) (a0 : ByteArray) (r1 : Int) (r2 : Int) (r3 : Int) (r4 : Int) (r5 : Int) (r6 : ByteArray) (r7 : Bool) (w : World) (h : impl_RepGet.f k a0 = some (r1, r2, r3, r4, r5, r6, r7)) :
  Calls Tryd.prog 18 #[.string a0] w fun e w' => e = .returned (.tuple #[.agg #[.int .i64 r1, .int .i64 r2, .int .i64 r3, .int .i64 r4, .int .i64 r5, .string r6], .bool r7]) ∧ Below w.heap.size w w' := by
 have hu35 := Tryd.underlying35
 have hu23 := Tryd.underlying23
 have HB := m_ (Below.refl w.heap.size w)
 have H : ((impl_packetOnly.f k a0).bind fun bt365 => (if bt365.2.2.2.2 = true then (impl_RepGet.j0 k a0 (decide ((bt365.2.2.2.1.size : Int) < 7)) bt365.1 bt365.2.1 bt365.2.2.1 bt365.2.2.2.1) else (impl_RepGet.j0 k a0 true bt365.1 bt365.2.1 bt365.2.2.1 bt365.2.2.2.1))) = some (r1, r2, r3, r4, r5, r6, r7) := h
 clear h
 replace H := Option.bind_eq_some_iff.mp H
 obtain ⟨⟨t365, t366, t367, t368, t369⟩, A20, H⟩ := H
 replace H : (if t369 = true then (impl_RepGet.j0 k a0 (decide ((t368.size : Int) < 7)) t365 t366 t367 t368) else (impl_RepGet.j0 k a0 true t365 t366 t367 t368)) = some (r1, r2, r3, r4, r5, r6, r7) := H
 have A2 := Aside0.mk A20
 clear A20
 have HC3 := Aside0.mk H
 clear H
 go_enter Tryd.func18, Tryd.ntmps18
 go_upto_region 2 with (first | ((with_reducible refine gate_dst (N := 2) rfl ?_); (try (refine gate_guard (by rfl) ?_; dsimp only)); refine box_event ?hg (N := 2) ?hd (cs := #[.int .i64 0, .int .i64 0, .int .i64 0, .int .i64 0, .int .i64 0, .string (⟨#[]⟩ : ByteArray)]) (t := 35) ?hr ?_; (case hd => rfl); (case hg => rfl); (case hr => first | (go_simp; done) | (go_simp; rfl)); intro gb364 hg w4 hbox hb; have n0_ := m_ (below_step (bN HB.out) hb); have n1_ := m_ (hbox); have n2_ := m_ ((by rw [hg]; exact (below_size (bN HB.out)) : w.heap.size ≤ gb364)); have n3_ := m_ ((by rw [hg]; exact (below_size (bN HB.out)) : w.heap.size ≤ gb364)); clear HB; have HB := n0_; have BK364 := n1_; have GW364 := n2_; have GE364 := n3_; clear n0_ n1_ n2_ n3_; clear hb hbox hg) | ((with_reducible refine gate_callee (f := 48) rfl ?_); refine goesL_ (some 10) rfl rfl Tryd.func48 (by kernel_rfl) rfl #[.string a0] rfl gl_ ?_; (with_reducible refine (impl_packetOnly.calls k a0 t365 t366 t367 t368 t369 _ A2.out).mono ?_); rintro e w5 ⟨rfl, hb⟩; refine ⟨_, rfl, ?_⟩; have n0_ := m_ (blk_below (g := gb364) (o := .cells #[.int .i64 0, .int .i64 0, .int .i64 0, .int .i64 0, .int .i64 0, .string (⟨#[]⟩ : ByteArray)] 35 (0, 0)) (kN BK364.out) hb); have n1_ := m_ (below_step (bN HB.out) hb); clear BK364; clear HB; have BK364 := n0_; have HB := n1_; clear n0_ n1_; (try clear hb); (try clear hb2); (try clear hk); (try clear hi)) | ((with_reducible refine gate_dst (N := 4) rfl ?_); (try (refine gate_guard (by rfl) ?_; dsimp only)); refine box_event ?hg (N := 4) ?hd (cs := #[.bool false, .int .i64 0, .int .i64 0, .string (⟨#[]⟩ : ByteArray)]) (t := 23) ?hr ?_; (case hd => rfl); (case hg => rfl); (case hr => first | (go_simp; done) | (go_simp; rfl)); intro gb370 hg w6 hbox hb; have n0_ := m_ (blk_below (g := gb364) (o := .cells #[.int .i64 0, .int .i64 0, .int .i64 0, .int .i64 0, .int .i64 0, .string (⟨#[]⟩ : ByteArray)] 35 (0, 0)) (kN BK364.out) hb); have n1_ := m_ (below_step (bN HB.out) hb); have n2_ := m_ (hbox); have n3_ := m_ ((by rw [hg]; exact (below_size (bN HB.out)) : w.heap.size ≤ gb370)); have n4_ := m_ ((by rw [hg]; exact (below_size (bN HB.out)) : w.heap.size ≤ gb370)); have n5_ := m_ ((by rw [hg]; exact Nat.ne_of_lt (blk_lt (g := gb364) (o := .cells #[.int .i64 0, .int .i64 0, .int .i64 0, .int .i64 0, .int .i64 0, .string (⟨#[]⟩ : ByteArray)] 35 (0, 0)) (kN BK364.out)) : gb364 ≠ gb370)); have n6_ := m_ ((by rw [hg]; exact Nat.ne_of_gt (blk_lt (g := gb364) (o := .cells #[.int .i64 0, .int .i64 0, .int .i64 0, .int .i64 0, .int .i64 0, .string (⟨#[]⟩ : ByteArray)] 35 (0, 0)) (kN BK364.out)) : gb370 ≠ gb364)); clear BK364; clear HB; have BK364 := n0_; have HB := n1_; have BK370 := n2_; have GW370 := n3_; have GE370 := n4_; have NB364_370 := n5_; have NB370_364 := n6_; clear n0_ n1_ n2_ n3_ n4_ n5_ n6_; clear hb hbox hg; have hnb7 := NB370_364.out; have hnc7 := NB364_370.out; have hcz8_0 : w6.cell? ⟨gb370, 0, none⟩ = some (.bool false) := (blk_cell BK370.out 0).trans rfl; have hcz8_1 : w6.cell? ⟨gb370, 1, none⟩ = some (.int .i64 0) := (blk_cell BK370.out 1).trans rfl; have hcz8_2 : w6.cell? ⟨gb370, 2, none⟩ = some (.int .i64 0) := (blk_cell BK370.out 2).trans rfl; have hcz8_3 : w6.cell? ⟨gb370, 3, none⟩ = some (.string (⟨#[]⟩ : ByteArray)) := (blk_cell BK370.out 3).trans rfl; have hfz8_0 := blk_frozen BK370.out 0; have hfz8_1 := blk_frozen BK370.out 1; have hfz8_2 := blk_frozen BK370.out 2; have hfz8_3 := blk_frozen BK370.out 3))
 (try simp only [Act.put, List.setIfInBounds_toArray, List.set_cons_zero, List.set_cons_succ])
 go_cut [20] (fun v20 wc => ∃ (kq : Nat) (x20_2 : Bool), v20 = .bool x20_2 ∧ Aside0 (impl_RepGet.j0 kq a0 x20_2 t365 t366 t367 t368 = some (r1, r2, r3, r4, r5, r6, r7)) ∧ Aside0 (kq ≤ k) ∧ Aside0 (wc.heap[gb364]? = some (.cells #[.int .i64 0, .int .i64 0, .int .i64 0, .int .i64 0, .int .i64 0, .string (⟨#[]⟩ : ByteArray)] 35 (0, 0))) ∧ Aside0 (wc.heap[gb370]? = some (.cells #[.bool t365, .int .i64 t366, .int .i64 t367, .string t368] 23 (0, 0))) ∧ Aside0 (Below w.heap.size w wc))
 case first =>
  have H := HC3.out
  clear HC3
  by_cases c9 : t369 = true
  ·subst c9
   have H1 : (impl_RepGet.j0 k a0 (decide ((t368.size : Int) < 7)) t365 t366 t367 t368) = some (r1, r2, r3, r4, r5, r6, r7) := by rw [if_pos rfl] at H; exact H
   clear H
   have H := H1
   clear H1
   have H' := Aside0.mk H
   clear H
   have hnb10 := NB370_364.out
   have hnc10 := NB364_370.out
   have hcz11_0 : w6.cell? ⟨gb370, 0, none⟩ = some (.bool false) := (blk_cell BK370.out 0).trans rfl
   have hcz11_1 : w6.cell? ⟨gb370, 1, none⟩ = some (.int .i64 0) := (blk_cell BK370.out 1).trans rfl
   have hcz11_2 : w6.cell? ⟨gb370, 2, none⟩ = some (.int .i64 0) := (blk_cell BK370.out 2).trans rfl
   have hcz11_3 : w6.cell? ⟨gb370, 3, none⟩ = some (.string (⟨#[]⟩ : ByteArray)) := (blk_cell BK370.out 3).trans rfl
   have hfz11_0 := blk_frozen BK370.out 0
   have hfz11_1 := blk_frozen BK370.out 1
   have hfz11_2 := blk_frozen BK370.out 2
   have hfz11_3 := blk_frozen BK370.out 3
   go_wp2
   go_meet
   case rel => exact ⟨_, (decide ((t368.size : Int) < 7)), (by first | rfl | (simp; done) | (simp [*]; done)), H', ⟨by first | omega | exact Nat.le_refl _⟩, ⟨kF BK364.out NB364_370.out⟩, ⟨kP BK370.out⟩, ⟨by repeat (first | (with_reducible first | exact HB.out | apply below_alloc | apply pw_below_drewN | apply below_drew1 | refine below_set ?_ GE364.out | refine below_set ?_ GE370.out) | exact HB.out)⟩⟩
  ·replace c9 := Bool.eq_false_iff.mpr c9
   subst c9
   have H1 : (impl_RepGet.j0 k a0 true t365 t366 t367 t368) = some (r1, r2, r3, r4, r5, r6, r7) := by rw [if_neg (show ¬ (false = true) by decide)] at H; exact H
   clear H
   have H := H1
   clear H1
   have H' := Aside0.mk H
   clear H
   go_wp2
   go_meet
   case rel => exact ⟨_, (true), (by first | rfl | (simp; done) | (simp [*]; done)), H', ⟨by first | omega | exact Nat.le_refl _⟩, ⟨kF BK364.out NB364_370.out⟩, ⟨kP BK370.out⟩, ⟨by repeat (first | (with_reducible first | exact HB.out | apply below_alloc | apply pw_below_drewN | apply below_drew1 | refine below_set ?_ GE364.out | refine below_set ?_ GE370.out) | exact HB.out)⟩⟩
 case rest =>
  clear HC3
  try clear c1
  try clear p2
  try clear c4
  try clear c7
  try clear c9
  try clear c10
  try clear hcz11_0
  try clear hcz11_1
  try clear hcz11_2
  try clear hcz11_3
  try clear hcz8_0
  try clear hcz8_1
  try clear hcz8_2
  try clear hcz8_3
  try clear hfz11_0
  try clear hfz11_1
  try clear hfz11_2
  try clear hfz11_3
  try clear hfz8_0
  try clear hfz8_1
  try clear hfz8_2
  try clear hfz8_3
  obtain ⟨kq, x20_2, rfl, HA, HJ2, BK364, BK370, HB⟩ := hcut
  cases kq with
  | zero => exact absurd HA.out (by simp [impl_RepGet.j0])
  | succ kj2 =>
   have H := HA.out
   clear HA
   simp only [impl_RepGet.j0] at H
   by_cases c12 : x20_2 = true
   ·subst c12
    have H1 : (some (0, 0, 0, 0, 0, (⟨#[]⟩ : ByteArray), false)) = some (r1, r2, r3, r4, r5, r6, r7) := by rw [if_pos rfl] at H; exact H
    clear H
    have H := H1
    clear H1
    simp only [Option.some.injEq, Prod.mk.injEq] at H
    obtain ⟨rfl, rfl, rfl, rfl, rfl, rfl, rfl⟩ := H
    have hnb13 := NB364_370.out
    have hnc13 := NB370_364.out
    have hcz14_0 : wc.cell? ⟨gb364, 0, none⟩ = some (.int .i64 0) := (blk_cell BK364.out 0).trans rfl
    have hcz14_1 : wc.cell? ⟨gb364, 1, none⟩ = some (.int .i64 0) := (blk_cell BK364.out 1).trans rfl
    have hcz14_2 : wc.cell? ⟨gb364, 2, none⟩ = some (.int .i64 0) := (blk_cell BK364.out 2).trans rfl
    have hcz14_3 : wc.cell? ⟨gb364, 3, none⟩ = some (.int .i64 0) := (blk_cell BK364.out 3).trans rfl
    have hcz14_4 : wc.cell? ⟨gb364, 4, none⟩ = some (.int .i64 0) := (blk_cell BK364.out 4).trans rfl
    have hcz14_5 : wc.cell? ⟨gb364, 5, none⟩ = some (.string (⟨#[]⟩ : ByteArray)) := (blk_cell BK364.out 5).trans rfl
    have hfz14_0 := blk_frozen BK364.out 0
    have hfz14_1 := blk_frozen BK364.out 1
    have hfz14_2 := blk_frozen BK364.out 2
    have hfz14_3 := blk_frozen BK364.out 3
    have hfz14_4 := blk_frozen BK364.out 4
    have hfz14_5 := blk_frozen BK364.out 5
    go_wp2
    refine bodyPost_ret (results_ct rfl _ _ gb364 35 #[.int .i64 0, .int .i64 0, .int .i64 0, .int .i64 0, .int .i64 0, .string (⟨#[]⟩ : ByteArray)] (0, 0) _ rfl (kP BK364.out) Tryd.underlying35 rfl (by kernel_rfl)) rfl ?_
    exact ⟨by first | rfl | (simp [errW_none, errW_some] <;> rfl) | (simp [*, errW_none, errW_some] <;> rfl), by repeat (first | (with_reducible first | exact HB.out | apply below_alloc | apply pw_below_drewN | apply below_drew1 | refine below_set ?_ GE364.out | refine below_set ?_ GE370.out) | exact HB.out)⟩
   ·replace c12 := Bool.eq_false_iff.mpr c12
    subst c12
    have H1 : (if 1 ≤ (t368.size : Int) then ((impl_readerOf.f (t368.extract 1 t368.size)).bind fun bt371 => ((impl_reader_number.f kj2 bt371.1 bt371.2.1 bt371.2.2.1 bt371.2.2.2 1).bind fun bt376 => ((impl_reader_number.f kj2 bt376.2.1 bt376.2.2.1 bt376.2.2.2.1 bt376.2.2.2.2 1).bind fun bt381 => ((impl_reader_number.f kj2 bt381.2.1 bt381.2.2.1 bt381.2.2.2.1 bt381.2.2.2.2 4).bind fun bt386 => (if 7 ≤ (t368.size : Int) then ((impl_RepPut.f kj2 t366 t367 bt376.1 bt381.1 bt386.1 (t368.extract 7 t368.size)).bind fun t392 => (if t392.toList = a0.toList then (some (t366, t367, bt376.1, bt381.1, bt386.1, t368.extract 7 t368.size, true)) else (some (0, 0, 0, 0, 0, (⟨#[]⟩ : ByteArray), false)))) else (none)))))) else (none)) = some (r1, r2, r3, r4, r5, r6, r7) := by rw [if_neg (show ¬ (false = true) by decide)] at H; exact H
    clear H
    have H := H1
    clear H1
    by_cases c15 : 1 ≤ (t368.size : Int)
    ·rw [if_pos c15] at H
     have c15b0 := eq_true c15
     have c15b1 : decide (1 ≤ (t368.size : Int)) = true := decide_eq_true c15
     clear c15
     replace H := Option.bind_eq_some_iff.mp H
     obtain ⟨⟨t371, t372, t373, t374⟩, A160, H⟩ := H
     replace H : ((impl_reader_number.f kj2 t371 t372 t373 t374 1).bind fun bt376 => ((impl_reader_number.f kj2 bt376.2.1 bt376.2.2.1 bt376.2.2.2.1 bt376.2.2.2.2 1).bind fun bt381 => ((impl_reader_number.f kj2 bt381.2.1 bt381.2.2.1 bt381.2.2.2.1 bt381.2.2.2.2 4).bind fun bt386 => (if 7 ≤ (t368.size : Int) then ((impl_RepPut.f kj2 t366 t367 bt376.1 bt381.1 bt386.1 (t368.extract 7 t368.size)).bind fun t392 => (if t392.toList = a0.toList then (some (t366, t367, bt376.1, bt381.1, bt386.1, t368.extract 7 t368.size, true)) else (some (0, 0, 0, 0, 0, (⟨#[]⟩ : ByteArray), false)))) else (none))))) = some (r1, r2, r3, r4, r5, r6, r7) := H
     have A16 := Aside0.mk A160
     clear A160
     replace H := Option.bind_eq_some_iff.mp H
     obtain ⟨⟨t376, t377, t378, t379, t380⟩, A170, H⟩ := H
     replace H : ((impl_reader_number.f kj2 t377 t378 t379 t380 1).bind fun bt381 => ((impl_reader_number.f kj2 bt381.2.1 bt381.2.2.1 bt381.2.2.2.1 bt381.2.2.2.2 4).bind fun bt386 => (if 7 ≤ (t368.size : Int) then ((impl_RepPut.f kj2 t366 t367 t376 bt381.1 bt386.1 (t368.extract 7 t368.size)).bind fun t392 => (if t392.toList = a0.toList then (some (t366, t367, t376, bt381.1, bt386.1, t368.extract 7 t368.size, true)) else (some (0, 0, 0, 0, 0, (⟨#[]⟩ : ByteArray), false)))) else (none)))) = some (r1, r2, r3, r4, r5, r6, r7) := H
     have A17 := Aside0.mk A170
     clear A170
     replace H := Option.bind_eq_some_iff.mp H
     obtain ⟨⟨t381, t382, t383, t384, t385⟩, A180, H⟩ := H
     replace H : ((impl_reader_number.f kj2 t382 t383 t384 t385 4).bind fun bt386 => (if 7 ≤ (t368.size : Int) then ((impl_RepPut.f kj2 t366 t367 t376 t381 bt386.1 (t368.extract 7 t368.size)).bind fun t392 => (if t392.toList = a0.toList then (some (t366, t367, t376, t381, bt386.1, t368.extract 7 t368.size, true)) else (some (0, 0, 0, 0, 0, (⟨#[]⟩ : ByteArray), false)))) else (none))) = some (r1, r2, r3, r4, r5, r6, r7) := H
     have A18 := Aside0.mk A180
     clear A180
     replace H := Option.bind_eq_some_iff.mp H
     obtain ⟨⟨t386, t387, t388, t389, t390⟩, A190, H⟩ := H
     replace H : (if 7 ≤ (t368.size : Int) then ((impl_RepPut.f kj2 t366 t367 t376 t381 t386 (t368.extract 7 t368.size)).bind fun t392 => (if t392.toList = a0.toList then (some (t366, t367, t376, t381, t386, t368.extract 7 t368.size, true)) else (some (0, 0, 0, 0, 0, (⟨#[]⟩ : ByteArray), false)))) else (none)) = some (r1, r2, r3, r4, r5, r6, r7) := H
     have A19 := Aside0.mk A190
     clear A190
     by_cases c20 : 7 ≤ (t368.size : Int)
     ·rw [if_pos c20] at H
      have c20b0 := eq_true c20
      have c20b1 : decide (7 ≤ (t368.size : Int)) = true := decide_eq_true c20
      clear c20
      replace H := Option.bind_eq_some_iff.mp H
      obtain ⟨t392, A210, H⟩ := H
      replace H : (if t392.toList = a0.toList then (some (t366, t367, t376, t381, t386, t368.extract 7 t368.size, true)) else (some (0, 0, 0, 0, 0, (⟨#[]⟩ : ByteArray), false))) = some (r1, r2, r3, r4, r5, r6, r7) := H
      have A21 := Aside0.mk A210
      clear A210
      by_cases c22 : t392.toList = a0.toList
      ·rw [if_pos c22] at H
       have c22b0 : (t392.toList == a0.toList) = true := beq_iff_eq.mpr c22
       have c22b1 : (t392.toList != a0.toList) = false := bne_eq_false_iff_eq.mpr c22
       clear c22
       simp only [Option.some.injEq, Prod.mk.injEq] at H
       obtain ⟨rfl, rfl, rfl, rfl, rfl, rfl, rfl⟩ := H
       have hnb23 := NB370_364.out
       have hnc23 := NB364_370.out
       have hcz24_0 : wc.cell? ⟨gb370, 0, none⟩ = some (.bool t365) := (blk_cell BK370.out 0).trans rfl
       have hcz24_1 : wc.cell? ⟨gb370, 1, none⟩ = some (.int .i64 t366) := (blk_cell BK370.out 1).trans rfl
       have hcz24_2 : wc.cell? ⟨gb370, 2, none⟩ = some (.int .i64 t367) := (blk_cell BK370.out 2).trans rfl
       have hcz24_3 : wc.cell? ⟨gb370, 3, none⟩ = some (.string t368) := (blk_cell BK370.out 3).trans rfl
       have hfz24_0 := blk_frozen BK370.out 0
       have hfz24_1 := blk_frozen BK370.out 1
       have hfz24_2 := blk_frozen BK370.out 2
       have hfz24_3 := blk_frozen BK370.out 3
       try go_wp2_with (first | ((with_reducible refine gate_callee (f := 33) rfl ?_); refine goesL_ (some 25) rfl rfl Tryd.func33 (by kernel_rfl) rfl #[.string (t368.extract 1 t368.size)] rfl gl_ ?_; (with_reducible refine (impl_readerOf.calls (t368.extract 1 t368.size) t371 t372 t373 t374 w _ ?side1 A16.out).mono ?_); (case side1 => repeat (first | (with_reducible first | exact HB.out | apply below_alloc | apply pw_below_drewN | apply below_drew1 | refine below_set ?_ GE364.out | refine below_set ?_ GE370.out) | exact HB.out)); rintro e w25 ⟨g375, rfl, hi, hb, hb2⟩; refine ⟨_, rfl, ?_⟩; have n0_ := m_ (blk_below (g := gb364) (o := .cells #[.int .i64 0, .int .i64 0, .int .i64 0, .int .i64 0, .int .i64 0, .string (⟨#[]⟩ : ByteArray)] 35 (0, 0)) (kN BK364.out) hb2); have n1_ := m_ (blk_below (kN BK370.out) hb2); have n2_ := m_ (hb); have n3_ := m_ (hi); have n4_ := m_ (IsS59.ne_blk hi (blk_below (g := gb364) (o := .cells #[.int .i64 0, .int .i64 0, .int .i64 0, .int .i64 0, .int .i64 0, .string (⟨#[]⟩ : ByteArray)] 35 (0, 0)) (kN BK364.out) hb2) (by decide)); have n5_ := m_ (Ne.symm (IsS59.ne_blk hi (blk_below (g := gb364) (o := .cells #[.int .i64 0, .int .i64 0, .int .i64 0, .int .i64 0, .int .i64 0, .string (⟨#[]⟩ : ByteArray)] 35 (0, 0)) (kN BK364.out) hb2) (by decide))); have n6_ := m_ (IsS59.ne_blk hi (blk_below (kN BK370.out) hb2) (by decide)); have n7_ := m_ (Ne.symm (IsS59.ne_blk hi (blk_below (kN BK370.out) hb2) (by decide))); clear BK364; clear BK370; clear HB; have BK364 := n0_; have BK370 := n1_; have HB := n2_; have HI375 := n3_; have NB375_364 := n4_; have NB364_375 := n5_; have NB375_370 := n6_; have NB370_375 := n7_; clear n0_ n1_ n2_ n3_ n4_ n5_ n6_ n7_; (try clear hb); (try clear hb2); (try clear hk); (try clear hi)))
       have n0_ := m_ (blk_drew BK364.out)
       have n1_ := m_ (blk_drew BK370.out)
       have n2_ := m_ (IsS59.drew HI375.out)
       have n3_ := m_ (below_drew1 HB.out)
       clear BK364
       clear BK370
       clear HI375
       clear HB
       have BK364 := n0_
       have BK370 := n1_
       have HI375 := n2_
       have HB := n3_
       clear n0_ n1_ n2_ n3_
       refine start_ (n := 16) (S := fun w' => w'.cell? ⟨gb370, 0, none⟩ = some (.bool t365) ∧ w'.cell? ⟨gb370, 1, none⟩ = some (.int .i64 t366) ∧ w'.cell? ⟨gb370, 2, none⟩ = some (.int .i64 t367) ∧ w'.cell? ⟨gb370, 3, none⟩ = some (.string t368)) (ds := []) #[false, false, false, false, false, false, false, false, false, false, false, false, false, false, false, false] (by kernel_rfl) rfl rfl ⟨(blk_cell BK370.out 0).trans rfl, (blk_cell BK370.out 1).trans rfl, (blk_cell BK370.out 2).trans rfl, (blk_cell BK370.out 3).trans rfl⟩ (fun hHeld => ?_); refine with_tabW impl_RepGet.tab5 impl_RepGet.bits5 (fun HT_ HW_ => ?_)
       generalize w25.drew = w26 at BK364 BK370 HI375 HB hHeld ⊢
       refine pu 0 26 HT_ (h := ?_)
       refine pu 2 28 HT_ (h := ?_)
       refine pu 4 30 HT_ (h := ?_)
       refine pu 6 32 HT_ (h := ?_)
       refine pu 8 34 HT_ (h := ?_)
       refine pu 10 36 HT_ (h := ?_)
       refine take_ (i := 1) (N := some 27) (v := ?_) (a' := ?_) #[true, true, true, false, true, false, true, false, true, false, true, false, false, false, false, false] rfl rfl (take_ofW HT_.out HW_.out (by kernel_rfl)) (fun _ _ _ h => h) (Or.inl ⟨by rfl, ?_⟩) hHeld ?_ ?_
       rotate_left
       ·rintro w' ⟨s0, s1, s2, s3⟩
        go_simp
        with_reducible rfl
       rotate_left
       ·simp only [Act.put, List.setIfInBounds_toArray, List.set_cons_zero, List.set_cons_succ, i64_w, i32_w]
        rfl
       refine take_ (i := 3) (N := some 29) (v := ?_) (a' := ?_) #[true, true, true, true, true, false, true, false, true, false, true, false, false, false, false, false] rfl rfl (take_ofW HT_.out HW_.out (by kernel_rfl)) (fun _ _ _ h => h) (Or.inl ⟨by rfl, ?_⟩) hHeld ?_ ?_
       rotate_left
       ·rintro w' ⟨s0, s1, s2, s3⟩
        go_simp
        with_reducible rfl
       rotate_left
       ·simp only [Act.put, List.setIfInBounds_toArray, List.set_cons_zero, List.set_cons_succ, i64_w, i32_w]
        rfl
       refine take_ (i := 11) (N := some 37) (v := ?_) (a' := ?_) #[true, true, true, true, true, false, true, false, true, false, true, true, false, false, false, false] rfl rfl (take_ofW HT_.out HW_.out (by kernel_rfl)) (fun _ _ _ h => h) (Or.inl ⟨by rfl, ?_⟩) hHeld ?_ ?_
       rotate_left
       ·rintro w' ⟨s0, s1, s2, s3⟩
        go_simp
        with_reducible rfl
       rotate_left
       ·simp only [Act.put, List.setIfInBounds_toArray, List.set_cons_zero, List.set_cons_succ, i64_w, i32_w]
        rfl
       refine pu 12 38 HT_ (h := ?_)
       refine join_ (σ := Nat) 1 #[true, true, true, true, true, true, true, true, true, true, true, true, true, true, true, false] (fun s_ => [(31, .int .i64 t376), (33, .int .i64 t381), (35, .int .i64 t386), (7, .pointer (some ⟨s_, 0, none⟩)), (39, .agg #[.int .i64 t366, .int .i64 t367, .int .i64 t376, .int .i64 t381, .int .i64 t386, .string (t368.extract 7 t368.size)])]) (fun s_ w' => (w'.cell? ⟨gb370, 0, none⟩ = some (.bool t365) ∧ w'.cell? ⟨gb370, 1, none⟩ = some (.int .i64 t366) ∧ w'.cell? ⟨gb370, 2, none⟩ = some (.int .i64 t367) ∧ w'.cell? ⟨gb370, 3, none⟩ = some (.string t368)) ∧ (w'.heap[gb364]? = some (.cells #[.int .i64 0, .int .i64 0, .int .i64 0, .int .i64 0, .int .i64 0, .string (⟨#[]⟩ : ByteArray)] 35 (0, 0))) ∧ (w'.heap[gb370]? = some (.cells #[.bool t365, .int .i64 t366, .int .i64 t367, .string t368] 23 (0, 0))) ∧ (w'.heap[s_]? = some (.cells #[.int .i64 0, .int .i64 0, .int .i64 0, .int .i64 0, .int .i64 0, .string (⟨#[]⟩ : ByteArray)] 35 (0, 0))) ∧ (w.heap.size ≤ s_) ∧ (w.heap.size ≤ s_) ∧ (g375 ≠ s_) ∧ (s_ ≠ g375) ∧ (gb364 ≠ s_) ∧ (s_ ≠ gb364) ∧ (gb370 ≠ s_) ∧ (s_ ≠ gb370) ∧ (IsS59 w w' g375 t387 t388 t389 t390) ∧ (Below w.heap.size w w')) ?_ ?_
       rotate_left
       ·intro hCont
        refine two_ (i := 5) (j := 14) (Ni := some 31) (Nj := some 7) #[true, true, true, true, true, true, true, false, true, false, true, true, true, false, false, false] #[true, true, true, true, true, false, true, false, true, false, true, true, true, false, true, false] rfl rfl rfl rfl (two_of HT_.out (by kernel_rfl)) (by decide) (by decide) (fun K hK => ?_) (fun K hK => ?_)
        ·skip
         refine goes_ Tryd.func34 (by kernel_rfl) rfl #[.pointer (some ⟨g375, 0, none⟩), .int .i64 1] (by rfl) rfl rfl gl_ ?_
         with_reducible refine (impl_reader_number.calls kj2 g375 t371 t372 t373 t374 1 t376 t377 t378 t379 t380 w _ ?side1 ?side2 A17.out).mono ?_
         (case side1 => repeat (first | (with_reducible first | exact HI375.out | apply IsS59.alloc | apply IsS59.drewN | apply IsS59.drew | apply IsS59.set_0 | apply IsS59.set_1 | apply IsS59.set_2 | apply IsS59.set_3 | refine IsS59.far ?_ NB375_364.out _ | refine IsS59.far ?_ NB375_370.out _) | exact HI375.out))
         (case side2 => repeat (first | (with_reducible first | exact HB.out | apply below_alloc | apply pw_below_drewN | apply below_drew1 | refine below_set ?_ (IsS59.ge HI375.out) | refine below_set ?_ GE364.out | refine below_set ?_ GE370.out) | exact HB.out))
         rintro e w27 ⟨rfl, hi, hb, hk⟩
         refine ⟨_, rfl, ?_⟩
         have n0_ := m_ (KeepBut.blk hk (g' := gb364) (o := .cells #[.int .i64 0, .int .i64 0, .int .i64 0, .int .i64 0, .int .i64 0, .string (⟨#[]⟩ : ByteArray)] 35 (0, 0)) (kN BK364.out) NB364_375.out (by simp))
         have n1_ := m_ (KeepBut.blk hk (g' := gb370) (o := .cells #[.bool t365, .int .i64 t366, .int .i64 t367, .string t368] 23 (0, 0)) (kN BK370.out) NB370_375.out (by simp))
         have n2_ := m_ (hb)
         have n3_ := m_ (hi)
         clear BK364
         clear BK370
         clear HB
         clear HI375
         have BK364 := n0_
         have BK370 := n1_
         have HB := n2_
         have HI375 := n3_
         clear n0_ n1_ n2_ n3_
         (try clear hb)
         (try clear hb2)
         (try clear hk)
         (try clear hi)
         refine hK.out _ _ ⟨(blk_cell BK370.out 0).trans rfl, (blk_cell BK370.out 1).trans rfl, (blk_cell BK370.out 2).trans rfl, (blk_cell BK370.out 3).trans rfl⟩ (fun hHeld => ?_)
         clear hK K
         refine norm_ (a' := ?_) ?_ ?_
         rotate_left
         ·show Act.put _ (some 31) _ = _
          simp only [Act.put, List.setIfInBounds_toArray, List.set_cons_zero, List.set_cons_succ, i64_w, i32_w]
          rfl
         refine two_ (i := 7) (j := 14) (Ni := some 33) (Nj := some 7) #[true, true, true, true, true, true, true, true, true, false, true, true, true, false, false, false] #[true, true, true, true, true, true, true, false, true, false, true, true, true, false, true, false] rfl rfl rfl rfl (two_of HT_.out (by kernel_rfl)) (by decide) (by decide) (fun K hK => ?_) (fun K hK => ?_)
         ·skip
          refine goes_ Tryd.func34 (by kernel_rfl) rfl #[.pointer (some ⟨g375, 0, none⟩), .int .i64 1] (by rfl) rfl rfl gl_ ?_
          with_reducible refine (impl_reader_number.calls kj2 g375 t377 t378 t379 t380 1 t381 t382 t383 t384 t385 w _ ?side1 ?side2 A18.out).mono ?_
          (case side1 => repeat (first | (with_reducible first | exact HI375.out | apply IsS59.alloc | apply IsS59.drewN | apply IsS59.drew | apply IsS59.set_0 | apply IsS59.set_1 | apply IsS59.set_2 | apply IsS59.set_3 | refine IsS59.far ?_ NB375_364.out _ | refine IsS59.far ?_ NB375_370.out _) | exact HI375.out))
          (case side2 => repeat (first | (with_reducible first | exact HB.out | apply below_alloc | apply pw_below_drewN | apply below_drew1 | refine below_set ?_ (IsS59.ge HI375.out) | refine below_set ?_ GE364.out | refine below_set ?_ GE370.out) | exact HB.out))
          rintro e w28 ⟨rfl, hi, hb, hk⟩
          refine ⟨_, rfl, ?_⟩
          have n0_ := m_ (KeepBut.blk hk (g' := gb364) (o := .cells #[.int .i64 0, .int .i64 0, .int .i64 0, .int .i64 0, .int .i64 0, .string (⟨#[]⟩ : ByteArray)] 35 (0, 0)) (kN BK364.out) NB364_375.out (by simp))
          have n1_ := m_ (KeepBut.blk hk (g' := gb370) (o := .cells #[.bool t365, .int .i64 t366, .int .i64 t367, .string t368] 23 (0, 0)) (kN BK370.out) NB370_375.out (by simp))
          have n2_ := m_ (hb)
          have n3_ := m_ (hi)
          clear BK364
          clear BK370
          clear HB
          clear HI375
          have BK364 := n0_
          have BK370 := n1_
          have HB := n2_
          have HI375 := n3_
          clear n0_ n1_ n2_ n3_
          (try clear hb)
          (try clear hb2)
          (try clear hk)
          (try clear hi)
          refine hK.out _ _ ⟨(blk_cell BK370.out 0).trans rfl, (blk_cell BK370.out 1).trans rfl, (blk_cell BK370.out 2).trans rfl, (blk_cell BK370.out 3).trans rfl⟩ (fun hHeld => ?_)
          clear hK K
          refine norm_ (a' := ?_) ?_ ?_
          rotate_left
          ·show Act.put _ (some 33) _ = _
           simp only [Act.put, List.setIfInBounds_toArray, List.set_cons_zero, List.set_cons_succ, i64_w, i32_w]
           rfl
          refine two_ (i := 9) (j := 14) (Ni := some 35) (Nj := some 7) #[true, true, true, true, true, true, true, true, true, true, true, true, true, false, false, false] #[true, true, true, true, true, true, true, true, true, false, true, true, true, false, true, false] rfl rfl rfl rfl (two_of HT_.out (by kernel_rfl)) (by decide) (by decide) (fun K hK => ?_) (fun K hK => ?_)
          ·skip
           refine goes_ Tryd.func34 (by kernel_rfl) rfl #[.pointer (some ⟨g375, 0, none⟩), .int .i64 4] (by rfl) rfl rfl gl_ ?_
           with_reducible refine (impl_reader_number.calls kj2 g375 t382 t383 t384 t385 4 t386 t387 t388 t389 t390 w _ ?side1 ?side2 A19.out).mono ?_
           (case side1 => repeat (first | (with_reducible first | exact HI375.out | apply IsS59.alloc | apply IsS59.drewN | apply IsS59.drew | apply IsS59.set_0 | apply IsS59.set_1 | apply IsS59.set_2 | apply IsS59.set_3 | refine IsS59.far ?_ NB375_364.out _ | refine IsS59.far ?_ NB375_370.out _) | exact HI375.out))
           (case side2 => repeat (first | (with_reducible first | exact HB.out | apply below_alloc | apply pw_below_drewN | apply below_drew1 | refine below_set ?_ (IsS59.ge HI375.out) | refine below_set ?_ GE364.out | refine below_set ?_ GE370.out) | exact HB.out))
           rintro e w29 ⟨rfl, hi, hb, hk⟩
           refine ⟨_, rfl, ?_⟩
           have n0_ := m_ (KeepBut.blk hk (g' := gb364) (o := .cells #[.int .i64 0, .int .i64 0, .int .i64 0, .int .i64 0, .int .i64 0, .string (⟨#[]⟩ : ByteArray)] 35 (0, 0)) (kN BK364.out) NB364_375.out (by simp))
           have n1_ := m_ (KeepBut.blk hk (g' := gb370) (o := .cells #[.bool t365, .int .i64 t366, .int .i64 t367, .string t368] 23 (0, 0)) (kN BK370.out) NB370_375.out (by simp))
           have n2_ := m_ (hb)
           have n3_ := m_ (hi)
           clear BK364
           clear BK370
           clear HB
           clear HI375
           have BK364 := n0_
           have BK370 := n1_
           have HB := n2_
           have HI375 := n3_
           clear n0_ n1_ n2_ n3_
           (try clear hb)
           (try clear hb2)
           (try clear hk)
           (try clear hi)
           refine hK.out _ _ ⟨(blk_cell BK370.out 0).trans rfl, (blk_cell BK370.out 1).trans rfl, (blk_cell BK370.out 2).trans rfl, (blk_cell BK370.out 3).trans rfl⟩ (fun hHeld => ?_)
           clear hK K
           refine norm_ (a' := ?_) ?_ ?_
           rotate_left
           ·show Act.put _ (some 35) _ = _
            simp only [Act.put, List.setIfInBounds_toArray, List.set_cons_zero, List.set_cons_succ, i64_w, i32_w]
            rfl
           refine pu 13 39 HT_ (h := ?_)
           refine one_ (i := 14) (N := some 7) #[true, true, true, true, true, true, true, true, true, true, true, true, true, true, true, false] rfl rfl (one_of HT_.out (by kernel_rfl)) (by decide) (fun K hK => ?_)
           refine box_step ?hg (N := 7) ?hd (cs := #[.int .i64 0, .int .i64 0, .int .i64 0, .int .i64 0, .int .i64 0, .string (⟨#[]⟩ : ByteArray)]) (t := 35) ?hr ?_; (case hd => rfl); (case hg => rfl); (case hr => first | (go_simp; done) | (go_simp; rfl))
           intro gb391 hg w30 hbox hb
           have n0_ := m_ (blk_below (g := gb364) (o := .cells #[.int .i64 0, .int .i64 0, .int .i64 0, .int .i64 0, .int .i64 0, .string (⟨#[]⟩ : ByteArray)] 35 (0, 0)) (kN BK364.out) hb)
           have n1_ := m_ (blk_below (kN BK370.out) hb)
           have n2_ := m_ (IsS59.below (by repeat (first | (with_reducible first | exact HI375.out | apply IsS59.alloc | apply IsS59.drewN | apply IsS59.drew | apply IsS59.set_0 | apply IsS59.set_1 | apply IsS59.set_2 | apply IsS59.set_3 | refine IsS59.far ?_ NB375_364.out _ | refine IsS59.far ?_ NB375_370.out _) | exact HI375.out)) hb)
           have n3_ := m_ (below_step (by repeat (first | (with_reducible first | exact HB.out | apply below_alloc | apply pw_below_drewN | apply below_drew1 | refine below_set ?_ (IsS59.ge HI375.out) | refine below_set ?_ GE364.out | refine below_set ?_ GE370.out) | exact HB.out)) hb)
           have n4_ := m_ (hbox)
           have n5_ := m_ ((by rw [hg]; exact (below_size (by repeat (first | (with_reducible first | exact HB.out | apply below_alloc | apply pw_below_drewN | apply below_drew1 | refine below_set ?_ (IsS59.ge HI375.out) | refine below_set ?_ GE364.out | refine below_set ?_ GE370.out) | exact HB.out))) : w.heap.size ≤ gb391))
           have n6_ := m_ ((by rw [hg]; exact (below_size (by repeat (first | (with_reducible first | exact HB.out | apply below_alloc | apply pw_below_drewN | apply below_drew1 | refine below_set ?_ (IsS59.ge HI375.out) | refine below_set ?_ GE364.out | refine below_set ?_ GE370.out) | exact HB.out))) : w.heap.size ≤ gb391))
           have n7_ := m_ ((by rw [hg]; exact Nat.ne_of_lt (blk_lt (g := gb364) (o := .cells #[.int .i64 0, .int .i64 0, .int .i64 0, .int .i64 0, .int .i64 0, .string (⟨#[]⟩ : ByteArray)] 35 (0, 0)) (kN BK364.out)) : gb364 ≠ gb391))
           have n8_ := m_ ((by rw [hg]; exact Nat.ne_of_gt (blk_lt (g := gb364) (o := .cells #[.int .i64 0, .int .i64 0, .int .i64 0, .int .i64 0, .int .i64 0, .string (⟨#[]⟩ : ByteArray)] 35 (0, 0)) (kN BK364.out)) : gb391 ≠ gb364))
           have n9_ := m_ ((by rw [hg]; exact Nat.ne_of_lt (blk_lt (g := gb370) (o := .cells #[.bool t365, .int .i64 t366, .int .i64 t367, .string t368] 23 (0, 0)) (kN BK370.out)) : gb370 ≠ gb391))
           have n10_ := m_ ((by rw [hg]; exact Nat.ne_of_gt (blk_lt (g := gb370) (o := .cells #[.bool t365, .int .i64 t366, .int .i64 t367, .string t368] 23 (0, 0)) (kN BK370.out)) : gb391 ≠ gb370))
           have n11_ := m_ ((by rw [hg]; exact Nat.ne_of_lt (IsS59.lt (show IsS59 w _ g375 t387 t388 t389 t390 from by repeat (first | (with_reducible first | exact HI375.out | apply IsS59.alloc | apply IsS59.drewN | apply IsS59.drew | apply IsS59.set_0 | apply IsS59.set_1 | apply IsS59.set_2 | apply IsS59.set_3 | refine IsS59.far ?_ NB375_364.out _ | refine IsS59.far ?_ NB375_370.out _) | exact HI375.out))) : g375 ≠ gb391))
           have n12_ := m_ ((by rw [hg]; exact Nat.ne_of_gt (IsS59.lt (show IsS59 w _ g375 t387 t388 t389 t390 from by repeat (first | (with_reducible first | exact HI375.out | apply IsS59.alloc | apply IsS59.drewN | apply IsS59.drew | apply IsS59.set_0 | apply IsS59.set_1 | apply IsS59.set_2 | apply IsS59.set_3 | refine IsS59.far ?_ NB375_364.out _ | refine IsS59.far ?_ NB375_370.out _) | exact HI375.out))) : gb391 ≠ g375))
           clear BK364
           clear BK370
           clear HI375
           clear HB
           have BK364 := n0_
           have BK370 := n1_
           have HI375 := n2_
           have HB := n3_
           have BK391 := n4_
           have GW391 := n5_
           have GE391 := n6_
           have NB364_391 := n7_
           have NB391_364 := n8_
           have NB370_391 := n9_
           have NB391_370 := n10_
           have NB375_391 := n11_
           have NB391_375 := n12_
           clear n0_ n1_ n2_ n3_ n4_ n5_ n6_ n7_ n8_ n9_ n10_ n11_ n12_
           clear hb hbox hg
           refine hK.out _ _ ⟨(blk_cell BK370.out 0).trans rfl, (blk_cell BK370.out 1).trans rfl, (blk_cell BK370.out 2).trans rfl, (blk_cell BK370.out 3).trans rfl⟩ (fun hHeld => ?_)
           clear hK K
           refine norm_ (a' := ?_) ?_ ?_
           rotate_left
           ·show Act.put _ (some 7) _ = _
            simp only [Act.put, List.setIfInBounds_toArray, List.set_cons_zero, List.set_cons_succ, i64_w, i32_w]
            rfl
           exact norm_ (by simp only [putAll, Act.put, List.setIfInBounds_toArray, List.set_cons_zero, List.set_cons_succ]) (hCont (gb391) _ ⟨hHeld, (kN BK364.out), (kN BK370.out), (kN BK391.out), GW391.out, GE391.out, NB375_391.out, NB391_375.out, NB364_391.out, NB391_364.out, NB370_391.out, NB391_370.out, (by repeat (first | (with_reducible first | exact HI375.out | apply IsS59.alloc | apply IsS59.drewN | apply IsS59.drew | apply IsS59.set_0 | apply IsS59.set_1 | apply IsS59.set_2 | apply IsS59.set_3 | refine IsS59.far ?_ NB375_364.out _ | refine IsS59.far ?_ NB375_370.out _ | refine IsS59.far ?_ NB375_391.out _) | exact HI375.out)), (by repeat (first | (with_reducible first | exact HB.out | apply below_alloc | apply pw_below_drewN | apply below_drew1 | refine below_set ?_ (IsS59.ge HI375.out) | refine below_set ?_ GE364.out | refine below_set ?_ GE370.out | refine below_set ?_ GE391.out) | exact HB.out))⟩)
          ·skip
           refine box_step ?hg (N := 7) ?hd (cs := #[.int .i64 0, .int .i64 0, .int .i64 0, .int .i64 0, .int .i64 0, .string (⟨#[]⟩ : ByteArray)]) (t := 35) ?hr ?_; (case hd => rfl); (case hg => rfl); (case hr => first | (go_simp; done) | (go_simp; rfl))
           intro gb391 hg w29 hbox hb
           have n0_ := m_ (blk_below (g := gb364) (o := .cells #[.int .i64 0, .int .i64 0, .int .i64 0, .int .i64 0, .int .i64 0, .string (⟨#[]⟩ : ByteArray)] 35 (0, 0)) (kN BK364.out) hb)
           have n1_ := m_ (blk_below (kN BK370.out) hb)
           have n2_ := m_ (IsS59.below (by repeat (first | (with_reducible first | exact HI375.out | apply IsS59.alloc | apply IsS59.drewN | apply IsS59.drew | apply IsS59.set_0 | apply IsS59.set_1 | apply IsS59.set_2 | apply IsS59.set_3 | refine IsS59.far ?_ NB375_364.out _ | refine IsS59.far ?_ NB375_370.out _) | exact HI375.out)) hb)
           have n3_ := m_ (below_step (by repeat (first | (with_reducible first | exact HB.out | apply below_alloc | apply pw_below_drewN | apply below_drew1 | refine below_set ?_ (IsS59.ge HI375.out) | refine below_set ?_ GE364.out | refine below_set ?_ GE370.out) | exact HB.out)) hb)
           have n4_ := m_ (hbox)
           have n5_ := m_ ((by rw [hg]; exact (below_size (by repeat (first | (with_reducible first | exact HB.out | apply below_alloc | apply pw_below_drewN | apply below_drew1 | refine below_set ?_ (IsS59.ge HI375.out) | refine below_set ?_ GE364.out | refine below_set ?_ GE370.out) | exact HB.out))) : w.heap.size ≤ gb391))
           have n6_ := m_ ((by rw [hg]; exact (below_size (by repeat (first | (with_reducible first | exact HB.out | apply below_alloc | apply pw_below_drewN | apply below_drew1 | refine below_set ?_ (IsS59.ge HI375.out) | refine below_set ?_ GE364.out | refine below_set ?_ GE370.out) | exact HB.out))) : w.heap.size ≤ gb391))
           have n7_ := m_ ((by rw [hg]; exact Nat.ne_of_lt (blk_lt (g := gb364) (o := .cells #[.int .i64 0, .int .i64 0, .int .i64 0, .int .i64 0, .int .i64 0, .string (⟨#[]⟩ : ByteArray)] 35 (0, 0)) (kN BK364.out)) : gb364 ≠ gb391))
           have n8_ := m_ ((by rw [hg]; exact Nat.ne_of_gt (blk_lt (g := gb364) (o := .cells #[.int .i64 0, .int .i64 0, .int .i64 0, .int .i64 0, .int .i64 0, .string (⟨#[]⟩ : ByteArray)] 35 (0, 0)) (kN BK364.out)) : gb391 ≠ gb364))
           have n9_ := m_ ((by rw [hg]; exact Nat.ne_of_lt (blk_lt (g := gb370) (o := .cells #[.bool t365, .int .i64 t366, .int .i64 t367, .string t368] 23 (0, 0)) (kN BK370.out)) : gb370 ≠ gb391))
           have n10_ := m_ ((by rw [hg]; exact Nat.ne_of_gt (blk_lt (g := gb370) (o := .cells #[.bool t365, .int .i64 t366, .int .i64 t367, .string t368] 23 (0, 0)) (kN BK370.out)) : gb391 ≠ gb370))
           have n11_ := m_ ((by rw [hg]; exact Nat.ne_of_lt (IsS59.lt (show IsS59 w _ g375 t382 t383 t384 t385 from by repeat (first | (with_reducible first | exact HI375.out | apply IsS59.alloc | apply IsS59.drewN | apply IsS59.drew | apply IsS59.set_0 | apply IsS59.set_1 | apply IsS59.set_2 | apply IsS59.set_3 | refine IsS59.far ?_ NB375_364.out _ | refine IsS59.far ?_ NB375_370.out _) | exact HI375.out))) : g375 ≠ gb391))
           have n12_ := m_ ((by rw [hg]; exact Nat.ne_of_gt (IsS59.lt (show IsS59 w _ g375 t382 t383 t384 t385 from by repeat (first | (with_reducible first | exact HI375.out | apply IsS59.alloc | apply IsS59.drewN | apply IsS59.drew | apply IsS59.set_0 | apply IsS59.set_1 | apply IsS59.set_2 | apply IsS59.set_3 | refine IsS59.far ?_ NB375_364.out _ | refine IsS59.far ?_ NB375_370.out _) | exact HI375.out))) : gb391 ≠ g375))
           clear BK364
           clear BK370
           clear HI375
           clear HB
           have BK364 := n0_
           have BK370 := n1_
           have HI375 := n2_
           have HB := n3_
           have BK391 := n4_
           have GW391 := n5_
           have GE391 := n6_
           have NB364_391 := n7_
           have NB391_364 := n8_
           have NB370_391 := n9_
           have NB391_370 := n10_
           have NB375_391 := n11_
           have NB391_375 := n12_
           clear n0_ n1_ n2_ n3_ n4_ n5_ n6_ n7_ n8_ n9_ n10_ n11_ n12_
           clear hb hbox hg
           refine hK.out _ _ ⟨(blk_cell BK370.out 0).trans rfl, (blk_cell BK370.out 1).trans rfl, (blk_cell BK370.out 2).trans rfl, (blk_cell BK370.out 3).trans rfl⟩ (fun hHeld => ?_)
           clear hK K
           refine norm_ (a' := ?_) ?_ ?_
           rotate_left
           ·show Act.put _ (some 7) _ = _
            simp only [Act.put, List.setIfInBounds_toArray, List.set_cons_zero, List.set_cons_succ, i64_w, i32_w]
            rfl
           refine one_ (i := 9) (N := some 35) #[true, true, true, true, true, true, true, true, true, true, true, true, true, false, true, false] rfl rfl (one_of HT_.out (by kernel_rfl)) (by decide) (fun K hK => ?_)
           refine goes_ Tryd.func34 (by kernel_rfl) rfl #[.pointer (some ⟨g375, 0, none⟩), .int .i64 4] (by rfl) rfl rfl gl_ ?_
           with_reducible refine (impl_reader_number.calls kj2 g375 t382 t383 t384 t385 4 t386 t387 t388 t389 t390 w _ ?side1 ?side2 A19.out).mono ?_
           (case side1 => repeat (first | (with_reducible first | exact HI375.out | apply IsS59.alloc | apply IsS59.drewN | apply IsS59.drew | apply IsS59.set_0 | apply IsS59.set_1 | apply IsS59.set_2 | apply IsS59.set_3 | refine IsS59.far ?_ NB375_364.out _ | refine IsS59.far ?_ NB375_370.out _ | refine IsS59.far ?_ NB375_391.out _) | exact HI375.out))
           (case side2 => repeat (first | (with_reducible first | exact HB.out | apply below_alloc | apply pw_below_drewN | apply below_drew1 | refine below_set ?_ (IsS59.ge HI375.out) | refine below_set ?_ GE364.out | refine below_set ?_ GE370.out | refine below_set ?_ GE391.out) | exact HB.out))
           rintro e w30 ⟨rfl, hi, hb, hk⟩
           refine ⟨_, rfl, ?_⟩
           have n0_ := m_ (KeepBut.blk hk (g' := gb364) (o := .cells #[.int .i64 0, .int .i64 0, .int .i64 0, .int .i64 0, .int .i64 0, .string (⟨#[]⟩ : ByteArray)] 35 (0, 0)) (kN BK364.out) NB364_375.out (by simp))
           have n1_ := m_ (KeepBut.blk hk (g' := gb370) (o := .cells #[.bool t365, .int .i64 t366, .int .i64 t367, .string t368] 23 (0, 0)) (kN BK370.out) NB370_375.out (by simp))
           have n2_ := m_ (KeepBut.blk hk (g' := gb391) (o := .cells #[.int .i64 0, .int .i64 0, .int .i64 0, .int .i64 0, .int .i64 0, .string (⟨#[]⟩ : ByteArray)] 35 (0, 0)) (kN BK391.out) NB391_375.out (by simp))
           have n3_ := m_ (hb)
           have n4_ := m_ (hi)
           clear BK364
           clear BK370
           clear BK391
           clear HB
           clear HI375
           have BK364 := n0_
           have BK370 := n1_
           have BK391 := n2_
           have HB := n3_
           have HI375 := n4_
           clear n0_ n1_ n2_ n3_ n4_
           (try clear hb)
           (try clear hb2)
           (try clear hk)
           (try clear hi)
           refine hK.out _ _ ⟨(blk_cell BK370.out 0).trans rfl, (blk_cell BK370.out 1).trans rfl, (blk_cell BK370.out 2).trans rfl, (blk_cell BK370.out 3).trans rfl⟩ (fun hHeld => ?_)
           clear hK K
           refine norm_ (a' := ?_) ?_ ?_
           rotate_left
           ·show Act.put _ (some 35) _ = _
            simp only [Act.put, List.setIfInBounds_toArray, List.set_cons_zero, List.set_cons_succ, i64_w, i32_w]
            rfl
           refine pu 13 39 HT_ (h := ?_)
           exact norm_ (by simp only [putAll, Act.put, List.setIfInBounds_toArray, List.set_cons_zero, List.set_cons_succ]) (hCont (gb391) _ ⟨hHeld, (kN BK364.out), (kN BK370.out), (kN BK391.out), GW391.out, GE391.out, NB375_391.out, NB391_375.out, NB364_391.out, NB391_364.out, NB370_391.out, NB391_370.out, (by repeat (first | (with_reducible first | exact HI375.out | apply IsS59.alloc | apply IsS59.drewN | apply IsS59.drew | apply IsS59.set_0 | apply IsS59.set_1 | apply IsS59.set_2 | apply IsS59.set_3 | refine IsS59.far ?_ NB375_364.out _ | refine IsS59.far ?_ NB375_370.out _ | refine IsS59.far ?_ NB375_391.out _) | exact HI375.out)), (by repeat (first | (with_reducible first | exact HB.out | apply below_alloc | apply pw_below_drewN | apply below_drew1 | refine below_set ?_ (IsS59.ge HI375.out) | refine below_set ?_ GE364.out | refine below_set ?_ GE370.out | refine below_set ?_ GE391.out) | exact HB.out))⟩)
         ·skip
          refine box_step ?hg (N := 7) ?hd (cs := #[.int .i64 0, .int .i64 0, .int .i64 0, .int .i64 0, .int .i64 0, .string (⟨#[]⟩ : ByteArray)]) (t := 35) ?hr ?_; (case hd => rfl); (case hg => rfl); (case hr => first | (go_simp; done) | (go_simp; rfl))
          intro gb391 hg w28 hbox hb
          have n0_ := m_ (blk_below (g := gb364) (o := .cells #[.int .i64 0, .int .i64 0, .int .i64 0, .int .i64 0, .int .i64 0, .string (⟨#[]⟩ : ByteArray)] 35 (0, 0)) (kN BK364.out) hb)
          have n1_ := m_ (blk_below (kN BK370.out) hb)
          have n2_ := m_ (IsS59.below (by repeat (first | (with_reducible first | exact HI375.out | apply IsS59.alloc | apply IsS59.drewN | apply IsS59.drew | apply IsS59.set_0 | apply IsS59.set_1 | apply IsS59.set_2 | apply IsS59.set_3 | refine IsS59.far ?_ NB375_364.out _ | refine IsS59.far ?_ NB375_370.out _) | exact HI375.out)) hb)
          have n3_ := m_ (below_step (by repeat (first | (with_reducible first | exact HB.out | apply below_alloc | apply pw_below_drewN | apply below_drew1 | refine below_set ?_ (IsS59.ge HI375.out) | refine below_set ?_ GE364.out | refine below_set ?_ GE370.out) | exact HB.out)) hb)
          have n4_ := m_ (hbox)
          have n5_ := m_ ((by rw [hg]; exact (below_size (by repeat (first | (with_reducible first | exact HB.out | apply below_alloc | apply pw_below_drewN | apply below_drew1 | refine below_set ?_ (IsS59.ge HI375.out) | refine below_set ?_ GE364.out | refine below_set ?_ GE370.out) | exact HB.out))) : w.heap.size ≤ gb391))
          have n6_ := m_ ((by rw [hg]; exact (below_size (by repeat (first | (with_reducible first | exact HB.out | apply below_alloc | apply pw_below_drewN | apply below_drew1 | refine below_set ?_ (IsS59.ge HI375.out) | refine below_set ?_ GE364.out | refine below_set ?_ GE370.out) | exact HB.out))) : w.heap.size ≤ gb391))
          have n7_ := m_ ((by rw [hg]; exact Nat.ne_of_lt (blk_lt (g := gb364) (o := .cells #[.int .i64 0, .int .i64 0, .int .i64 0, .int .i64 0, .int .i64 0, .string (⟨#[]⟩ : ByteArray)] 35 (0, 0)) (kN BK364.out)) : gb364 ≠ gb391))
          have n8_ := m_ ((by rw [hg]; exact Nat.ne_of_gt (blk_lt (g := gb364) (o := .cells #[.int .i64 0, .int .i64 0, .int .i64 0, .int .i64 0, .int .i64 0, .string (⟨#[]⟩ : ByteArray)] 35 (0, 0)) (kN BK364.out)) : gb391 ≠ gb364))
          have n9_ := m_ ((by rw [hg]; exact Nat.ne_of_lt (blk_lt (g := gb370) (o := .cells #[.bool t365, .int .i64 t366, .int .i64 t367, .string t368] 23 (0, 0)) (kN BK370.out)) : gb370 ≠ gb391))
          have n10_ := m_ ((by rw [hg]; exact Nat.ne_of_gt (blk_lt (g := gb370) (o := .cells #[.bool t365, .int .i64 t366, .int .i64 t367, .string t368] 23 (0, 0)) (kN BK370.out)) : gb391 ≠ gb370))
          have n11_ := m_ ((by rw [hg]; exact Nat.ne_of_lt (IsS59.lt (show IsS59 w _ g375 t377 t378 t379 t380 from by repeat (first | (with_reducible first | exact HI375.out | apply IsS59.alloc | apply IsS59.drewN | apply IsS59.drew | apply IsS59.set_0 | apply IsS59.set_1 | apply IsS59.set_2 | apply IsS59.set_3 | refine IsS59.far ?_ NB375_364.out _ | refine IsS59.far ?_ NB375_370.out _) | exact HI375.out))) : g375 ≠ gb391))
          have n12_ := m_ ((by rw [hg]; exact Nat.ne_of_gt (IsS59.lt (show IsS59 w _ g375 t377 t378 t379 t380 from by repeat (first | (with_reducible first | exact HI375.out | apply IsS59.alloc | apply IsS59.drewN | apply IsS59.drew | apply IsS59.set_0 | apply IsS59.set_1 | apply IsS59.set_2 | apply IsS59.set_3 | refine IsS59.far ?_ NB375_364.out _ | refine IsS59.far ?_ NB375_370.out _) | exact HI375.out))) : gb391 ≠ g375))
          clear BK364
          clear BK370
          clear HI375
          clear HB
          have BK364 := n0_
          have BK370 := n1_
          have HI375 := n2_
          have HB := n3_
          have BK391 := n4_
          have GW391 := n5_
          have GE391 := n6_
          have NB364_391 := n7_
          have NB391_364 := n8_
          have NB370_391 := n9_
          have NB391_370 := n10_
          have NB375_391 := n11_
          have NB391_375 := n12_
          clear n0_ n1_ n2_ n3_ n4_ n5_ n6_ n7_ n8_ n9_ n10_ n11_ n12_
          clear hb hbox hg
          refine hK.out _ _ ⟨(blk_cell BK370.out 0).trans rfl, (blk_cell BK370.out 1).trans rfl, (blk_cell BK370.out 2).trans rfl, (blk_cell BK370.out 3).trans rfl⟩ (fun hHeld => ?_)
          clear hK K
          refine norm_ (a' := ?_) ?_ ?_
          rotate_left
          ·show Act.put _ (some 7) _ = _
           simp only [Act.put, List.setIfInBounds_toArray, List.set_cons_zero, List.set_cons_succ, i64_w, i32_w]
           rfl
          refine one_ (i := 7) (N := some 33) #[true, true, true, true, true, true, true, true, true, false, true, true, true, false, true, false] rfl rfl (one_of HT_.out (by kernel_rfl)) (by decide) (fun K hK => ?_)
          refine goes_ Tryd.func34 (by kernel_rfl) rfl #[.pointer (some ⟨g375, 0, none⟩), .int .i64 1] (by rfl) rfl rfl gl_ ?_
          with_reducible refine (impl_reader_number.calls kj2 g375 t377 t378 t379 t380 1 t381 t382 t383 t384 t385 w _ ?side1 ?side2 A18.out).mono ?_
          (case side1 => repeat (first | (with_reducible first | exact HI375.out | apply IsS59.alloc | apply IsS59.drewN | apply IsS59.drew | apply IsS59.set_0 | apply IsS59.set_1 | apply IsS59.set_2 | apply IsS59.set_3 | refine IsS59.far ?_ NB375_364.out _ | refine IsS59.far ?_ NB375_370.out _ | refine IsS59.far ?_ NB375_391.out _) | exact HI375.out))
          (case side2 => repeat (first | (with_reducible first | exact HB.out | apply below_alloc | apply pw_below_drewN | apply below_drew1 | refine below_set ?_ (IsS59.ge HI375.out) | refine below_set ?_ GE364.out | refine below_set ?_ GE370.out | refine below_set ?_ GE391.out) | exact HB.out))
          rintro e w29 ⟨rfl, hi, hb, hk⟩
          refine ⟨_, rfl, ?_⟩
          have n0_ := m_ (KeepBut.blk hk (g' := gb364) (o := .cells #[.int .i64 0, .int .i64 0, .int .i64 0, .int .i64 0, .int .i64 0, .string (⟨#[]⟩ : ByteArray)] 35 (0, 0)) (kN BK364.out) NB364_375.out (by simp))
          have n1_ := m_ (KeepBut.blk hk (g' := gb370) (o := .cells #[.bool t365, .int .i64 t366, .int .i64 t367, .string t368] 23 (0, 0)) (kN BK370.out) NB370_375.out (by simp))
          have n2_ := m_ (KeepBut.blk hk (g' := gb391) (o := .cells #[.int .i64 0, .int .i64 0, .int .i64 0, .int .i64 0, .int .i64 0, .string (⟨#[]⟩ : ByteArray)] 35 (0, 0)) (kN BK391.out) NB391_375.out (by simp))
          have n3_ := m_ (hb)
          have n4_ := m_ (hi)
          clear BK364
          clear BK370
          clear BK391
          clear HB
          clear HI375
          have BK364 := n0_
          have BK370 := n1_
          have BK391 := n2_
          have HB := n3_
          have HI375 := n4_
          clear n0_ n1_ n2_ n3_ n4_
          (try clear hb)
          (try clear hb2)
          (try clear hk)
          (try clear hi)
          refine hK.out _ _ ⟨(blk_cell BK370.out 0).trans rfl, (blk_cell BK370.out 1).trans rfl, (blk_cell BK370.out 2).trans rfl, (blk_cell BK370.out 3).trans rfl⟩ (fun hHeld => ?_)
          clear hK K
          refine norm_ (a' := ?_) ?_ ?_
          rotate_left
          ·show Act.put _ (some 33) _ = _
           simp only [Act.put, List.setIfInBounds_toArray, List.set_cons_zero, List.set_cons_succ, i64_w, i32_w]
           rfl
          refine one_ (i := 9) (N := some 35) #[true, true, true, true, true, true, true, true, true, true, true, true, true, false, true, false] rfl rfl (one_of HT_.out (by kernel_rfl)) (by decide) (fun K hK => ?_)
          refine goes_ Tryd.func34 (by kernel_rfl) rfl #[.pointer (some ⟨g375, 0, none⟩), .int .i64 4] (by rfl) rfl rfl gl_ ?_
          with_reducible refine (impl_reader_number.calls kj2 g375 t382 t383 t384 t385 4 t386 t387 t388 t389 t390 w _ ?side1 ?side2 A19.out).mono ?_
          (case side1 => repeat (first | (with_reducible first | exact HI375.out | apply IsS59.alloc | apply IsS59.drewN | apply IsS59.drew | apply IsS59.set_0 | apply IsS59.set_1 | apply IsS59.set_2 | apply IsS59.set_3 | refine IsS59.far ?_ NB375_364.out _ | refine IsS59.far ?_ NB375_370.out _ | refine IsS59.far ?_ NB375_391.out _) | exact HI375.out))
          (case side2 => repeat (first | (with_reducible first | exact HB.out | apply below_alloc | apply pw_below_drewN | apply below_drew1 | refine below_set ?_ (IsS59.ge HI375.out) | refine below_set ?_ GE364.out | refine below_set ?_ GE370.out | refine below_set ?_ GE391.out) | exact HB.out))
          rintro e w30 ⟨rfl, hi, hb, hk⟩
          refine ⟨_, rfl, ?_⟩
          have n0_ := m_ (KeepBut.blk hk (g' := gb364) (o := .cells #[.int .i64 0, .int .i64 0, .int .i64 0, .int .i64 0, .int .i64 0, .string (⟨#[]⟩ : ByteArray)] 35 (0, 0)) (kN BK364.out) NB364_375.out (by simp))
          have n1_ := m_ (KeepBut.blk hk (g' := gb370) (o := .cells #[.bool t365, .int .i64 t366, .int .i64 t367, .string t368] 23 (0, 0)) (kN BK370.out) NB370_375.out (by simp))
          have n2_ := m_ (KeepBut.blk hk (g' := gb391) (o := .cells #[.int .i64 0, .int .i64 0, .int .i64 0, .int .i64 0, .int .i64 0, .string (⟨#[]⟩ : ByteArray)] 35 (0, 0)) (kN BK391.out) NB391_375.out (by simp))
          have n3_ := m_ (hb)
          have n4_ := m_ (hi)
          clear BK364
          clear BK370
          clear BK391
          clear HB
          clear HI375
          have BK364 := n0_
          have BK370 := n1_
          have BK391 := n2_
          have HB := n3_
          have HI375 := n4_
          clear n0_ n1_ n2_ n3_ n4_
          (try clear hb)
          (try clear hb2)
          (try clear hk)
          (try clear hi)
          refine hK.out _ _ ⟨(blk_cell BK370.out 0).trans rfl, (blk_cell BK370.out 1).trans rfl, (blk_cell BK370.out 2).trans rfl, (blk_cell BK370.out 3).trans rfl⟩ (fun hHeld => ?_)
          clear hK K
          refine norm_ (a' := ?_) ?_ ?_
          rotate_left
          ·show Act.put _ (some 35) _ = _
           simp only [Act.put, List.setIfInBounds_toArray, List.set_cons_zero, List.set_cons_succ, i64_w, i32_w]
           rfl
          refine pu 13 39 HT_ (h := ?_)
          exact norm_ (by simp only [putAll, Act.put, List.setIfInBounds_toArray, List.set_cons_zero, List.set_cons_succ]) (hCont (gb391) _ ⟨hHeld, (kN BK364.out), (kN BK370.out), (kN BK391.out), GW391.out, GE391.out, NB375_391.out, NB391_375.out, NB364_391.out, NB391_364.out, NB370_391.out, NB391_370.out, (by repeat (first | (with_reducible first | exact HI375.out | apply IsS59.alloc | apply IsS59.drewN | apply IsS59.drew | apply IsS59.set_0 | apply IsS59.set_1 | apply IsS59.set_2 | apply IsS59.set_3 | refine IsS59.far ?_ NB375_364.out _ | refine IsS59.far ?_ NB375_370.out _ | refine IsS59.far ?_ NB375_391.out _) | exact HI375.out)), (by repeat (first | (with_reducible first | exact HB.out | apply below_alloc | apply pw_below_drewN | apply below_drew1 | refine below_set ?_ (IsS59.ge HI375.out) | refine below_set ?_ GE364.out | refine below_set ?_ GE370.out | refine below_set ?_ GE391.out) | exact HB.out))⟩)
        ·skip
         refine box_step ?hg (N := 7) ?hd (cs := #[.int .i64 0, .int .i64 0, .int .i64 0, .int .i64 0, .int .i64 0, .string (⟨#[]⟩ : ByteArray)]) (t := 35) ?hr ?_; (case hd => rfl); (case hg => rfl); (case hr => first | (go_simp; done) | (go_simp; rfl))
         intro gb391 hg w27 hbox hb
         have n0_ := m_ (blk_below (g := gb364) (o := .cells #[.int .i64 0, .int .i64 0, .int .i64 0, .int .i64 0, .int .i64 0, .string (⟨#[]⟩ : ByteArray)] 35 (0, 0)) (kN BK364.out) hb)
         have n1_ := m_ (blk_below (kN BK370.out) hb)
         have n2_ := m_ (IsS59.below (by repeat (first | (with_reducible first | exact HI375.out | apply IsS59.alloc | apply IsS59.drewN | apply IsS59.drew | apply IsS59.set_0 | apply IsS59.set_1 | apply IsS59.set_2 | apply IsS59.set_3 | refine IsS59.far ?_ NB375_364.out _ | refine IsS59.far ?_ NB375_370.out _) | exact HI375.out)) hb)
         have n3_ := m_ (below_step (by repeat (first | (with_reducible first | exact HB.out | apply below_alloc | apply pw_below_drewN | apply below_drew1 | refine below_set ?_ (IsS59.ge HI375.out) | refine below_set ?_ GE364.out | refine below_set ?_ GE370.out) | exact HB.out)) hb)
         have n4_ := m_ (hbox)
         have n5_ := m_ ((by rw [hg]; exact (below_size (by repeat (first | (with_reducible first | exact HB.out | apply below_alloc | apply pw_below_drewN | apply below_drew1 | refine below_set ?_ (IsS59.ge HI375.out) | refine below_set ?_ GE364.out | refine below_set ?_ GE370.out) | exact HB.out))) : w.heap.size ≤ gb391))
         have n6_ := m_ ((by rw [hg]; exact (below_size (by repeat (first | (with_reducible first | exact HB.out | apply below_alloc | apply pw_below_drewN | apply below_drew1 | refine below_set ?_ (IsS59.ge HI375.out) | refine below_set ?_ GE364.out | refine below_set ?_ GE370.out) | exact HB.out))) : w.heap.size ≤ gb391))
         have n7_ := m_ ((by rw [hg]; exact Nat.ne_of_lt (blk_lt (g := gb364) (o := .cells #[.int .i64 0, .int .i64 0, .int .i64 0, .int .i64 0, .int .i64 0, .string (⟨#[]⟩ : ByteArray)] 35 (0, 0)) (kN BK364.out)) : gb364 ≠ gb391))
         have n8_ := m_ ((by rw [hg]; exact Nat.ne_of_gt (blk_lt (g := gb364) (o := .cells #[.int .i64 0, .int .i64 0, .int .i64 0, .int .i64 0, .int .i64 0, .string (⟨#[]⟩ : ByteArray)] 35 (0, 0)) (kN BK364.out)) : gb391 ≠ gb364))
         have n9_ := m_ ((by rw [hg]; exact Nat.ne_of_lt (blk_lt (g := gb370) (o := .cells #[.bool t365, .int .i64 t366, .int .i64 t367, .string t368] 23 (0, 0)) (kN BK370.out)) : gb370 ≠ gb391))
         have n10_ := m_ ((by rw [hg]; exact Nat.ne_of_gt (blk_lt (g := gb370) (o := .cells #[.bool t365, .int .i64 t366, .int .i64 t367, .string t368] 23 (0, 0)) (kN BK370.out)) : gb391 ≠ gb370))
         have n11_ := m_ ((by rw [hg]; exact Nat.ne_of_lt (IsS59.lt (show IsS59 w _ g375 t371 t372 t373 t374 from by repeat (first | (with_reducible first | exact HI375.out | apply IsS59.alloc | apply IsS59.drewN | apply IsS59.drew | apply IsS59.set_0 | apply IsS59.set_1 | apply IsS59.set_2 | apply IsS59.set_3 | refine IsS59.far ?_ NB375_364.out _ | refine IsS59.far ?_ NB375_370.out _) | exact HI375.out))) : g375 ≠ gb391))
         have n12_ := m_ ((by rw [hg]; exact Nat.ne_of_gt (IsS59.lt (show IsS59 w _ g375 t371 t372 t373 t374 from by repeat (first | (with_reducible first | exact HI375.out | apply IsS59.alloc | apply IsS59.drewN | apply IsS59.drew | apply IsS59.set_0 | apply IsS59.set_1 | apply IsS59.set_2 | apply IsS59.set_3 | refine IsS59.far ?_ NB375_364.out _ | refine IsS59.far ?_ NB375_370.out _) | exact HI375.out))) : gb391 ≠ g375))
         clear BK364
         clear BK370
         clear HI375
         clear HB
         have BK364 := n0_
         have BK370 := n1_
         have HI375 := n2_
         have HB := n3_
         have BK391 := n4_
         have GW391 := n5_
         have GE391 := n6_
         have NB364_391 := n7_
         have NB391_364 := n8_
         have NB370_391 := n9_
         have NB391_370 := n10_
         have NB375_391 := n11_
         have NB391_375 := n12_
         clear n0_ n1_ n2_ n3_ n4_ n5_ n6_ n7_ n8_ n9_ n10_ n11_ n12_
         clear hb hbox hg
         refine hK.out _ _ ⟨(blk_cell BK370.out 0).trans rfl, (blk_cell BK370.out 1).trans rfl, (blk_cell BK370.out 2).trans rfl, (blk_cell BK370.out 3).trans rfl⟩ (fun hHeld => ?_)
         clear hK K
         refine norm_ (a' := ?_) ?_ ?_
         rotate_left
         ·show Act.put _ (some 7) _ = _
          simp only [Act.put, List.setIfInBounds_toArray, List.set_cons_zero, List.set_cons_succ, i64_w, i32_w]
          rfl
         refine one_ (i := 5) (N := some 31) #[true, true, true, true, true, true, true, false, true, false, true, true, true, false, true, false] rfl rfl (one_of HT_.out (by kernel_rfl)) (by decide) (fun K hK => ?_)
         refine goes_ Tryd.func34 (by kernel_rfl) rfl #[.pointer (some ⟨g375, 0, none⟩), .int .i64 1] (by rfl) rfl rfl gl_ ?_
         with_reducible refine (impl_reader_number.calls kj2 g375 t371 t372 t373 t374 1 t376 t377 t378 t379 t380 w _ ?side1 ?side2 A17.out).mono ?_
         (case side1 => repeat (first | (with_reducible first | exact HI375.out | apply IsS59.alloc | apply IsS59.drewN | apply IsS59.drew | apply IsS59.set_0 | apply IsS59.set_1 | apply IsS59.set_2 | apply IsS59.set_3 | refine IsS59.far ?_ NB375_364.out _ | refine IsS59.far ?_ NB375_370.out _ | refine IsS59.far ?_ NB375_391.out _) | exact HI375.out))
         (case side2 => repeat (first | (with_reducible first | exact HB.out | apply below_alloc | apply pw_below_drewN | apply below_drew1 | refine below_set ?_ (IsS59.ge HI375.out) | refine below_set ?_ GE364.out | refine below_set ?_ GE370.out | refine below_set ?_ GE391.out) | exact HB.out))
         rintro e w28 ⟨rfl, hi, hb, hk⟩
         refine ⟨_, rfl, ?_⟩
         have n0_ := m_ (KeepBut.blk hk (g' := gb364) (o := .cells #[.int .i64 0, .int .i64 0, .int .i64 0, .int .i64 0, .int .i64 0, .string (⟨#[]⟩ : ByteArray)] 35 (0, 0)) (kN BK364.out) NB364_375.out (by simp))
         have n1_ := m_ (KeepBut.blk hk (g' := gb370) (o := .cells #[.bool t365, .int .i64 t366, .int .i64 t367, .string t368] 23 (0, 0)) (kN BK370.out) NB370_375.out (by simp))
         have n2_ := m_ (KeepBut.blk hk (g' := gb391) (o := .cells #[.int .i64 0, .int .i64 0, .int .i64 0, .int .i64 0, .int .i64 0, .string (⟨#[]⟩ : ByteArray)] 35 (0, 0)) (kN BK391.out) NB391_375.out (by simp))
         have n3_ := m_ (hb)
         have n4_ := m_ (hi)
         clear BK364
         clear BK370
         clear BK391
         clear HB
         clear HI375
         have BK364 := n0_
         have BK370 := n1_
         have BK391 := n2_
         have HB := n3_
         have HI375 := n4_
         clear n0_ n1_ n2_ n3_ n4_
         (try clear hb)
         (try clear hb2)
         (try clear hk)
         (try clear hi)
         refine hK.out _ _ ⟨(blk_cell BK370.out 0).trans rfl, (blk_cell BK370.out 1).trans rfl, (blk_cell BK370.out 2).trans rfl, (blk_cell BK370.out 3).trans rfl⟩ (fun hHeld => ?_)
         clear hK K
         refine norm_ (a' := ?_) ?_ ?_
         rotate_left
         ·show Act.put _ (some 31) _ = _
          simp only [Act.put, List.setIfInBounds_toArray, List.set_cons_zero, List.set_cons_succ, i64_w, i32_w]
          rfl
         refine one_ (i := 7) (N := some 33) #[true, true, true, true, true, true, true, true, true, false, true, true, true, false, true, false] rfl rfl (one_of HT_.out (by kernel_rfl)) (by decide) (fun K hK => ?_)
         refine goes_ Tryd.func34 (by kernel_rfl) rfl #[.pointer (some ⟨g375, 0, none⟩), .int .i64 1] (by rfl) rfl rfl gl_ ?_
         with_reducible refine (impl_reader_number.calls kj2 g375 t377 t378 t379 t380 1 t381 t382 t383 t384 t385 w _ ?side1 ?side2 A18.out).mono ?_
         (case side1 => repeat (first | (with_reducible first | exact HI375.out | apply IsS59.alloc | apply IsS59.drewN | apply IsS59.drew | apply IsS59.set_0 | apply IsS59.set_1 | apply IsS59.set_2 | apply IsS59.set_3 | refine IsS59.far ?_ NB375_364.out _ | refine IsS59.far ?_ NB375_370.out _ | refine IsS59.far ?_ NB375_391.out _) | exact HI375.out))
         (case side2 => repeat (first | (with_reducible first | exact HB.out | apply below_alloc | apply pw_below_drewN | apply below_drew1 | refine below_set ?_ (IsS59.ge HI375.out) | refine below_set ?_ GE364.out | refine below_set ?_ GE370.out | refine below_set ?_ GE391.out) | exact HB.out))
         rintro e w29 ⟨rfl, hi, hb, hk⟩
         refine ⟨_, rfl, ?_⟩
         have n0_ := m_ (KeepBut.blk hk (g' := gb364) (o := .cells #[.int .i64 0, .int .i64 0, .int .i64 0, .int .i64 0, .int .i64 0, .string (⟨#[]⟩ : ByteArray)] 35 (0, 0)) (kN BK364.out) NB364_375.out (by simp))
         have n1_ := m_ (KeepBut.blk hk (g' := gb370) (o := .cells #[.bool t365, .int .i64 t366, .int .i64 t367, .string t368] 23 (0, 0)) (kN BK370.out) NB370_375.out (by simp))
         have n2_ := m_ (KeepBut.blk hk (g' := gb391) (o := .cells #[.int .i64 0, .int .i64 0, .int .i64 0, .int .i64 0, .int .i64 0, .string (⟨#[]⟩ : ByteArray)] 35 (0, 0)) (kN BK391.out) NB391_375.out (by simp))
         have n3_ := m_ (hb)
         have n4_ := m_ (hi)
         clear BK364
         clear BK370
         clear BK391
         clear HB
         clear HI375
         have BK364 := n0_
         have BK370 := n1_
         have BK391 := n2_
         have HB := n3_
         have HI375 := n4_
         clear n0_ n1_ n2_ n3_ n4_
         (try clear hb)
         (try clear hb2)
         (try clear hk)
         (try clear hi)
         refine hK.out _ _ ⟨(blk_cell BK370.out 0).trans rfl, (blk_cell BK370.out 1).trans rfl, (blk_cell BK370.out 2).trans rfl, (blk_cell BK370.out 3).trans rfl⟩ (fun hHeld => ?_)
         clear hK K
         refine norm_ (a' := ?_) ?_ ?_
         rotate_left
         ·show Act.put _ (some 33) _ = _
          simp only [Act.put, List.setIfInBounds_toArray, List.set_cons_zero, List.set_cons_succ, i64_w, i32_w]
          rfl
         refine one_ (i := 9) (N := some 35) #[true, true, true, true, true, true, true, true, true, true, true, true, true, false, true, false] rfl rfl (one_of HT_.out (by kernel_rfl)) (by decide) (fun K hK => ?_)
         refine goes_ Tryd.func34 (by kernel_rfl) rfl #[.pointer (some ⟨g375, 0, none⟩), .int .i64 4] (by rfl) rfl rfl gl_ ?_
         with_reducible refine (impl_reader_number.calls kj2 g375 t382 t383 t384 t385 4 t386 t387 t388 t389 t390 w _ ?side1 ?side2 A19.out).mono ?_
         (case side1 => repeat (first | (with_reducible first | exact HI375.out | apply IsS59.alloc | apply IsS59.drewN | apply IsS59.drew | apply IsS59.set_0 | apply IsS59.set_1 | apply IsS59.set_2 | apply IsS59.set_3 | refine IsS59.far ?_ NB375_364.out _ | refine IsS59.far ?_ NB375_370.out _ | refine IsS59.far ?_ NB375_391.out _) | exact HI375.out))
         (case side2 => repeat (first | (with_reducible first | exact HB.out | apply below_alloc | apply pw_below_drewN | apply below_drew1 | refine below_set ?_ (IsS59.ge HI375.out) | refine below_set ?_ GE364.out | refine below_set ?_ GE370.out | refine below_set ?_ GE391.out) | exact HB.out))
         rintro e w30 ⟨rfl, hi, hb, hk⟩
         refine ⟨_, rfl, ?_⟩
         have n0_ := m_ (KeepBut.blk hk (g' := gb364) (o := .cells #[.int .i64 0, .int .i64 0, .int .i64 0, .int .i64 0, .int .i64 0, .string (⟨#[]⟩ : ByteArray)] 35 (0, 0)) (kN BK364.out) NB364_375.out (by simp))
         have n1_ := m_ (KeepBut.blk hk (g' := gb370) (o := .cells #[.bool t365, .int .i64 t366, .int .i64 t367, .string t368] 23 (0, 0)) (kN BK370.out) NB370_375.out (by simp))
         have n2_ := m_ (KeepBut.blk hk (g' := gb391) (o := .cells #[.int .i64 0, .int .i64 0, .int .i64 0, .int .i64 0, .int .i64 0, .string (⟨#[]⟩ : ByteArray)] 35 (0, 0)) (kN BK391.out) NB391_375.out (by simp))
         have n3_ := m_ (hb)
         have n4_ := m_ (hi)
         clear BK364
         clear BK370
         clear BK391
         clear HB
         clear HI375
         have BK364 := n0_
         have BK370 := n1_
         have BK391 := n2_
         have HB := n3_
         have HI375 := n4_
         clear n0_ n1_ n2_ n3_ n4_
         (try clear hb)
         (try clear hb2)
         (try clear hk)
         (try clear hi)
         refine hK.out _ _ ⟨(blk_cell BK370.out 0).trans rfl, (blk_cell BK370.out 1).trans rfl, (blk_cell BK370.out 2).trans rfl, (blk_cell BK370.out 3).trans rfl⟩ (fun hHeld => ?_)
         clear hK K
         refine norm_ (a' := ?_) ?_ ?_
         rotate_left
         ·show Act.put _ (some 35) _ = _
          simp only [Act.put, List.setIfInBounds_toArray, List.set_cons_zero, List.set_cons_succ, i64_w, i32_w]
          rfl
         refine pu 13 39 HT_ (h := ?_)
         exact norm_ (by simp only [putAll, Act.put, List.setIfInBounds_toArray, List.set_cons_zero, List.set_cons_succ]) (hCont (gb391) _ ⟨hHeld, (kN BK364.out), (kN BK370.out), (kN BK391.out), GW391.out, GE391.out, NB375_391.out, NB391_375.out, NB364_391.out, NB391_364.out, NB370_391.out, NB391_370.out, (by repeat (first | (with_reducible first | exact HI375.out | apply IsS59.alloc | apply IsS59.drewN | apply IsS59.drew | apply IsS59.set_0 | apply IsS59.set_1 | apply IsS59.set_2 | apply IsS59.set_3 | refine IsS59.far ?_ NB375_364.out _ | refine IsS59.far ?_ NB375_370.out _ | refine IsS59.far ?_ NB375_391.out _) | exact HI375.out)), (by repeat (first | (with_reducible first | exact HB.out | apply below_alloc | apply pw_below_drewN | apply below_drew1 | refine below_set ?_ (IsS59.ge HI375.out) | refine below_set ?_ GE364.out | refine below_set ?_ GE370.out | refine below_set ?_ GE391.out) | exact HB.out))⟩)
       rintro gb391 w31 ⟨hS_, h0_, h1_, h2_, h3_, h4_, h5_, h6_, h7_, h8_, h9_, h10_, h11_, h12_⟩
       have n0_ : Aside0 (w31.heap[gb364]? = some (.cells #[.int .i64 0, .int .i64 0, .int .i64 0, .int .i64 0, .int .i64 0, .string (⟨#[]⟩ : ByteArray)] 35 (0, 0))) := ⟨h0_⟩
       have n1_ : Aside0 (w31.heap[gb370]? = some (.cells #[.bool t365, .int .i64 t366, .int .i64 t367, .string t368] 23 (0, 0))) := ⟨h1_⟩
       have n2_ : Aside0 (w31.heap[gb391]? = some (.cells #[.int .i64 0, .int .i64 0, .int .i64 0, .int .i64 0, .int .i64 0, .string (⟨#[]⟩ : ByteArray)] 35 (0, 0))) := ⟨h2_⟩
       have n3_ : Aside0 (w.heap.size ≤ gb391) := ⟨h3_⟩
       have n4_ : Aside0 (w.heap.size ≤ gb391) := ⟨h4_⟩
       have n5_ : Aside0 (g375 ≠ gb391) := ⟨h5_⟩
       have n6_ : Aside0 (gb391 ≠ g375) := ⟨h6_⟩
       have n7_ : Aside0 (gb364 ≠ gb391) := ⟨h7_⟩
       have n8_ : Aside0 (gb391 ≠ gb364) := ⟨h8_⟩
       have n9_ : Aside0 (gb370 ≠ gb391) := ⟨h9_⟩
       have n10_ : Aside0 (gb391 ≠ gb370) := ⟨h10_⟩
       have n11_ : Aside0 (IsS59 w w31 g375 t387 t388 t389 t390) := ⟨h11_⟩
       have n12_ : Aside0 (Below w.heap.size w w31) := ⟨h12_⟩
       clear BK364
       clear BK370
       clear HI375
       clear HB
       clear h0_ h1_ h2_ h3_ h4_ h5_ h6_ h7_ h8_ h9_ h10_ h11_ h12_
       have BK364 := n0_
       have BK370 := n1_
       have BK391 := n2_
       have GW391 := n3_
       have GE391 := n4_
       have NB375_391 := n5_
       have NB391_375 := n6_
       have NB364_391 := n7_
       have NB391_364 := n8_
       have NB370_391 := n9_
       have NB391_370 := n10_
       have HI375 := n11_
       have HB := n12_
       clear n0_ n1_ n2_ n3_ n4_ n5_ n6_ n7_ n8_ n9_ n10_ n11_ n12_
       have hHeld : w31.cell? ⟨gb370, 0, none⟩ = some (.bool t365) ∧ w31.cell? ⟨gb370, 1, none⟩ = some (.int .i64 t366) ∧ w31.cell? ⟨gb370, 2, none⟩ = some (.int .i64 t367) ∧ w31.cell? ⟨gb370, 3, none⟩ = some (.string t368) := hS_
       refine norm_ (a' := ?_) ?_ ?_
       rotate_left
       ·simp only [putAll, Act.put, List.setIfInBounds_toArray, List.set_cons_zero, List.set_cons_succ]
        rfl
       refine one_ (i := 15) (N := none) #[true, true, true, true, true, true, true, true, true, true, true, true, true, true, true, true] rfl rfl (one_of HT_.out (by kernel_rfl)) (by decide) (fun K hK => ?_)
       have hs32 : w31.cell? ⟨gb391, 0, none⟩ = some (.int .i64 0) := (blk_cell BK391.out 0).trans rfl
       have hfs32 := blk_frozen BK391.out 0
       have hns32_0 := NB364_391.out
       have hns32_1 := NB370_391.out
       have hms32_0 := NB391_364.out
       have hms32_1 := NB391_370.out
       have hs33 : w31.cell? ⟨gb391, 1, none⟩ = some (.int .i64 0) := (blk_cell BK391.out 1).trans rfl
       have hfs33 := blk_frozen BK391.out 1
       have hns33_0 := NB364_391.out
       have hns33_1 := NB370_391.out
       have hms33_0 := NB391_364.out
       have hms33_1 := NB391_370.out
       have hs34 : w31.cell? ⟨gb391, 2, none⟩ = some (.int .i64 0) := (blk_cell BK391.out 2).trans rfl
       have hfs34 := blk_frozen BK391.out 2
       have hns34_0 := NB364_391.out
       have hns34_1 := NB370_391.out
       have hms34_0 := NB391_364.out
       have hms34_1 := NB391_370.out
       have hs35 : w31.cell? ⟨gb391, 3, none⟩ = some (.int .i64 0) := (blk_cell BK391.out 3).trans rfl
       have hfs35 := blk_frozen BK391.out 3
       have hns35_0 := NB364_391.out
       have hns35_1 := NB370_391.out
       have hms35_0 := NB391_364.out
       have hms35_1 := NB391_370.out
       have hs36 : w31.cell? ⟨gb391, 4, none⟩ = some (.int .i64 0) := (blk_cell BK391.out 4).trans rfl
       have hfs36 := blk_frozen BK391.out 4
       have hns36_0 := NB364_391.out
       have hns36_1 := NB370_391.out
       have hms36_0 := NB391_364.out
       have hms36_1 := NB391_370.out
       have hs37 : w31.cell? ⟨gb391, 5, none⟩ = some (.string (⟨#[]⟩ : ByteArray)) := (blk_cell BK391.out 5).trans rfl
       have hfs37 := blk_frozen BK391.out 5
       have hns37_0 := NB364_391.out
       have hns37_1 := NB370_391.out
       have hms37_0 := NB391_364.out
       have hms37_1 := NB391_370.out
       refine skip_ (w1 := ?_) (by rfl) rfl ?_ ?_
       rotate_left
       ·go_simp
        rfl
       refine hK.out _ _ ⟨((cell_far (p := ⟨gb391, _, none⟩) NB370_391.out _).trans (((cell_far (p := ⟨gb391, _, none⟩) NB370_391.out _).trans (((cell_far (p := ⟨gb391, _, none⟩) NB370_391.out _).trans (((cell_far (p := ⟨gb391, _, none⟩) NB370_391.out _).trans (((cell_far (p := ⟨gb391, _, none⟩) NB370_391.out _).trans (((cell_far (p := ⟨gb391, _, none⟩) NB370_391.out _).trans (hHeld.1)))))))))))), ((cell_far (p := ⟨gb391, _, none⟩) NB370_391.out _).trans (((cell_far (p := ⟨gb391, _, none⟩) NB370_391.out _).trans (((cell_far (p := ⟨gb391, _, none⟩) NB370_391.out _).trans (((cell_far (p := ⟨gb391, _, none⟩) NB370_391.out _).trans (((cell_far (p := ⟨gb391, _, none⟩) NB370_391.out _).trans (((cell_far (p := ⟨gb391, _, none⟩) NB370_391.out _).trans (hHeld.2.1)))))))))))), ((cell_far (p := ⟨gb391, _, none⟩) NB370_391.out _).trans (((cell_far (p := ⟨gb391, _, none⟩) NB370_391.out _).trans (((cell_far (p := ⟨gb391, _, none⟩) NB370_391.out _).trans (((cell_far (p := ⟨gb391, _, none⟩) NB370_391.out _).trans (((cell_far (p := ⟨gb391, _, none⟩) NB370_391.out _).trans (((cell_far (p := ⟨gb391, _, none⟩) NB370_391.out _).trans (hHeld.2.2.1)))))))))))), ((cell_far (p := ⟨gb391, _, none⟩) NB370_391.out _).trans (((cell_far (p := ⟨gb391, _, none⟩) NB370_391.out _).trans (((cell_far (p := ⟨gb391, _, none⟩) NB370_391.out _).trans (((cell_far (p := ⟨gb391, _, none⟩) NB370_391.out _).trans (((cell_far (p := ⟨gb391, _, none⟩) NB370_391.out _).trans (((cell_far (p := ⟨gb391, _, none⟩) NB370_391.out _).trans (hHeld.2.2.2))))))))))))⟩ (fun hHeld => ?_)
       clear hK K
       refine done_ (done_of HT_.out (by kernel_rfl)) ?_
       have hnb38 := NB391_364.out
       have hnc38 := NB364_391.out
       have hnb39 := NB391_370.out
       have hnc39 := NB370_391.out
       have hnb40 := NB391_375.out
       have hnc40 := NB375_391.out
       have hcz41_0 : w31.cell? ⟨gb391, 0, none⟩ = some (.int .i64 0) := (blk_cell BK391.out 0).trans rfl
       have hcz41_1 : w31.cell? ⟨gb391, 1, none⟩ = some (.int .i64 0) := (blk_cell BK391.out 1).trans rfl
       have hcz41_2 : w31.cell? ⟨gb391, 2, none⟩ = some (.int .i64 0) := (blk_cell BK391.out 2).trans rfl
       have hcz41_3 : w31.cell? ⟨gb391, 3, none⟩ = some (.int .i64 0) := (blk_cell BK391.out 3).trans rfl
       have hcz41_4 : w31.cell? ⟨gb391, 4, none⟩ = some (.int .i64 0) := (blk_cell BK391.out 4).trans rfl
       have hcz41_5 : w31.cell? ⟨gb391, 5, none⟩ = some (.string (⟨#[]⟩ : ByteArray)) := (blk_cell BK391.out 5).trans rfl
       have hfz41_0 := blk_frozen BK391.out 0
       have hfz41_1 := blk_frozen BK391.out 1
       have hfz41_2 := blk_frozen BK391.out 2
       have hfz41_3 := blk_frozen BK391.out 3
       have hfz41_4 := blk_frozen BK391.out 4
       have hfz41_5 := blk_frozen BK391.out 5
       try go_wp2_with (first | ((with_reducible refine gate_callee (f := 21) rfl ?_); refine goesL_ (some 41) rfl rfl Tryd.func21 (by kernel_rfl) rfl #[.agg #[.int .i64 t366, .int .i64 t367, .int .i64 t376, .int .i64 t381, .int .i64 t386, .string (t368.extract 7 t368.size)]] rfl gl_ ?_; (with_reducible refine (impl_RepPut.calls kj2 t366 t367 t376 t381 t386 (t368.extract 7 t368.size) t392 _ A21.out).mono ?_); rintro e w42 ⟨rfl, hb⟩; refine ⟨_, rfl, ?_⟩; have n0_ := m_ (blk_below (g := gb364) (o := .cells #[.int .i64 0, .int .i64 0, .int .i64 0, .int .i64 0, .int .i64 0, .string (⟨#[]⟩ : ByteArray)] 35 (0, 0)) (kF BK364.out NB364_391.out) hb); have n1_ := m_ (blk_below (g := gb370) (o := .cells #[.bool t365, .int .i64 t366, .int .i64 t367, .string t368] 23 (0, 0)) (kF BK370.out NB370_391.out) hb); have n2_ := m_ (IsS59.below (show IsS59 w ((((((w31.setCell ⟨gb391, 0, none⟩ (.int .i64 t366)).setCell ⟨gb391, 1, none⟩ (.int .i64 t367)).setCell ⟨gb391, 2, none⟩ (.int .i64 t376)).setCell ⟨gb391, 3, none⟩ (.int .i64 t381)).setCell ⟨gb391, 4, none⟩ (.int .i64 t386)).setCell ⟨gb391, 5, none⟩ (.string (t368.extract 7 t368.size))) g375 t387 t388 t389 t390 from by repeat (first | (with_reducible first | exact HI375.out | apply IsS59.alloc | apply IsS59.drewN | apply IsS59.drew | apply IsS59.set_0 | apply IsS59.set_1 | apply IsS59.set_2 | apply IsS59.set_3 | refine IsS59.far ?_ NB375_364.out _ | refine IsS59.far ?_ NB375_370.out _ | refine IsS59.far ?_ NB375_391.out _) | exact HI375.out)) hb); have n3_ := m_ (blk_below (g := gb391) (o := .cells #[.int .i64 t366, .int .i64 t367, .int .i64 t376, .int .i64 t381, .int .i64 t386, .string (t368.extract 7 t368.size)] 35 (0, 0)) (kP BK391.out) hb); have n4_ := m_ (below_step (by repeat (first | (with_reducible first | exact HB.out | apply below_alloc | apply pw_below_drewN | apply below_drew1 | refine below_set ?_ (IsS59.ge HI375.out) | refine below_set ?_ GE364.out | refine below_set ?_ GE370.out | refine below_set ?_ GE391.out) | exact HB.out)) hb); clear BK364; clear BK370; clear HI375; clear BK391; clear HB; have BK364 := n0_; have BK370 := n1_; have HI375 := n2_; have BK391 := n3_; have HB := n4_; clear n0_ n1_ n2_ n3_ n4_; (try clear hb); (try clear hb2); (try clear hk); (try clear hi); have hcz43_0 : w42.cell? ⟨gb391, 0, none⟩ = some (.int .i64 t366) := (blk_cell BK391.out 0).trans rfl; have hcz43_1 : w42.cell? ⟨gb391, 1, none⟩ = some (.int .i64 t367) := (blk_cell BK391.out 1).trans rfl; have hcz43_2 : w42.cell? ⟨gb391, 2, none⟩ = some (.int .i64 t376) := (blk_cell BK391.out 2).trans rfl; have hcz43_3 : w42.cell? ⟨gb391, 3, none⟩ = some (.int .i64 t381) := (blk_cell BK391.out 3).trans rfl; have hcz43_4 : w42.cell? ⟨gb391, 4, none⟩ = some (.int .i64 t386) := (blk_cell BK391.out 4).trans rfl; have hcz43_5 : w42.cell? ⟨gb391, 5, none⟩ = some (.string (t368.extract 7 t368.size)) := (blk_cell BK391.out 5).trans rfl; have hfz43_0 := blk_frozen BK391.out 0; have hfz43_1 := blk_frozen BK391.out 1; have hfz43_2 := blk_frozen BK391.out 2; have hfz43_3 := blk_frozen BK391.out 3; have hfz43_4 := blk_frozen BK391.out 4; have hfz43_5 := blk_frozen BK391.out 5; have hnb44 := NB364_375.out; have hnc44 := NB375_364.out; have hcz45_0 : w42.cell? ⟨gb364, 0, none⟩ = some (.int .i64 0) := (blk_cell BK364.out 0).trans rfl; have hcz45_1 : w42.cell? ⟨gb364, 1, none⟩ = some (.int .i64 0) := (blk_cell BK364.out 1).trans rfl; have hcz45_2 : w42.cell? ⟨gb364, 2, none⟩ = some (.int .i64 0) := (blk_cell BK364.out 2).trans rfl; have hcz45_3 : w42.cell? ⟨gb364, 3, none⟩ = some (.int .i64 0) := (blk_cell BK364.out 3).trans rfl; have hcz45_4 : w42.cell? ⟨gb364, 4, none⟩ = some (.int .i64 0) := (blk_cell BK364.out 4).trans rfl; have hcz45_5 : w42.cell? ⟨gb364, 5, none⟩ = some (.string (⟨#[]⟩ : ByteArray)) := (blk_cell BK364.out 5).trans rfl; have hfz45_0 := blk_frozen BK364.out 0; have hfz45_1 := blk_frozen BK364.out 1; have hfz45_2 := blk_frozen BK364.out 2; have hfz45_3 := blk_frozen BK364.out 3; have hfz45_4 := blk_frozen BK364.out 4; have hfz45_5 := blk_frozen BK364.out 5))
       refine bodyPost_ret (results_ct rfl _ _ gb364 35 #[.int .i64 t366, .int .i64 t367, .int .i64 t376, .int .i64 t381, .int .i64 t386, .string (t368.extract 7 t368.size)] (0, 0) _ rfl (kP BK364.out) Tryd.underlying35 rfl (by kernel_rfl)) rfl ?_
       exact ⟨by first | rfl | (simp [errW_none, errW_some] <;> rfl) | (simp [*, errW_none, errW_some] <;> rfl), by repeat (first | (with_reducible first | exact HB.out | apply below_alloc | apply pw_below_drewN | apply below_drew1 | refine below_set ?_ (IsS59.ge HI375.out) | refine below_set ?_ GE364.out | refine below_set ?_ GE370.out | refine below_set ?_ GE391.out) | exact HB.out)⟩
      ·rw [if_neg c22] at H
       have c22b0 : (t392.toList == a0.toList) = false := beq_eq_false_iff_ne.mpr c22
       have c22b1 : (t392.toList != a0.toList) = true := bne_iff_ne.mpr c22
       simp only [Option.some.injEq, Prod.mk.injEq] at H
       obtain ⟨rfl, rfl, rfl, rfl, rfl, rfl, rfl⟩ := H
       have hnb46 := NB370_364.out
       have hnc46 := NB364_370.out
       have hcz47_0 : wc.cell? ⟨gb370, 0, none⟩ = some (.bool t365) := (blk_cell BK370.out 0).trans rfl
       have hcz47_1 : wc.cell? ⟨gb370, 1, none⟩ = some (.int .i64 t366) := (blk_cell BK370.out 1).trans rfl
       have hcz47_2 : wc.cell? ⟨gb370, 2, none⟩ = some (.int .i64 t367) := (blk_cell BK370.out 2).trans rfl
       have hcz47_3 : wc.cell? ⟨gb370, 3, none⟩ = some (.string t368) := (blk_cell BK370.out 3).trans rfl
       have hfz47_0 := blk_frozen BK370.out 0
       have hfz47_1 := blk_frozen BK370.out 1
       have hfz47_2 := blk_frozen BK370.out 2
       have hfz47_3 := blk_frozen BK370.out 3
       try go_wp2_with (first | ((with_reducible refine gate_callee (f := 33) rfl ?_); refine goesL_ (some 25) rfl rfl Tryd.func33 (by kernel_rfl) rfl #[.string (t368.extract 1 t368.size)] rfl gl_ ?_; (with_reducible refine (impl_readerOf.calls (t368.extract 1 t368.size) t371 t372 t373 t374 w _ ?side1 A16.out).mono ?_); (case side1 => repeat (first | (with_reducible first | exact HB.out | apply below_alloc | apply pw_below_drewN | apply below_drew1 | refine below_set ?_ GE364.out | refine below_set ?_ GE370.out) | exact HB.out)); rintro e w48 ⟨g375, rfl, hi, hb, hb2⟩; refine ⟨_, rfl, ?_⟩; have n0_ := m_ (blk_below (g := gb364) (o := .cells #[.int .i64 0, .int .i64 0, .int .i64 0, .int .i64 0, .int .i64 0, .string (⟨#[]⟩ : ByteArray)] 35 (0, 0)) (kN BK364.out) hb2); have n1_ := m_ (blk_below (kN BK370.out) hb2); have n2_ := m_ (hb); have n3_ := m_ (hi); have n4_ := m_ (IsS59.ne_blk hi (blk_below (g := gb364) (o := .cells #[.int .i64 0, .int .i64 0, .int .i64 0, .int .i64 0, .int .i64 0, .string (⟨#[]⟩ : ByteArray)] 35 (0, 0)) (kN BK364.out) hb2) (by decide)); have n5_ := m_ (Ne.symm (IsS59.ne_blk hi (blk_below (g := gb364) (o := .cells #[.int .i64 0, .int .i64 0, .int .i64 0, .int .i64 0, .int .i64 0, .string (⟨#[]⟩ : ByteArray)] 35 (0, 0)) (kN BK364.out) hb2) (by decide))); have n6_ := m_ (IsS59.ne_blk hi (blk_below (kN BK370.out) hb2) (by decide)); have n7_ := m_ (Ne.symm (IsS59.ne_blk hi (blk_below (kN BK370.out) hb2) (by decide))); clear BK364; clear BK370; clear HB; have BK364 := n0_; have BK370 := n1_; have HB := n2_; have HI375 := n3_; have NB375_364 := n4_; have NB364_375 := n5_; have NB375_370 := n6_; have NB370_375 := n7_; clear n0_ n1_ n2_ n3_ n4_ n5_ n6_ n7_; (try clear hb); (try clear hb2); (try clear hk); (try clear hi)))
       have n0_ := m_ (blk_drew BK364.out)
       have n1_ := m_ (blk_drew BK370.out)
       have n2_ := m_ (IsS59.drew HI375.out)
       have n3_ := m_ (below_drew1 HB.out)
       clear BK364
       clear BK370
       clear HI375
       clear HB
       have BK364 := n0_
       have BK370 := n1_
       have HI375 := n2_
       have HB := n3_
       clear n0_ n1_ n2_ n3_
       refine start_ (n := 16) (S := fun w' => w'.cell? ⟨gb370, 0, none⟩ = some (.bool t365) ∧ w'.cell? ⟨gb370, 1, none⟩ = some (.int .i64 t366) ∧ w'.cell? ⟨gb370, 2, none⟩ = some (.int .i64 t367) ∧ w'.cell? ⟨gb370, 3, none⟩ = some (.string t368)) (ds := []) #[false, false, false, false, false, false, false, false, false, false, false, false, false, false, false, false] (by kernel_rfl) rfl rfl ⟨(blk_cell BK370.out 0).trans rfl, (blk_cell BK370.out 1).trans rfl, (blk_cell BK370.out 2).trans rfl, (blk_cell BK370.out 3).trans rfl⟩ (fun hHeld => ?_); refine with_tabW impl_RepGet.tab5 impl_RepGet.bits5 (fun HT_ HW_ => ?_)
       generalize w48.drew = w49 at BK364 BK370 HI375 HB hHeld ⊢
       refine pu 0 26 HT_ (h := ?_)
       refine pu 2 28 HT_ (h := ?_)
       refine pu 4 30 HT_ (h := ?_)
       refine pu 6 32 HT_ (h := ?_)
       refine pu 8 34 HT_ (h := ?_)
       refine pu 10 36 HT_ (h := ?_)
       refine take_ (i := 1) (N := some 27) (v := ?_) (a' := ?_) #[true, true, true, false, true, false, true, false, true, false, true, false, false, false, false, false] rfl rfl (take_ofW HT_.out HW_.out (by kernel_rfl)) (fun _ _ _ h => h) (Or.inl ⟨by rfl, ?_⟩) hHeld ?_ ?_
       rotate_left
       ·rintro w' ⟨s0, s1, s2, s3⟩
        go_simp
        with_reducible rfl
       rotate_left
       ·simp only [Act.put, List.setIfInBounds_toArray, List.set_cons_zero, List.set_cons_succ, i64_w, i32_w]
        rfl
       refine take_ (i := 3) (N := some 29) (v := ?_) (a' := ?_) #[true, true, true, true, true, false, true, false, true, false, true, false, false, false, false, false] rfl rfl (take_ofW HT_.out HW_.out (by kernel_rfl)) (fun _ _ _ h => h) (Or.inl ⟨by rfl, ?_⟩) hHeld ?_ ?_
       rotate_left
       ·rintro w' ⟨s0, s1, s2, s3⟩
        go_simp
        with_reducible rfl
       rotate_left
       ·simp only [Act.put, List.setIfInBounds_toArray, List.set_cons_zero, List.set_cons_succ, i64_w, i32_w]
        rfl
       refine take_ (i := 11) (N := some 37) (v := ?_) (a' := ?_) #[true, true, true, true, true, false, true, false, true, false, true, true, false, false, false, false] rfl rfl (take_ofW HT_.out HW_.out (by kernel_rfl)) (fun _ _ _ h => h) (Or.inl ⟨by rfl, ?_⟩) hHeld ?_ ?_
       rotate_left
       ·rintro w' ⟨s0, s1, s2, s3⟩
        go_simp
        with_reducible rfl
       rotate_left
       ·simp only [Act.put, List.setIfInBounds_toArray, List.set_cons_zero, List.set_cons_succ, i64_w, i32_w]
        rfl
       refine pu 12 38 HT_ (h := ?_)
       refine join_ (σ := Nat) 1 #[true, true, true, true, true, true, true, true, true, true, true, true, true, true, true, false] (fun s_ => [(31, .int .i64 t376), (33, .int .i64 t381), (35, .int .i64 t386), (7, .pointer (some ⟨s_, 0, none⟩)), (39, .agg #[.int .i64 t366, .int .i64 t367, .int .i64 t376, .int .i64 t381, .int .i64 t386, .string (t368.extract 7 t368.size)])]) (fun s_ w' => (w'.cell? ⟨gb370, 0, none⟩ = some (.bool t365) ∧ w'.cell? ⟨gb370, 1, none⟩ = some (.int .i64 t366) ∧ w'.cell? ⟨gb370, 2, none⟩ = some (.int .i64 t367) ∧ w'.cell? ⟨gb370, 3, none⟩ = some (.string t368)) ∧ (w'.heap[gb364]? = some (.cells #[.int .i64 0, .int .i64 0, .int .i64 0, .int .i64 0, .int .i64 0, .string (⟨#[]⟩ : ByteArray)] 35 (0, 0))) ∧ (w'.heap[gb370]? = some (.cells #[.bool t365, .int .i64 t366, .int .i64 t367, .string t368] 23 (0, 0))) ∧ (w'.heap[s_]? = some (.cells #[.int .i64 0, .int .i64 0, .int .i64 0, .int .i64 0, .int .i64 0, .string (⟨#[]⟩ : ByteArray)] 35 (0, 0))) ∧ (w.heap.size ≤ s_) ∧ (w.heap.size ≤ s_) ∧ (g375 ≠ s_) ∧ (s_ ≠ g375) ∧ (gb364 ≠ s_) ∧ (s_ ≠ gb364) ∧ (gb370 ≠ s_) ∧ (s_ ≠ gb370) ∧ (IsS59 w w' g375 t387 t388 t389 t390) ∧ (Below w.heap.size w w')) ?_ ?_
       rotate_left
       ·intro hCont
        refine two_ (i := 5) (j := 14) (Ni := some 31) (Nj := some 7) #[true, true, true, true, true, true, true, false, true, false, true, true, true, false, false, false] #[true, true, true, true, true, false, true, false, true, false, true, true, true, false, true, false] rfl rfl rfl rfl (two_of HT_.out (by kernel_rfl)) (by decide) (by decide) (fun K hK => ?_) (fun K hK => ?_)
        ·skip
         refine goes_ Tryd.func34 (by kernel_rfl) rfl #[.pointer (some ⟨g375, 0, none⟩), .int .i64 1] (by rfl) rfl rfl gl_ ?_
         with_reducible refine (impl_reader_number.calls kj2 g375 t371 t372 t373 t374 1 t376 t377 t378 t379 t380 w _ ?side1 ?side2 A17.out).mono ?_
         (case side1 => repeat (first | (with_reducible first | exact HI375.out | apply IsS59.alloc | apply IsS59.drewN | apply IsS59.drew | apply IsS59.set_0 | apply IsS59.set_1 | apply IsS59.set_2 | apply IsS59.set_3 | refine IsS59.far ?_ NB375_364.out _ | refine IsS59.far ?_ NB375_370.out _) | exact HI375.out))
         (case side2 => repeat (first | (with_reducible first | exact HB.out | apply below_alloc | apply pw_below_drewN | apply below_drew1 | refine below_set ?_ (IsS59.ge HI375.out) | refine below_set ?_ GE364.out | refine below_set ?_ GE370.out) | exact HB.out))
         rintro e w50 ⟨rfl, hi, hb, hk⟩
         refine ⟨_, rfl, ?_⟩
         have n0_ := m_ (KeepBut.blk hk (g' := gb364) (o := .cells #[.int .i64 0, .int .i64 0, .int .i64 0, .int .i64 0, .int .i64 0, .string (⟨#[]⟩ : ByteArray)] 35 (0, 0)) (kN BK364.out) NB364_375.out (by simp))
         have n1_ := m_ (KeepBut.blk hk (g' := gb370) (o := .cells #[.bool t365, .int .i64 t366, .int .i64 t367, .string t368] 23 (0, 0)) (kN BK370.out) NB370_375.out (by simp))
         have n2_ := m_ (hb)
         have n3_ := m_ (hi)
         clear BK364
         clear BK370
         clear HB
         clear HI375
         have BK364 := n0_
         have BK370 := n1_
         have HB := n2_
         have HI375 := n3_
         clear n0_ n1_ n2_ n3_
         (try clear hb)
         (try clear hb2)
         (try clear hk)
         (try clear hi)
         refine hK.out _ _ ⟨(blk_cell BK370.out 0).trans rfl, (blk_cell BK370.out 1).trans rfl, (blk_cell BK370.out 2).trans rfl, (blk_cell BK370.out 3).trans rfl⟩ (fun hHeld => ?_)
         clear hK K
         refine norm_ (a' := ?_) ?_ ?_
         rotate_left
         ·show Act.put _ (some 31) _ = _
          simp only [Act.put, List.setIfInBounds_toArray, List.set_cons_zero, List.set_cons_succ, i64_w, i32_w]
          rfl
         refine two_ (i := 7) (j := 14) (Ni := some 33) (Nj := some 7) #[true, true, true, true, true, true, true, true, true, false, true, true, true, false, false, false] #[true, true, true, true, true, true, true, false, true, false, true, true, true, false, true, false] rfl rfl rfl rfl (two_of HT_.out (by kernel_rfl)) (by decide) (by decide) (fun K hK => ?_) (fun K hK => ?_)
         ·skip
          refine goes_ Tryd.func34 (by kernel_rfl) rfl #[.pointer (some ⟨g375, 0, none⟩), .int .i64 1] (by rfl) rfl rfl gl_ ?_
          with_reducible refine (impl_reader_number.calls kj2 g375 t377 t378 t379 t380 1 t381 t382 t383 t384 t385 w _ ?side1 ?side2 A18.out).mono ?_
          (case side1 => repeat (first | (with_reducible first | exact HI375.out | apply IsS59.alloc | apply IsS59.drewN | apply IsS59.drew | apply IsS59.set_0 | apply IsS59.set_1 | apply IsS59.set_2 | apply IsS59.set_3 | refine IsS59.far ?_ NB375_364.out _ | refine IsS59.far ?_ NB375_370.out _) | exact HI375.out))
          (case side2 => repeat (first | (with_reducible first | exact HB.out | apply below_alloc | apply pw_below_drewN | apply below_drew1 | refine below_set ?_ (IsS59.ge HI375.out) | refine below_set ?_ GE364.out | refine below_set ?_ GE370.out) | exact HB.out))
          rintro e w51 ⟨rfl, hi, hb, hk⟩
          refine ⟨_, rfl, ?_⟩
          have n0_ := m_ (KeepBut.blk hk (g' := gb364) (o := .cells #[.int .i64 0, .int .i64 0, .int .i64 0, .int .i64 0, .int .i64 0, .string (⟨#[]⟩ : ByteArray)] 35 (0, 0)) (kN BK364.out) NB364_375.out (by simp))
          have n1_ := m_ (KeepBut.blk hk (g' := gb370) (o := .cells #[.bool t365, .int .i64 t366, .int .i64 t367, .string t368] 23 (0, 0)) (kN BK370.out) NB370_375.out (by simp))
          have n2_ := m_ (hb)
          have n3_ := m_ (hi)
          clear BK364
          clear BK370
          clear HB
          clear HI375
          have BK364 := n0_
          have BK370 := n1_
          have HB := n2_
          have HI375 := n3_
          clear n0_ n1_ n2_ n3_
          (try clear hb)
          (try clear hb2)
          (try clear hk)
          (try clear hi)
          refine hK.out _ _ ⟨(blk_cell BK370.out 0).trans rfl, (blk_cell BK370.out 1).trans rfl, (blk_cell BK370.out 2).trans rfl, (blk_cell BK370.out 3).trans rfl⟩ (fun hHeld => ?_)
          clear hK K
          refine norm_ (a' := ?_) ?_ ?_
          rotate_left
          ·show Act.put _ (some 33) _ = _
           simp only [Act.put, List.setIfInBounds_toArray, List.set_cons_zero, List.set_cons_succ, i64_w, i32_w]
           rfl
          refine two_ (i := 9) (j := 14) (Ni := some 35) (Nj := some 7) #[true, true, true, true, true, true, true, true, true, true, true, true, true, false, false, false] #[true, true, true, true, true, true, true, true, true, false, true, true, true, false, true, false] rfl rfl rfl rfl (two_of HT_.out (by kernel_rfl)) (by decide) (by decide) (fun K hK => ?_) (fun K hK => ?_)
          ·skip
           refine goes_ Tryd.func34 (by kernel_rfl) rfl #[.pointer (some ⟨g375, 0, none⟩), .int .i64 4] (by rfl) rfl rfl gl_ ?_
           with_reducible refine (impl_reader_number.calls kj2 g375 t382 t383 t384 t385 4 t386 t387 t388 t389 t390 w _ ?side1 ?side2 A19.out).mono ?_
           (case side1 => repeat (first | (with_reducible first | exact HI375.out | apply IsS59.alloc | apply IsS59.drewN | apply IsS59.drew | apply IsS59.set_0 | apply IsS59.set_1 | apply IsS59.set_2 | apply IsS59.set_3 | refine IsS59.far ?_ NB375_364.out _ | refine IsS59.far ?_ NB375_370.out _) | exact HI375.out))
           (case side2 => repeat (first | (with_reducible first | exact HB.out | apply below_alloc | apply pw_below_drewN | apply below_drew1 | refine below_set ?_ (IsS59.ge HI375.out) | refine below_set ?_ GE364.out | refine below_set ?_ GE370.out) | exact HB.out))
           rintro e w52 ⟨rfl, hi, hb, hk⟩
           refine ⟨_, rfl, ?_⟩
           have n0_ := m_ (KeepBut.blk hk (g' := gb364) (o := .cells #[.int .i64 0, .int .i64 0, .int .i64 0, .int .i64 0, .int .i64 0, .string (⟨#[]⟩ : ByteArray)] 35 (0, 0)) (kN BK364.out) NB364_375.out (by simp))
           have n1_ := m_ (KeepBut.blk hk (g' := gb370) (o := .cells #[.bool t365, .int .i64 t366, .int .i64 t367, .string t368] 23 (0, 0)) (kN BK370.out) NB370_375.out (by simp))
           have n2_ := m_ (hb)
           have n3_ := m_ (hi)
           clear BK364
           clear BK370
           clear HB
           clear HI375
           have BK364 := n0_
           have BK370 := n1_
           have HB := n2_
           have HI375 := n3_
           clear n0_ n1_ n2_ n3_
           (try clear hb)
           (try clear hb2)
           (try clear hk)
           (try clear hi)
           refine hK.out _ _ ⟨(blk_cell BK370.out 0).trans rfl, (blk_cell BK370.out 1).trans rfl, (blk_cell BK370.out 2).trans rfl, (blk_cell BK370.out 3).trans rfl⟩ (fun hHeld => ?_)
           clear hK K
           refine norm_ (a' := ?_) ?_ ?_
           rotate_left
           ·show Act.put _ (some 35) _ = _
            simp only [Act.put, List.setIfInBounds_toArray, List.set_cons_zero, List.set_cons_succ, i64_w, i32_w]
            rfl
           refine pu 13 39 HT_ (h := ?_)
           refine one_ (i := 14) (N := some 7) #[true, true, true, true, true, true, true, true, true, true, true, true, true, true, true, false] rfl rfl (one_of HT_.out (by kernel_rfl)) (by decide) (fun K hK => ?_)
           refine box_step ?hg (N := 7) ?hd (cs := #[.int .i64 0, .int .i64 0, .int .i64 0, .int .i64 0, .int .i64 0, .string (⟨#[]⟩ : ByteArray)]) (t := 35) ?hr ?_; (case hd => rfl); (case hg => rfl); (case hr => first | (go_simp; done) | (go_simp; rfl))
           intro gb391 hg w53 hbox hb
           have n0_ := m_ (blk_below (g := gb364) (o := .cells #[.int .i64 0, .int .i64 0, .int .i64 0, .int .i64 0, .int .i64 0, .string (⟨#[]⟩ : ByteArray)] 35 (0, 0)) (kN BK364.out) hb)
           have n1_ := m_ (blk_below (kN BK370.out) hb)
           have n2_ := m_ (IsS59.below (by repeat (first | (with_reducible first | exact HI375.out | apply IsS59.alloc | apply IsS59.drewN | apply IsS59.drew | apply IsS59.set_0 | apply IsS59.set_1 | apply IsS59.set_2 | apply IsS59.set_3 | refine IsS59.far ?_ NB375_364.out _ | refine IsS59.far ?_ NB375_370.out _) | exact HI375.out)) hb)
           have n3_ := m_ (below_step (by repeat (first | (with_reducible first | exact HB.out | apply below_alloc | apply pw_below_drewN | apply below_drew1 | refine below_set ?_ (IsS59.ge HI375.out) | refine below_set ?_ GE364.out | refine below_set ?_ GE370.out) | exact HB.out)) hb)
           have n4_ := m_ (hbox)
           have n5_ := m_ ((by rw [hg]; exact (below_size (by repeat (first | (with_reducible first | exact HB.out | apply below_alloc | apply pw_below_drewN | apply below_drew1 | refine below_set ?_ (IsS59.ge HI375.out) | refine below_set ?_ GE364.out | refine below_set ?_ GE370.out) | exact HB.out))) : w.heap.size ≤ gb391))
           have n6_ := m_ ((by rw [hg]; exact (below_size (by repeat (first | (with_reducible first | exact HB.out | apply below_alloc | apply pw_below_drewN | apply below_drew1 | refine below_set ?_ (IsS59.ge HI375.out) | refine below_set ?_ GE364.out | refine below_set ?_ GE370.out) | exact HB.out))) : w.heap.size ≤ gb391))
           have n7_ := m_ ((by rw [hg]; exact Nat.ne_of_lt (blk_lt (g := gb364) (o := .cells #[.int .i64 0, .int .i64 0, .int .i64 0, .int .i64 0, .int .i64 0, .string (⟨#[]⟩ : ByteArray)] 35 (0, 0)) (kN BK364.out)) : gb364 ≠ gb391))
           have n8_ := m_ ((by rw [hg]; exact Nat.ne_of_gt (blk_lt (g := gb364) (o := .cells #[.int .i64 0, .int .i64 0, .int .i64 0, .int .i64 0, .int .i64 0, .string (⟨#[]⟩ : ByteArray)] 35 (0, 0)) (kN BK364.out)) : gb391 ≠ gb364))
           have n9_ := m_ ((by rw [hg]; exact Nat.ne_of_lt (blk_lt (g := gb370) (o := .cells #[.bool t365, .int .i64 t366, .int .i64 t367, .string t368] 23 (0, 0)) (kN BK370.out)) : gb370 ≠ gb391))
           have n10_ := m_ ((by rw [hg]; exact Nat.ne_of_gt (blk_lt (g := gb370) (o := .cells #[.bool t365, .int .i64 t366, .int .i64 t367, .string t368] 23 (0, 0)) (kN BK370.out)) : gb391 ≠ gb370))
           have n11_ := m_ ((by rw [hg]; exact Nat.ne_of_lt (IsS59.lt (show IsS59 w _ g375 t387 t388 t389 t390 from by repeat (first | (with_reducible first | exact HI375.out | apply IsS59.alloc | apply IsS59.drewN | apply IsS59.drew | apply IsS59.set_0 | apply IsS59.set_1 | apply IsS59.set_2 | apply IsS59.set_3 | refine IsS59.far ?_ NB375_364.out _ | refine IsS59.far ?_ NB375_370.out _) | exact HI375.out))) : g375 ≠ gb391))
           have n12_ := m_ ((by rw [hg]; exact Nat.ne_of_gt (IsS59.lt (show IsS59 w _ g375 t387 t388 t389 t390 from by repeat (first | (with_reducible first | exact HI375.out | apply IsS59.alloc | apply IsS59.drewN | apply IsS59.drew | apply IsS59.set_0 | apply IsS59.set_1 | apply IsS59.set_2 | apply IsS59.set_3 | refine IsS59.far ?_ NB375_364.out _ | refine IsS59.far ?_ NB375_370.out _) | exact HI375.out))) : gb391 ≠ g375))
           clear BK364
           clear BK370
           clear HI375
           clear HB
           have BK364 := n0_
           have BK370 := n1_
           have HI375 := n2_
           have HB := n3_
           have BK391 := n4_
           have GW391 := n5_
           have GE391 := n6_
           have NB364_391 := n7_
           have NB391_364 := n8_
           have NB370_391 := n9_
           have NB391_370 := n10_
           have NB375_391 := n11_
           have NB391_375 := n12_
           clear n0_ n1_ n2_ n3_ n4_ n5_ n6_ n7_ n8_ n9_ n10_ n11_ n12_
           clear hb hbox hg
           refine hK.out _ _ ⟨(blk_cell BK370.out 0).trans rfl, (blk_cell BK370.out 1).trans rfl, (blk_cell BK370.out 2).trans rfl, (blk_cell BK370.out 3).trans rfl⟩ (fun hHeld => ?_)
           clear hK K
           refine norm_ (a' := ?_) ?_ ?_
           rotate_left
           ·show Act.put _ (some 7) _ = _
            simp only [Act.put, List.setIfInBounds_toArray, List.set_cons_zero, List.set_cons_succ, i64_w, i32_w]
            rfl
           exact norm_ (by simp only [putAll, Act.put, List.setIfInBounds_toArray, List.set_cons_zero, List.set_cons_succ]) (hCont (gb391) _ ⟨hHeld, (kN BK364.out), (kN BK370.out), (kN BK391.out), GW391.out, GE391.out, NB375_391.out, NB391_375.out, NB364_391.out, NB391_364.out, NB370_391.out, NB391_370.out, (by repeat (first | (with_reducible first | exact HI375.out | apply IsS59.alloc | apply IsS59.drewN | apply IsS59.drew | apply IsS59.set_0 | apply IsS59.set_1 | apply IsS59.set_2 | apply IsS59.set_3 | refine IsS59.far ?_ NB375_364.out _ | refine IsS59.far ?_ NB375_370.out _ | refine IsS59.far ?_ NB375_391.out _) | exact HI375.out)), (by repeat (first | (with_reducible first | exact HB.out | apply below_alloc | apply pw_below_drewN | apply below_drew1 | refine below_set ?_ (IsS59.ge HI375.out) | refine below_set ?_ GE364.out | refine below_set ?_ GE370.out | refine below_set ?_ GE391.out) | exact HB.out))⟩)
          ·skip
           refine box_step ?hg (N := 7) ?hd (cs := #[.int .i64 0, .int .i64 0, .int .i64 0, .int .i64 0, .int .i64 0, .string (⟨#[]⟩ : ByteArray)]) (t := 35) ?hr ?_; (case hd => rfl); (case hg => rfl); (case hr => first | (go_simp; done) | (go_simp; rfl))
           intro gb391 hg w52 hbox hb
           have n0_ := m_ (blk_below (g := gb364) (o := .cells #[.int .i64 0, .int .i64 0, .int .i64 0, .int .i64 0, .int .i64 0, .string (⟨#[]⟩ : ByteArray)] 35 (0, 0)) (kN BK364.out) hb)
           have n1_ := m_ (blk_below (kN BK370.out) hb)
           have n2_ := m_ (IsS59.below (by repeat (first | (with_reducible first | exact HI375.out | apply IsS59.alloc | apply IsS59.drewN | apply IsS59.drew | apply IsS59.set_0 | apply IsS59.set_1 | apply IsS59.set_2 | apply IsS59.set_3 | refine IsS59.far ?_ NB375_364.out _ | refine IsS59.far ?_ NB375_370.out _) | exact HI375.out)) hb)
           have n3_ := m_ (below_step (by repeat (first | (with_reducible first | exact HB.out | apply below_alloc | apply pw_below_drewN | apply below_drew1 | refine below_set ?_ (IsS59.ge HI375.out) | refine below_set ?_ GE364.out | refine below_set ?_ GE370.out) | exact HB.out)) hb)
           have n4_ := m_ (hbox)
           have n5_ := m_ ((by rw [hg]; exact (below_size (by repeat (first | (with_reducible first | exact HB.out | apply below_alloc | apply pw_below_drewN | apply below_drew1 | refine below_set ?_ (IsS59.ge HI375.out) | refine below_set ?_ GE364.out | refine below_set ?_ GE370.out) | exact HB.out))) : w.heap.size ≤ gb391))
           have n6_ := m_ ((by rw [hg]; exact (below_size (by repeat (first | (with_reducible first | exact HB.out | apply below_alloc | apply pw_below_drewN | apply below_drew1 | refine below_set ?_ (IsS59.ge HI375.out) | refine below_set ?_ GE364.out | refine below_set ?_ GE370.out) | exact HB.out))) : w.heap.size ≤ gb391))
           have n7_ := m_ ((by rw [hg]; exact Nat.ne_of_lt (blk_lt (g := gb364) (o := .cells #[.int .i64 0, .int .i64 0, .int .i64 0, .int .i64 0, .int .i64 0, .string (⟨#[]⟩ : ByteArray)] 35 (0, 0)) (kN BK364.out)) : gb364 ≠ gb391))
           have n8_ := m_ ((by rw [hg]; exact Nat.ne_of_gt (blk_lt (g := gb364) (o := .cells #[.int .i64 0, .int .i64 0, .int .i64 0, .int .i64 0, .int .i64 0, .string (⟨#[]⟩ : ByteArray)] 35 (0, 0)) (kN BK364.out)) : gb391 ≠ gb364))
           have n9_ := m_ ((by rw [hg]; exact Nat.ne_of_lt (blk_lt (g := gb370) (o := .cells #[.bool t365, .int .i64 t366, .int .i64 t367, .string t368] 23 (0, 0)) (kN BK370.out)) : gb370 ≠ gb391))
           have n10_ := m_ ((by rw [hg]; exact Nat.ne_of_gt (blk_lt (g := gb370) (o := .cells #[.bool t365, .int .i64 t366, .int .i64 t367, .string t368] 23 (0, 0)) (kN BK370.out)) : gb391 ≠ gb370))
           have n11_ := m_ ((by rw [hg]; exact Nat.ne_of_lt (IsS59.lt (show IsS59 w _ g375 t382 t383 t384 t385 from by repeat (first | (with_reducible first | exact HI375.out | apply IsS59.alloc | apply IsS59.drewN | apply IsS59.drew | apply IsS59.set_0 | apply IsS59.set_1 | apply IsS59.set_2 | apply IsS59.set_3 | refine IsS59.far ?_ NB375_364.out _ | refine IsS59.far ?_ NB375_370.out _) | exact HI375.out))) : g375 ≠ gb391))
           have n12_ := m_ ((by rw [hg]; exact Nat.ne_of_gt (IsS59.lt (show IsS59 w _ g375 t382 t383 t384 t385 from by repeat (first | (with_reducible first | exact HI375.out | apply IsS59.alloc | apply IsS59.drewN | apply IsS59.drew | apply IsS59.set_0 | apply IsS59.set_1 | apply IsS59.set_2 | apply IsS59.set_3 | refine IsS59.far ?_ NB375_364.out _ | refine IsS59.far ?_ NB375_370.out _) | exact HI375.out))) : gb391 ≠ g375))
           clear BK364
           clear BK370
           clear HI375
           clear HB
           have BK364 := n0_
           have BK370 := n1_
           have HI375 := n2_
           have HB := n3_
           have BK391 := n4_
           have GW391 := n5_
           have GE391 := n6_
           have NB364_391 := n7_
           have NB391_364 := n8_
           have NB370_391 := n9_
           have NB391_370 := n10_
           have NB375_391 := n11_
           have NB391_375 := n12_
           clear n0_ n1_ n2_ n3_ n4_ n5_ n6_ n7_ n8_ n9_ n10_ n11_ n12_
           clear hb hbox hg
           refine hK.out _ _ ⟨(blk_cell BK370.out 0).trans rfl, (blk_cell BK370.out 1).trans rfl, (blk_cell BK370.out 2).trans rfl, (blk_cell BK370.out 3).trans rfl⟩ (fun hHeld => ?_)
           clear hK K
           refine norm_ (a' := ?_) ?_ ?_
           rotate_left
           ·show Act.put _ (some 7) _ = _
            simp only [Act.put, List.setIfInBounds_toArray, List.set_cons_zero, List.set_cons_succ, i64_w, i32_w]
            rfl
           refine one_ (i := 9) (N := some 35) #[true, true, true, true, true, true, true, true, true, true, true, true, true, false, true, false] rfl rfl (one_of HT_.out (by kernel_rfl)) (by decide) (fun K hK => ?_)
           refine goes_ Tryd.func34 (by kernel_rfl) rfl #[.pointer (some ⟨g375, 0, none⟩), .int .i64 4] (by rfl) rfl rfl gl_ ?_
           with_reducible refine (impl_reader_number.calls kj2 g375 t382 t383 t384 t385 4 t386 t387 t388 t389 t390 w _ ?side1 ?side2 A19.out).mono ?_
           (case side1 => repeat (first | (with_reducible first | exact HI375.out | apply IsS59.alloc | apply IsS59.drewN | apply IsS59.drew | apply IsS59.set_0 | apply IsS59.set_1 | apply IsS59.set_2 | apply IsS59.set_3 | refine IsS59.far ?_ NB375_364.out _ | refine IsS59.far ?_ NB375_370.out _ | refine IsS59.far ?_ NB375_391.out _) | exact HI375.out))
           (case side2 => repeat (first | (with_reducible first | exact HB.out | apply below_alloc | apply pw_below_drewN | apply below_drew1 | refine below_set ?_ (IsS59.ge HI375.out) | refine below_set ?_ GE364.out | refine below_set ?_ GE370.out | refine below_set ?_ GE391.out) | exact HB.out))
           rintro e w53 ⟨rfl, hi, hb, hk⟩
           refine ⟨_, rfl, ?_⟩
           have n0_ := m_ (KeepBut.blk hk (g' := gb364) (o := .cells #[.int .i64 0, .int .i64 0, .int .i64 0, .int .i64 0, .int .i64 0, .string (⟨#[]⟩ : ByteArray)] 35 (0, 0)) (kN BK364.out) NB364_375.out (by simp))
           have n1_ := m_ (KeepBut.blk hk (g' := gb370) (o := .cells #[.bool t365, .int .i64 t366, .int .i64 t367, .string t368] 23 (0, 0)) (kN BK370.out) NB370_375.out (by simp))
           have n2_ := m_ (KeepBut.blk hk (g' := gb391) (o := .cells #[.int .i64 0, .int .i64 0, .int .i64 0, .int .i64 0, .int .i64 0, .string (⟨#[]⟩ : ByteArray)] 35 (0, 0)) (kN BK391.out) NB391_375.out (by simp))
           have n3_ := m_ (hb)
           have n4_ := m_ (hi)
           clear BK364
           clear BK370
           clear BK391
           clear HB
           clear HI375
           have BK364 := n0_
           have BK370 := n1_
           have BK391 := n2_
           have HB := n3_
           have HI375 := n4_
           clear n0_ n1_ n2_ n3_ n4_
           (try clear hb)
           (try clear hb2)
           (try clear hk)
           (try clear hi)
           refine hK.out _ _ ⟨(blk_cell BK370.out 0).trans rfl, (blk_cell BK370.out 1).trans rfl, (blk_cell BK370.out 2).trans rfl, (blk_cell BK370.out 3).trans rfl⟩ (fun hHeld => ?_)
           clear hK K
           refine norm_ (a' := ?_) ?_ ?_
           rotate_left
           ·show Act.put _ (some 35) _ = _
            simp only [Act.put, List.setIfInBounds_toArray, List.set_cons_zero, List.set_cons_succ, i64_w, i32_w]
            rfl
           refine pu 13 39 HT_ (h := ?_)
           exact norm_ (by simp only [putAll, Act.put, List.setIfInBounds_toArray, List.set_cons_zero, List.set_cons_succ]) (hCont (gb391) _ ⟨hHeld, (kN BK364.out), (kN BK370.out), (kN BK391.out), GW391.out, GE391.out, NB375_391.out, NB391_375.out, NB364_391.out, NB391_364.out, NB370_391.out, NB391_370.out, (by repeat (first | (with_reducible first | exact HI375.out | apply IsS59.alloc | apply IsS59.drewN | apply IsS59.drew | apply IsS59.set_0 | apply IsS59.set_1 | apply IsS59.set_2 | apply IsS59.set_3 | refine IsS59.far ?_ NB375_364.out _ | refine IsS59.far ?_ NB375_370.out _ | refine IsS59.far ?_ NB375_391.out _) | exact HI375.out)), (by repeat (first | (with_reducible first | exact HB.out | apply below_alloc | apply pw_below_drewN | apply below_drew1 | refine below_set ?_ (IsS59.ge HI375.out) | refine below_set ?_ GE364.out | refine below_set ?_ GE370.out | refine below_set ?_ GE391.out) | exact HB.out))⟩)
         ·skip
          refine box_step ?hg (N := 7) ?hd (cs := #[.int .i64 0, .int .i64 0, .int .i64 0, .int .i64 0, .int .i64 0, .string (⟨#[]⟩ : ByteArray)]) (t := 35) ?hr ?_; (case hd => rfl); (case hg => rfl); (case hr => first | (go_simp; done) | (go_simp; rfl))
          intro gb391 hg w51 hbox hb
          have n0_ := m_ (blk_below (g := gb364) (o := .cells #[.int .i64 0, .int .i64 0, .int .i64 0, .int .i64 0, .int .i64 0, .string (⟨#[]⟩ : ByteArray)] 35 (0, 0)) (kN BK364.out) hb)
          have n1_ := m_ (blk_below (kN BK370.out) hb)
          have n2_ := m_ (IsS59.below (by repeat (first | (with_reducible first | exact HI375.out | apply IsS59.alloc | apply IsS59.drewN | apply IsS59.drew | apply IsS59.set_0 | apply IsS59.set_1 | apply IsS59.set_2 | apply IsS59.set_3 | refine IsS59.far ?_ NB375_364.out _ | refine IsS59.far ?_ NB375_370.out _) | exact HI375.out)) hb)
          have n3_ := m_ (below_step (by repeat (first | (with_reducible first | exact HB.out | apply below_alloc | apply pw_below_drewN | apply below_drew1 | refine below_set ?_ (IsS59.ge HI375.out) | refine below_set ?_ GE364.out | refine below_set ?_ GE370.out) | exact HB.out)) hb)
          have n4_ := m_ (hbox)
          have n5_ := m_ ((by rw [hg]; exact (below_size (by repeat (first | (with_reducible first | exact HB.out | apply below_alloc | apply pw_below_drewN | apply below_drew1 | refine below_set ?_ (IsS59.ge HI375.out) | refine below_set ?_ GE364.out | refine below_set ?_ GE370.out) | exact HB.out))) : w.heap.size ≤ gb391))
          have n6_ := m_ ((by rw [hg]; exact (below_size (by repeat (first | (with_reducible first | exact HB.out | apply below_alloc | apply pw_below_drewN | apply below_drew1 | refine below_set ?_ (IsS59.ge HI375.out) | refine below_set ?_ GE364.out | refine below_set ?_ GE370.out) | exact HB.out))) : w.heap.size ≤ gb391))
          have n7_ := m_ ((by rw [hg]; exact Nat.ne_of_lt (blk_lt (g := gb364) (o := .cells #[.int .i64 0, .int .i64 0, .int .i64 0, .int .i64 0, .int .i64 0, .string (⟨#[]⟩ : ByteArray)] 35 (0, 0)) (kN BK364.out)) : gb364 ≠ gb391))
          have n8_ := m_ ((by rw [hg]; exact Nat.ne_of_gt (blk_lt (g := gb364) (o := .cells #[.int .i64 0, .int .i64 0, .int .i64 0, .int .i64 0, .int .i64 0, .string (⟨#[]⟩ : ByteArray)] 35 (0, 0)) (kN BK364.out)) : gb391 ≠ gb364))
          have n9_ := m_ ((by rw [hg]; exact Nat.ne_of_lt (blk_lt (g := gb370) (o := .cells #[.bool t365, .int .i64 t366, .int .i64 t367, .string t368] 23 (0, 0)) (kN BK370.out)) : gb370 ≠ gb391))
          have n10_ := m_ ((by rw [hg]; exact Nat.ne_of_gt (blk_lt (g := gb370) (o := .cells #[.bool t365, .int .i64 t366, .int .i64 t367, .string t368] 23 (0, 0)) (kN BK370.out)) : gb391 ≠ gb370))
          have n11_ := m_ ((by rw [hg]; exact Nat.ne_of_lt (IsS59.lt (show IsS59 w _ g375 t377 t378 t379 t380 from by repeat (first | (with_reducible first | exact HI375.out | apply IsS59.alloc | apply IsS59.drewN | apply IsS59.drew | apply IsS59.set_0 | apply IsS59.set_1 | apply IsS59.set_2 | apply IsS59.set_3 | refine IsS59.far ?_ NB375_364.out _ | refine IsS59.far ?_ NB375_370.out _) | exact HI375.out))) : g375 ≠ gb391))
          have n12_ := m_ ((by rw [hg]; exact Nat.ne_of_gt (IsS59.lt (show IsS59 w _ g375 t377 t378 t379 t380 from by repeat (first | (with_reducible first | exact HI375.out | apply IsS59.alloc | apply IsS59.drewN | apply IsS59.drew | apply IsS59.set_0 | apply IsS59.set_1 | apply IsS59.set_2 | apply IsS59.set_3 | refine IsS59.far ?_ NB375_364.out _ | refine IsS59.far ?_ NB375_370.out _) | exact HI375.out))) : gb391 ≠ g375))
          clear BK364
          clear BK370
          clear HI375
          clear HB
          have BK364 := n0_
          have BK370 := n1_
          have HI375 := n2_
          have HB := n3_
          have BK391 := n4_
          have GW391 := n5_
          have GE391 := n6_
          have NB364_391 := n7_
          have NB391_364 := n8_
          have NB370_391 := n9_
          have NB391_370 := n10_
          have NB375_391 := n11_
          have NB391_375 := n12_
          clear n0_ n1_ n2_ n3_ n4_ n5_ n6_ n7_ n8_ n9_ n10_ n11_ n12_
          clear hb hbox hg
          refine hK.out _ _ ⟨(blk_cell BK370.out 0).trans rfl, (blk_cell BK370.out 1).trans rfl, (blk_cell BK370.out 2).trans rfl, (blk_cell BK370.out 3).trans rfl⟩ (fun hHeld => ?_)
          clear hK K
          refine norm_ (a' := ?_) ?_ ?_
          rotate_left
          ·show Act.put _ (some 7) _ = _
           simp only [Act.put, List.setIfInBounds_toArray, List.set_cons_zero, List.set_cons_succ, i64_w, i32_w]
           rfl
          refine one_ (i := 7) (N := some 33) #[true, true, true, true, true, true, true, true, true, false, true, true, true, false, true, false] rfl rfl (one_of HT_.out (by kernel_rfl)) (by decide) (fun K hK => ?_)
          refine goes_ Tryd.func34 (by kernel_rfl) rfl #[.pointer (some ⟨g375, 0, none⟩), .int .i64 1] (by rfl) rfl rfl gl_ ?_
          with_reducible refine (impl_reader_number.calls kj2 g375 t377 t378 t379 t380 1 t381 t382 t383 t384 t385 w _ ?side1 ?side2 A18.out).mono ?_
          (case side1 => repeat (first | (with_reducible first | exact HI375.out | apply IsS59.alloc | apply IsS59.drewN | apply IsS59.drew | apply IsS59.set_0 | apply IsS59.set_1 | apply IsS59.set_2 | apply IsS59.set_3 | refine IsS59.far ?_ NB375_364.out _ | refine IsS59.far ?_ NB375_370.out _ | refine IsS59.far ?_ NB375_391.out _) | exact HI375.out))
          (case side2 => repeat (first | (with_reducible first | exact HB.out | apply below_alloc | apply pw_below_drewN | apply below_drew1 | refine below_set ?_ (IsS59.ge HI375.out) | refine below_set ?_ GE364.out | refine below_set ?_ GE370.out | refine below_set ?_ GE391.out) | exact HB.out))
          rintro e w52 ⟨rfl, hi, hb, hk⟩
          refine ⟨_, rfl, ?_⟩
          have n0_ := m_ (KeepBut.blk hk (g' := gb364) (o := .cells #[.int .i64 0, .int .i64 0, .int .i64 0, .int .i64 0, .int .i64 0, .string (⟨#[]⟩ : ByteArray)] 35 (0, 0)) (kN BK364.out) NB364_375.out (by simp))
          have n1_ := m_ (KeepBut.blk hk (g' := gb370) (o := .cells #[.bool t365, .int .i64 t366, .int .i64 t367, .string t368] 23 (0, 0)) (kN BK370.out) NB370_375.out (by simp))
          have n2_ := m_ (KeepBut.blk hk (g' := gb391) (o := .cells #[.int .i64 0, .int .i64 0, .int .i64 0, .int .i64 0, .int .i64 0, .string (⟨#[]⟩ : ByteArray)] 35 (0, 0)) (kN BK391.out) NB391_375.out (by simp))
          have n3_ := m_ (hb)
          have n4_ := m_ (hi)
          clear BK364
          clear BK370
          clear BK391
          clear HB
          clear HI375
          have BK364 := n0_
          have BK370 := n1_
          have BK391 := n2_
          have HB := n3_
          have HI375 := n4_
          clear n0_ n1_ n2_ n3_ n4_
          (try clear hb)
          (try clear hb2)
          (try clear hk)
          (try clear hi)
          refine hK.out _ _ ⟨(blk_cell BK370.out 0).trans rfl, (blk_cell BK370.out 1).trans rfl, (blk_cell BK370.out 2).trans rfl, (blk_cell BK370.out 3).trans rfl⟩ (fun hHeld => ?_)
          clear hK K
          refine norm_ (a' := ?_) ?_ ?_
          rotate_left
          ·show Act.put _ (some 33) _ = _
           simp only [Act.put, List.setIfInBounds_toArray, List.set_cons_zero, List.set_cons_succ, i64_w, i32_w]
           rfl
          refine one_ (i := 9) (N := some 35) #[true, true, true, true, true, true, true, true, true, true, true, true, true, false, true, false] rfl rfl (one_of HT_.out (by kernel_rfl)) (by decide) (fun K hK => ?_)
          refine goes_ Tryd.func34 (by kernel_rfl) rfl #[.pointer (some ⟨g375, 0, none⟩), .int .i64 4] (by rfl) rfl rfl gl_ ?_
          with_reducible refine (impl_reader_number.calls kj2 g375 t382 t383 t384 t385 4 t386 t387 t388 t389 t390 w _ ?side1 ?side2 A19.out).mono ?_
          (case side1 => repeat (first | (with_reducible first | exact HI375.out | apply IsS59.alloc | apply IsS59.drewN | apply IsS59.drew | apply IsS59.set_0 | apply IsS59.set_1 | apply IsS59.set_2 | apply IsS59.set_3 | refine IsS59.far ?_ NB375_364.out _ | refine IsS59.far ?_ NB375_370.out _ | refine IsS59.far ?_ NB375_391.out _) | exact HI375.out))
          (case side2 => repeat (first | (with_reducible first | exact HB.out | apply below_alloc | apply pw_below_drewN | apply below_drew1 | refine below_set ?_ (IsS59.ge HI375.out) | refine below_set ?_ GE364.out | refine below_set ?_ GE370.out | refine below_set ?_ GE391.out) | exact HB.out))
          rintro e w53 ⟨rfl, hi, hb, hk⟩
          refine ⟨_, rfl, ?_⟩
          have n0_ := m_ (KeepBut.blk hk (g' := gb364) (o := .cells #[.int .i64 0, .int .i64 0, .int .i64 0, .int .i64 0, .int .i64 0, .string (⟨#[]⟩ : ByteArray)] 35 (0, 0)) (kN BK364.out) NB364_375.out (by simp))
          have n1_ := m_ (KeepBut.blk hk (g' := gb370) (o := .cells #[.bool t365, .int .i64 t366, .int .i64 t367, .string t368] 23 (0, 0)) (kN BK370.out) NB370_375.out (by simp))
          have n2_ := m_ (KeepBut.blk hk (g' := gb391) (o := .cells #[.int .i64 0, .int .i64 0, .int .i64 0, .int .i64 0, .int .i64 0, .string (⟨#[]⟩ : ByteArray)] 35 (0, 0)) (kN BK391.out) NB391_375.out (by simp))
          have n3_ := m_ (hb)
          have n4_ := m_ (hi)
          clear BK364
          clear BK370
          clear BK391
          clear HB
          clear HI375
          have BK364 := n0_
          have BK370 := n1_
          have BK391 := n2_
          have HB := n3_
          have HI375 := n4_
          clear n0_ n1_ n2_ n3_ n4_
          (try clear hb)
          (try clear hb2)
          (try clear hk)
          (try clear hi)
          refine hK.out _ _ ⟨(blk_cell BK370.out 0).trans rfl, (blk_cell BK370.out 1).trans rfl, (blk_cell BK370.out 2).trans rfl, (blk_cell BK370.out 3).trans rfl⟩ (fun hHeld => ?_)
          clear hK K
          refine norm_ (a' := ?_) ?_ ?_
          rotate_left
          ·show Act.put _ (some 35) _ = _
           simp only [Act.put, List.setIfInBounds_toArray, List.set_cons_zero, List.set_cons_succ, i64_w, i32_w]
           rfl
          refine pu 13 39 HT_ (h := ?_)
          exact norm_ (by simp only [putAll, Act.put, List.setIfInBounds_toArray, List.set_cons_zero, List.set_cons_succ]) (hCont (gb391) _ ⟨hHeld, (kN BK364.out), (kN BK370.out), (kN BK391.out), GW391.out, GE391.out, NB375_391.out, NB391_375.out, NB364_391.out, NB391_364.out, NB370_391.out, NB391_370.out, (by repeat (first | (with_reducible first | exact HI375.out | apply IsS59.alloc | apply IsS59.drewN | apply IsS59.drew | apply IsS59.set_0 | apply IsS59.set_1 | apply IsS59.set_2 | apply IsS59.set_3 | refine IsS59.far ?_ NB375_364.out _ | refine IsS59.far ?_ NB375_370.out _ | refine IsS59.far ?_ NB375_391.out _) | exact HI375.out)), (by repeat (first | (with_reducible first | exact HB.out | apply below_alloc | apply pw_below_drewN | apply below_drew1 | refine below_set ?_ (IsS59.ge HI375.out) | refine below_set ?_ GE364.out | refine below_set ?_ GE370.out | refine below_set ?_ GE391.out) | exact HB.out))⟩)
        ·skip
         refine box_step ?hg (N := 7) ?hd (cs := #[.int .i64 0, .int .i64 0, .int .i64 0, .int .i64 0, .int .i64 0, .string (⟨#[]⟩ : ByteArray)]) (t := 35) ?hr ?_; (case hd => rfl); (case hg => rfl); (case hr => first | (go_simp; done) | (go_simp; rfl))
         intro gb391 hg w50 hbox hb
         have n0_ := m_ (blk_below (g := gb364) (o := .cells #[.int .i64 0, .int .i64 0, .int .i64 0, .int .i64 0, .int .i64 0, .string (⟨#[]⟩ : ByteArray)] 35 (0, 0)) (kN BK364.out) hb)
         have n1_ := m_ (blk_below (kN BK370.out) hb)
         have n2_ := m_ (IsS59.below (by repeat (first | (with_reducible first | exact HI375.out | apply IsS59.alloc | apply IsS59.drewN | apply IsS59.drew | apply IsS59.set_0 | apply IsS59.set_1 | apply IsS59.set_2 | apply IsS59.set_3 | refine IsS59.far ?_ NB375_364.out _ | refine IsS59.far ?_ NB375_370.out _) | exact HI375.out)) hb)
         have n3_ := m_ (below_step (by repeat (first | (with_reducible first | exact HB.out | apply below_alloc | apply pw_below_drewN | apply below_drew1 | refine below_set ?_ (IsS59.ge HI375.out) | refine below_set ?_ GE364.out | refine below_set ?_ GE370.out) | exact HB.out)) hb)
         have n4_ := m_ (hbox)
         have n5_ := m_ ((by rw [hg]; exact (below_size (by repeat (first | (with_reducible first | exact HB.out | apply below_alloc | apply pw_below_drewN | apply below_drew1 | refine below_set ?_ (IsS59.ge HI375.out) | refine below_set ?_ GE364.out | refine below_set ?_ GE370.out) | exact HB.out))) : w.heap.size ≤ gb391))
         have n6_ := m_ ((by rw [hg]; exact (below_size (by repeat (first | (with_reducible first | exact HB.out | apply below_alloc | apply pw_below_drewN | apply below_drew1 | refine below_set ?_ (IsS59.ge HI375.out) | refine below_set ?_ GE364.out | refine below_set ?_ GE370.out) | exact HB.out))) : w.heap.size ≤ gb391))
         have n7_ := m_ ((by rw [hg]; exact Nat.ne_of_lt (blk_lt (g := gb364) (o := .cells #[.int .i64 0, .int .i64 0, .int .i64 0, .int .i64 0, .int .i64 0, .string (⟨#[]⟩ : ByteArray)] 35 (0, 0)) (kN BK364.out)) : gb364 ≠ gb391))
         have n8_ := m_ ((by rw [hg]; exact Nat.ne_of_gt (blk_lt (g := gb364) (o := .cells #[.int .i64 0, .int .i64 0, .int .i64 0, .int .i64 0, .int .i64 0, .string (⟨#[]⟩ : ByteArray)] 35 (0, 0)) (kN BK364.out)) : gb391 ≠ gb364))
         have n9_ := m_ ((by rw [hg]; exact Nat.ne_of_lt (blk_lt (g := gb370) (o := .cells #[.bool t365, .int .i64 t366, .int .i64 t367, .string t368] 23 (0, 0)) (kN BK370.out)) : gb370 ≠ gb391))
         have n10_ := m_ ((by rw [hg]; exact Nat.ne_of_gt (blk_lt (g := gb370) (o := .cells #[.bool t365, .int .i64 t366, .int .i64 t367, .string t368] 23 (0, 0)) (kN BK370.out)) : gb391 ≠ gb370))
         have n11_ := m_ ((by rw [hg]; exact Nat.ne_of_lt (IsS59.lt (show IsS59 w _ g375 t371 t372 t373 t374 from by repeat (first | (with_reducible first | exact HI375.out | apply IsS59.alloc | apply IsS59.drewN | apply IsS59.drew | apply IsS59.set_0 | apply IsS59.set_1 | apply IsS59.set_2 | apply IsS59.set_3 | refine IsS59.far ?_ NB375_364.out _ | refine IsS59.far ?_ NB375_370.out _) | exact HI375.out))) : g375 ≠ gb391))
         have n12_ := m_ ((by rw [hg]; exact Nat.ne_of_gt (IsS59.lt (show IsS59 w _ g375 t371 t372 t373 t374 from by repeat (first | (with_reducible first | exact HI375.out | apply IsS59.alloc | apply IsS59.drewN | apply IsS59.drew | apply IsS59.set_0 | apply IsS59.set_1 | apply IsS59.set_2 | apply IsS59.set_3 | refine IsS59.far ?_ NB375_364.out _ | refine IsS59.far ?_ NB375_370.out _) | exact HI375.out))) : gb391 ≠ g375))
         clear BK364
         clear BK370
         clear HI375
         clear HB
         have BK364 := n0_
         have BK370 := n1_
         have HI375 := n2_
         have HB := n3_
         have BK391 := n4_
         have GW391 := n5_
         have GE391 := n6_
         have NB364_391 := n7_
         have NB391_364 := n8_
         have NB370_391 := n9_
         have NB391_370 := n10_
         have NB375_391 := n11_
         have NB391_375 := n12_
         clear n0_ n1_ n2_ n3_ n4_ n5_ n6_ n7_ n8_ n9_ n10_ n11_ n12_
         clear hb hbox hg
         refine hK.out _ _ ⟨(blk_cell BK370.out 0).trans rfl, (blk_cell BK370.out 1).trans rfl, (blk_cell BK370.out 2).trans rfl, (blk_cell BK370.out 3).trans rfl⟩ (fun hHeld => ?_)
         clear hK K
         refine norm_ (a' := ?_) ?_ ?_
         rotate_left
         ·show Act.put _ (some 7) _ = _
          simp only [Act.put, List.setIfInBounds_toArray, List.set_cons_zero, List.set_cons_succ, i64_w, i32_w]
          rfl
         refine one_ (i := 5) (N := some 31) #[true, true, true, true, true, true, true, false, true, false, true, true, true, false, true, false] rfl rfl (one_of HT_.out (by kernel_rfl)) (by decide) (fun K hK => ?_)
         refine goes_ Tryd.func34 (by kernel_rfl) rfl #[.pointer (some ⟨g375, 0, none⟩), .int .i64 1] (by rfl) rfl rfl gl_ ?_
         with_reducible refine (impl_reader_number.calls kj2 g375 t371 t372 t373 t374 1 t376 t377 t378 t379 t380 w _ ?side1 ?side2 A17.out).mono ?_
         (case side1 => repeat (first | (with_reducible first | exact HI375.out | apply IsS59.alloc | apply IsS59.drewN | apply IsS59.drew | apply IsS59.set_0 | apply IsS59.set_1 | apply IsS59.set_2 | apply IsS59.set_3 | refine IsS59.far ?_ NB375_364.out _ | refine IsS59.far ?_ NB375_370.out _ | refine IsS59.far ?_ NB375_391.out _) | exact HI375.out))
         (case side2 => repeat (first | (with_reducible first | exact HB.out | apply below_alloc | apply pw_below_drewN | apply below_drew1 | refine below_set ?_ (IsS59.ge HI375.out) | refine below_set ?_ GE364.out | refine below_set ?_ GE370.out | refine below_set ?_ GE391.out) | exact HB.out))
         rintro e w51 ⟨rfl, hi, hb, hk⟩
         refine ⟨_, rfl, ?_⟩
         have n0_ := m_ (KeepBut.blk hk (g' := gb364) (o := .cells #[.int .i64 0, .int .i64 0, .int .i64 0, .int .i64 0, .int .i64 0, .string (⟨#[]⟩ : ByteArray)] 35 (0, 0)) (kN BK364.out) NB364_375.out (by simp))
         have n1_ := m_ (KeepBut.blk hk (g' := gb370) (o := .cells #[.bool t365, .int .i64 t366, .int .i64 t367, .string t368] 23 (0, 0)) (kN BK370.out) NB370_375.out (by simp))
         have n2_ := m_ (KeepBut.blk hk (g' := gb391) (o := .cells #[.int .i64 0, .int .i64 0, .int .i64 0, .int .i64 0, .int .i64 0, .string (⟨#[]⟩ : ByteArray)] 35 (0, 0)) (kN BK391.out) NB391_375.out (by simp))
         have n3_ := m_ (hb)
         have n4_ := m_ (hi)
         clear BK364
         clear BK370
         clear BK391
         clear HB
         clear HI375
         have BK364 := n0_
         have BK370 := n1_
         have BK391 := n2_
         have HB := n3_
         have HI375 := n4_
         clear n0_ n1_ n2_ n3_ n4_
         (try clear hb)
         (try clear hb2)
         (try clear hk)
         (try clear hi)
         refine hK.out _ _ ⟨(blk_cell BK370.out 0).trans rfl, (blk_cell BK370.out 1).trans rfl, (blk_cell BK370.out 2).trans rfl, (blk_cell BK370.out 3).trans rfl⟩ (fun hHeld => ?_)
         clear hK K
         refine norm_ (a' := ?_) ?_ ?_
         rotate_left
         ·show Act.put _ (some 31) _ = _
          simp only [Act.put, List.setIfInBounds_toArray, List.set_cons_zero, List.set_cons_succ, i64_w, i32_w]
          rfl
         refine one_ (i := 7) (N := some 33) #[true, true, true, true, true, true, true, true, true, false, true, true, true, false, true, false] rfl rfl (one_of HT_.out (by kernel_rfl)) (by decide) (fun K hK => ?_)
         refine goes_ Tryd.func34 (by kernel_rfl) rfl #[.pointer (some ⟨g375, 0, none⟩), .int .i64 1] (by rfl) rfl rfl gl_ ?_
         with_reducible refine (impl_reader_number.calls kj2 g375 t377 t378 t379 t380 1 t381 t382 t383 t384 t385 w _ ?side1 ?side2 A18.out).mono ?_
         (case side1 => repeat (first | (with_reducible first | exact HI375.out | apply IsS59.alloc | apply IsS59.drewN | apply IsS59.drew | apply IsS59.set_0 | apply IsS59.set_1 | apply IsS59.set_2 | apply IsS59.set_3 | refine IsS59.far ?_ NB375_364.out _ | refine IsS59.far ?_ NB375_370.out _ | refine IsS59.far ?_ NB375_391.out _) | exact HI375.out))
         (case side2 => repeat (first | (with_reducible first | exact HB.out | apply below_alloc | apply pw_below_drewN | apply below_drew1 | refine below_set ?_ (IsS59.ge HI375.out) | refine below_set ?_ GE364.out | refine below_set ?_ GE370.out | refine below_set ?_ GE391.out) | exact HB.out))
         rintro e w52 ⟨rfl, hi, hb, hk⟩
         refine ⟨_, rfl, ?_⟩
         have n0_ := m_ (KeepBut.blk hk (g' := gb364) (o := .cells #[.int .i64 0, .int .i64 0, .int .i64 0, .int .i64 0, .int .i64 0, .string (⟨#[]⟩ : ByteArray)] 35 (0, 0)) (kN BK364.out) NB364_375.out (by simp))
         have n1_ := m_ (KeepBut.blk hk (g' := gb370) (o := .cells #[.bool t365, .int .i64 t366, .int .i64 t367, .string t368] 23 (0, 0)) (kN BK370.out) NB370_375.out (by simp))
         have n2_ := m_ (KeepBut.blk hk (g' := gb391) (o := .cells #[.int .i64 0, .int .i64 0, .int .i64 0, .int .i64 0, .int .i64 0, .string (⟨#[]⟩ : ByteArray)] 35 (0, 0)) (kN BK391.out) NB391_375.out (by simp))
         have n3_ := m_ (hb)
         have n4_ := m_ (hi)
         clear BK364
         clear BK370
         clear BK391
         clear HB
         clear HI375
         have BK364 := n0_
         have BK370 := n1_
         have BK391 := n2_
         have HB := n3_
         have HI375 := n4_
         clear n0_ n1_ n2_ n3_ n4_
         (try clear hb)
         (try clear hb2)
         (try clear hk)
         (try clear hi)
         refine hK.out _ _ ⟨(blk_cell BK370.out 0).trans rfl, (blk_cell BK370.out 1).trans rfl, (blk_cell BK370.out 2).trans rfl, (blk_cell BK370.out 3).trans rfl⟩ (fun hHeld => ?_)
         clear hK K
         refine norm_ (a' := ?_) ?_ ?_
         rotate_left
         ·show Act.put _ (some 33) _ = _
          simp only [Act.put, List.setIfInBounds_toArray, List.set_cons_zero, List.set_cons_succ, i64_w, i32_w]
          rfl
         refine one_ (i := 9) (N := some 35) #[true, true, true, true, true, true, true, true, true, true, true, true, true, false, true, false] rfl rfl (one_of HT_.out (by kernel_rfl)) (by decide) (fun K hK => ?_)
         refine goes_ Tryd.func34 (by kernel_rfl) rfl #[.pointer (some ⟨g375, 0, none⟩), .int .i64 4] (by rfl) rfl rfl gl_ ?_
         with_reducible refine (impl_reader_number.calls kj2 g375 t382 t383 t384 t385 4 t386 t387 t388 t389 t390 w _ ?side1 ?side2 A19.out).mono ?_
         (case side1 => repeat (first | (with_reducible first | exact HI375.out | apply IsS59.alloc | apply IsS59.drewN | apply IsS59.drew | apply IsS59.set_0 | apply IsS59.set_1 | apply IsS59.set_2 | apply IsS59.set_3 | refine IsS59.far ?_ NB375_364.out _ | refine IsS59.far ?_ NB375_370.out _ | refine IsS59.far ?_ NB375_391.out _) | exact HI375.out))
         (case side2 => repeat (first | (with_reducible first | exact HB.out | apply below_alloc | apply pw_below_drewN | apply below_drew1 | refine below_set ?_ (IsS59.ge HI375.out) | refine below_set ?_ GE364.out | refine below_set ?_ GE370.out | refine below_set ?_ GE391.out) | exact HB.out))
         rintro e w53 ⟨rfl, hi, hb, hk⟩
         refine ⟨_, rfl, ?_⟩
         have n0_ := m_ (KeepBut.blk hk (g' := gb364) (o := .cells #[.int .i64 0, .int .i64 0, .int .i64 0, .int .i64 0, .int .i64 0, .string (⟨#[]⟩ : ByteArray)] 35 (0, 0)) (kN BK364.out) NB364_375.out (by simp))
         have n1_ := m_ (KeepBut.blk hk (g' := gb370) (o := .cells #[.bool t365, .int .i64 t366, .int .i64 t367, .string t368] 23 (0, 0)) (kN BK370.out) NB370_375.out (by simp))
         have n2_ := m_ (KeepBut.blk hk (g' := gb391) (o := .cells #[.int .i64 0, .int .i64 0, .int .i64 0, .int .i64 0, .int .i64 0, .string (⟨#[]⟩ : ByteArray)] 35 (0, 0)) (kN BK391.out) NB391_375.out (by simp))
         have n3_ := m_ (hb)
         have n4_ := m_ (hi)
         clear BK364
         clear BK370
         clear BK391
         clear HB
         clear HI375
         have BK364 := n0_
         have BK370 := n1_
         have BK391 := n2_
         have HB := n3_
         have HI375 := n4_
         clear n0_ n1_ n2_ n3_ n4_
         (try clear hb)
         (try clear hb2)
         (try clear hk)
         (try clear hi)
         refine hK.out _ _ ⟨(blk_cell BK370.out 0).trans rfl, (blk_cell BK370.out 1).trans rfl, (blk_cell BK370.out 2).trans rfl, (blk_cell BK370.out 3).trans rfl⟩ (fun hHeld => ?_)
         clear hK K
         refine norm_ (a' := ?_) ?_ ?_
         rotate_left
         ·show Act.put _ (some 35) _ = _
          simp only [Act.put, List.setIfInBounds_toArray, List.set_cons_zero, List.set_cons_succ, i64_w, i32_w]
          rfl
         refine pu 13 39 HT_ (h := ?_)
         exact norm_ (by simp only [putAll, Act.put, List.setIfInBounds_toArray, List.set_cons_zero, List.set_cons_succ]) (hCont (gb391) _ ⟨hHeld, (kN BK364.out), (kN BK370.out), (kN BK391.out), GW391.out, GE391.out, NB375_391.out, NB391_375.out, NB364_391.out, NB391_364.out, NB370_391.out, NB391_370.out, (by repeat (first | (with_reducible first | exact HI375.out | apply IsS59.alloc | apply IsS59.drewN | apply IsS59.drew | apply IsS59.set_0 | apply IsS59.set_1 | apply IsS59.set_2 | apply IsS59.set_3 | refine IsS59.far ?_ NB375_364.out _ | refine IsS59.far ?_ NB375_370.out _ | refine IsS59.far ?_ NB375_391.out _) | exact HI375.out)), (by repeat (first | (with_reducible first | exact HB.out | apply below_alloc | apply pw_below_drewN | apply below_drew1 | refine below_set ?_ (IsS59.ge HI375.out) | refine below_set ?_ GE364.out | refine below_set ?_ GE370.out | refine below_set ?_ GE391.out) | exact HB.out))⟩)
       rintro gb391 w54 ⟨hS_, h0_, h1_, h2_, h3_, h4_, h5_, h6_, h7_, h8_, h9_, h10_, h11_, h12_⟩
       have n0_ : Aside0 (w54.heap[gb364]? = some (.cells #[.int .i64 0, .int .i64 0, .int .i64 0, .int .i64 0, .int .i64 0, .string (⟨#[]⟩ : ByteArray)] 35 (0, 0))) := ⟨h0_⟩
       have n1_ : Aside0 (w54.heap[gb370]? = some (.cells #[.bool t365, .int .i64 t366, .int .i64 t367, .string t368] 23 (0, 0))) := ⟨h1_⟩
       have n2_ : Aside0 (w54.heap[gb391]? = some (.cells #[.int .i64 0, .int .i64 0, .int .i64 0, .int .i64 0, .int .i64 0, .string (⟨#[]⟩ : ByteArray)] 35 (0, 0))) := ⟨h2_⟩
       have n3_ : Aside0 (w.heap.size ≤ gb391) := ⟨h3_⟩
       have n4_ : Aside0 (w.heap.size ≤ gb391) := ⟨h4_⟩
       have n5_ : Aside0 (g375 ≠ gb391) := ⟨h5_⟩
       have n6_ : Aside0 (gb391 ≠ g375) := ⟨h6_⟩
       have n7_ : Aside0 (gb364 ≠ gb391) := ⟨h7_⟩
       have n8_ : Aside0 (gb391 ≠ gb364) := ⟨h8_⟩
       have n9_ : Aside0 (gb370 ≠ gb391) := ⟨h9_⟩
       have n10_ : Aside0 (gb391 ≠ gb370) := ⟨h10_⟩
       have n11_ : Aside0 (IsS59 w w54 g375 t387 t388 t389 t390) := ⟨h11_⟩
       have n12_ : Aside0 (Below w.heap.size w w54) := ⟨h12_⟩
       clear BK364
       clear BK370
       clear HI375
       clear HB
       clear h0_ h1_ h2_ h3_ h4_ h5_ h6_ h7_ h8_ h9_ h10_ h11_ h12_
       have BK364 := n0_
       have BK370 := n1_
       have BK391 := n2_
       have GW391 := n3_
       have GE391 := n4_
       have NB375_391 := n5_
       have NB391_375 := n6_
       have NB364_391 := n7_
       have NB391_364 := n8_
       have NB370_391 := n9_
       have NB391_370 := n10_
       have HI375 := n11_
       have HB := n12_
       clear n0_ n1_ n2_ n3_ n4_ n5_ n6_ n7_ n8_ n9_ n10_ n11_ n12_
       have hHeld : w54.cell? ⟨gb370, 0, none⟩ = some (.bool t365) ∧ w54.cell? ⟨gb370, 1, none⟩ = some (.int .i64 t366) ∧ w54.cell? ⟨gb370, 2, none⟩ = some (.int .i64 t367) ∧ w54.cell? ⟨gb370, 3, none⟩ = some (.string t368) := hS_
       refine norm_ (a' := ?_) ?_ ?_
       rotate_left
       ·simp only [putAll, Act.put, List.setIfInBounds_toArray, List.set_cons_zero, List.set_cons_succ]
        rfl
       refine one_ (i := 15) (N := none) #[true, true, true, true, true, true, true, true, true, true, true, true, true, true, true, true] rfl rfl (one_of HT_.out (by kernel_rfl)) (by decide) (fun K hK => ?_)
       have hs55 : w54.cell? ⟨gb391, 0, none⟩ = some (.int .i64 0) := (blk_cell BK391.out 0).trans rfl
       have hfs55 := blk_frozen BK391.out 0
       have hns55_0 := NB364_391.out
       have hns55_1 := NB370_391.out
       have hms55_0 := NB391_364.out
       have hms55_1 := NB391_370.out
       have hs56 : w54.cell? ⟨gb391, 1, none⟩ = some (.int .i64 0) := (blk_cell BK391.out 1).trans rfl
       have hfs56 := blk_frozen BK391.out 1
       have hns56_0 := NB364_391.out
       have hns56_1 := NB370_391.out
       have hms56_0 := NB391_364.out
       have hms56_1 := NB391_370.out
       have hs57 : w54.cell? ⟨gb391, 2, none⟩ = some (.int .i64 0) := (blk_cell BK391.out 2).trans rfl
       have hfs57 := blk_frozen BK391.out 2
       have hns57_0 := NB364_391.out
       have hns57_1 := NB370_391.out
       have hms57_0 := NB391_364.out
       have hms57_1 := NB391_370.out
       have hs58 : w54.cell? ⟨gb391, 3, none⟩ = some (.int .i64 0) := (blk_cell BK391.out 3).trans rfl
       have hfs58 := blk_frozen BK391.out 3
       have hns58_0 := NB364_391.out
       have hns58_1 := NB370_391.out
       have hms58_0 := NB391_364.out
       have hms58_1 := NB391_370.out
       have hs59 : w54.cell? ⟨gb391, 4, none⟩ = some (.int .i64 0) := (blk_cell BK391.out 4).trans rfl
       have hfs59 := blk_frozen BK391.out 4
       have hns59_0 := NB364_391.out
       have hns59_1 := NB370_391.out
       have hms59_0 := NB391_364.out
       have hms59_1 := NB391_370.out
       have hs60 : w54.cell? ⟨gb391, 5, none⟩ = some (.string (⟨#[]⟩ : ByteArray)) := (blk_cell BK391.out 5).trans rfl
       have hfs60 := blk_frozen BK391.out 5
       have hns60_0 := NB364_391.out
       have hns60_1 := NB370_391.out
       have hms60_0 := NB391_364.out
       have hms60_1 := NB391_370.out
       refine skip_ (w1 := ?_) (by rfl) rfl ?_ ?_
       rotate_left
       ·go_simp
        rfl
       refine hK.out _ _ ⟨((cell_far (p := ⟨gb391, _, none⟩) NB370_391.out _).trans (((cell_far (p := ⟨gb391, _, none⟩) NB370_391.out _).trans (((cell_far (p := ⟨gb391, _, none⟩) NB370_391.out _).trans (((cell_far (p := ⟨gb391, _, none⟩) NB370_391.out _).trans (((cell_far (p := ⟨gb391, _, none⟩) NB370_391.out _).trans (((cell_far (p := ⟨gb391, _, none⟩) NB370_391.out _).trans (hHeld.1)))))))))))), ((cell_far (p := ⟨gb391, _, none⟩) NB370_391.out _).trans (((cell_far (p := ⟨gb391, _, none⟩) NB370_391.out _).trans (((cell_far (p := ⟨gb391, _, none⟩) NB370_391.out _).trans (((cell_far (p := ⟨gb391, _, none⟩) NB370_391.out _).trans (((cell_far (p := ⟨gb391, _, none⟩) NB370_391.out _).trans (((cell_far (p := ⟨gb391, _, none⟩) NB370_391.out _).trans (hHeld.2.1)))))))))))), ((cell_far (p := ⟨gb391, _, none⟩) NB370_391.out _).trans (((cell_far (p := ⟨gb391, _, none⟩) NB370_391.out _).trans (((cell_far (p := ⟨gb391, _, none⟩) NB370_391.out _).trans (((cell_far (p := ⟨gb391, _, none⟩) NB370_391.out _).trans (((cell_far (p := ⟨gb391, _, none⟩) NB370_391.out _).trans (((cell_far (p := ⟨gb391, _, none⟩) NB370_391.out _).trans (hHeld.2.2.1)))))))))))), ((cell_far (p := ⟨gb391, _, none⟩) NB370_391.out _).trans (((cell_far (p := ⟨gb391, _, none⟩) NB370_391.out _).trans (((cell_far (p := ⟨gb391, _, none⟩) NB370_391.out _).trans (((cell_far (p := ⟨gb391, _, none⟩) NB370_391.out _).trans (((cell_far (p := ⟨gb391, _, none⟩) NB370_391.out _).trans (((cell_far (p := ⟨gb391, _, none⟩) NB370_391.out _).trans (hHeld.2.2.2))))))))))))⟩ (fun hHeld => ?_)
       clear hK K
       refine done_ (done_of HT_.out (by kernel_rfl)) ?_
       have hnb61 := NB391_364.out
       have hnc61 := NB364_391.out
       have hnb62 := NB391_370.out
       have hnc62 := NB370_391.out
       have hnb63 := NB391_375.out
       have hnc63 := NB375_391.out
       have hcz64_0 : w54.cell? ⟨gb391, 0, none⟩ = some (.int .i64 0) := (blk_cell BK391.out 0).trans rfl
       have hcz64_1 : w54.cell? ⟨gb391, 1, none⟩ = some (.int .i64 0) := (blk_cell BK391.out 1).trans rfl
       have hcz64_2 : w54.cell? ⟨gb391, 2, none⟩ = some (.int .i64 0) := (blk_cell BK391.out 2).trans rfl
       have hcz64_3 : w54.cell? ⟨gb391, 3, none⟩ = some (.int .i64 0) := (blk_cell BK391.out 3).trans rfl
       have hcz64_4 : w54.cell? ⟨gb391, 4, none⟩ = some (.int .i64 0) := (blk_cell BK391.out 4).trans rfl
       have hcz64_5 : w54.cell? ⟨gb391, 5, none⟩ = some (.string (⟨#[]⟩ : ByteArray)) := (blk_cell BK391.out 5).trans rfl
       have hfz64_0 := blk_frozen BK391.out 0
       have hfz64_1 := blk_frozen BK391.out 1
       have hfz64_2 := blk_frozen BK391.out 2
       have hfz64_3 := blk_frozen BK391.out 3
       have hfz64_4 := blk_frozen BK391.out 4
       have hfz64_5 := blk_frozen BK391.out 5
       try go_wp2_with (first | ((with_reducible refine gate_callee (f := 21) rfl ?_); refine goesL_ (some 41) rfl rfl Tryd.func21 (by kernel_rfl) rfl #[.agg #[.int .i64 t366, .int .i64 t367, .int .i64 t376, .int .i64 t381, .int .i64 t386, .string (t368.extract 7 t368.size)]] rfl gl_ ?_; (with_reducible refine (impl_RepPut.calls kj2 t366 t367 t376 t381 t386 (t368.extract 7 t368.size) t392 _ A21.out).mono ?_); rintro e w65 ⟨rfl, hb⟩; refine ⟨_, rfl, ?_⟩; have n0_ := m_ (blk_below (g := gb364) (o := .cells #[.int .i64 0, .int .i64 0, .int .i64 0, .int .i64 0, .int .i64 0, .string (⟨#[]⟩ : ByteArray)] 35 (0, 0)) (kF BK364.out NB364_391.out) hb); have n1_ := m_ (blk_below (g := gb370) (o := .cells #[.bool t365, .int .i64 t366, .int .i64 t367, .string t368] 23 (0, 0)) (kF BK370.out NB370_391.out) hb); have n2_ := m_ (IsS59.below (show IsS59 w ((((((w54.setCell ⟨gb391, 0, none⟩ (.int .i64 t366)).setCell ⟨gb391, 1, none⟩ (.int .i64 t367)).setCell ⟨gb391, 2, none⟩ (.int .i64 t376)).setCell ⟨gb391, 3, none⟩ (.int .i64 t381)).setCell ⟨gb391, 4, none⟩ (.int .i64 t386)).setCell ⟨gb391, 5, none⟩ (.string (t368.extract 7 t368.size))) g375 t387 t388 t389 t390 from by repeat (first | (with_reducible first | exact HI375.out | apply IsS59.alloc | apply IsS59.drewN | apply IsS59.drew | apply IsS59.set_0 | apply IsS59.set_1 | apply IsS59.set_2 | apply IsS59.set_3 | refine IsS59.far ?_ NB375_364.out _ | refine IsS59.far ?_ NB375_370.out _ | refine IsS59.far ?_ NB375_391.out _) | exact HI375.out)) hb); have n3_ := m_ (blk_below (g := gb391) (o := .cells #[.int .i64 t366, .int .i64 t367, .int .i64 t376, .int .i64 t381, .int .i64 t386, .string (t368.extract 7 t368.size)] 35 (0, 0)) (kP BK391.out) hb); have n4_ := m_ (below_step (by repeat (first | (with_reducible first | exact HB.out | apply below_alloc | apply pw_below_drewN | apply below_drew1 | refine below_set ?_ (IsS59.ge HI375.out) | refine below_set ?_ GE364.out | refine below_set ?_ GE370.out | refine below_set ?_ GE391.out) | exact HB.out)) hb); clear BK364; clear BK370; clear HI375; clear BK391; clear HB; have BK364 := n0_; have BK370 := n1_; have HI375 := n2_; have BK391 := n3_; have HB := n4_; clear n0_ n1_ n2_ n3_ n4_; (try clear hb); (try clear hb2); (try clear hk); (try clear hi); have hnb66 := NB364_375.out; have hnc66 := NB375_364.out; have hcz67_0 : w65.cell? ⟨gb364, 0, none⟩ = some (.int .i64 0) := (blk_cell BK364.out 0).trans rfl; have hcz67_1 : w65.cell? ⟨gb364, 1, none⟩ = some (.int .i64 0) := (blk_cell BK364.out 1).trans rfl; have hcz67_2 : w65.cell? ⟨gb364, 2, none⟩ = some (.int .i64 0) := (blk_cell BK364.out 2).trans rfl; have hcz67_3 : w65.cell? ⟨gb364, 3, none⟩ = some (.int .i64 0) := (blk_cell BK364.out 3).trans rfl; have hcz67_4 : w65.cell? ⟨gb364, 4, none⟩ = some (.int .i64 0) := (blk_cell BK364.out 4).trans rfl; have hcz67_5 : w65.cell? ⟨gb364, 5, none⟩ = some (.string (⟨#[]⟩ : ByteArray)) := (blk_cell BK364.out 5).trans rfl; have hfz67_0 := blk_frozen BK364.out 0; have hfz67_1 := blk_frozen BK364.out 1; have hfz67_2 := blk_frozen BK364.out 2; have hfz67_3 := blk_frozen BK364.out 3; have hfz67_4 := blk_frozen BK364.out 4; have hfz67_5 := blk_frozen BK364.out 5))
       refine bodyPost_ret (results_ct rfl _ _ gb364 35 #[.int .i64 0, .int .i64 0, .int .i64 0, .int .i64 0, .int .i64 0, .string (⟨#[]⟩ : ByteArray)] (0, 0) _ rfl (kP BK364.out) Tryd.underlying35 rfl (by kernel_rfl)) rfl ?_
       exact ⟨by first | rfl | (simp [errW_none, errW_some] <;> rfl) | (simp [*, errW_none, errW_some] <;> rfl), by repeat (first | (with_reducible first | exact HB.out | apply below_alloc | apply pw_below_drewN | apply below_drew1 | refine below_set ?_ (IsS59.ge HI375.out) | refine below_set ?_ GE364.out | refine below_set ?_ GE370.out | refine below_set ?_ GE391.out) | exact HB.out)⟩
     ·rw [if_neg c20] at H
      exact absurd H (by simp)
    ·rw [if_neg c15] at H
     exact absurd H (by simp)

end Go.Proofs.YtllchgipnfdneaaDoor.P
