/- The machine side of these statements, function by function: what each Go function answers (as a Lean function), and that it does. Written by a program (mp.py) for this claim. -/
import Derived.Test.YtocmkmcjolbniaaPx0
import Derived.Test.YtocmkmcjolbniaaPx2
namespace Go.Proofs.Ytocmkmcjolbniaa.P
open Go.RowKit Go.Proofs.YtocmkmcjolbniaaW.PrintWords Go.Proofs.YtocmkmcjolbniaaW.PrintLast Go.Proofs.YtocmkmcjolbniaaW.PrintMore
attribute [local go_sem] max2_int min2_int max_two min_two max_three min_three max_four min_four   -- for this text's walks alone
set_option linter.unusedVariables false
set_option linter.unusedSimpArgs false

/-! ### spec_FrameGet: function 6 -/
def spec_FrameGet.j0 : Nat → ByteArray → Bool → Option (Bool × Bool × Int × Int × Int × ByteArray × Bool)
 | 0, _, _ => none
 | k + 1, x0, x15 => if x15 = true then (some (false, false, 0, 0, 0, (⟨#[]⟩ : ByteArray), false)) else ((spec_l1Get.f k x0 0 2).bind fun t118 => ((spec_l1Get.f k x0 2 2).bind fun t119 => ((spec_l1In.f (wrap64 ((Int.tmod t119 1024) + 1)) 8 (x0.size : Int)).bind fun t120 => (if t120 = true then (if 4 < (x0.size : Int) then (if 5 ≤ (wrap64 ((wrap64 ((Int.tmod t119 1024) + 1)) - 2)) then (if (wrap64 ((wrap64 ((Int.tmod t119 1024) + 1)) - 2)) ≤ (x0.size : Int) then ((spec_FrameOk.f ((Int.tmod (wrap64 (Int.tdiv t118 8192)) 2) == 1) ((Int.tmod (wrap64 (Int.tdiv t118 4096)) 2) == 1) (Int.tmod t118 1024) (wrap64 (Int.tdiv t119 1024)) (wrap64 (bt x0 4)) (x0.extract 5 ((wrap64 ((wrap64 ((Int.tmod t119 1024) + 1)) - 2)) : Int).toNat)).bind fun t122 => (if t122 = true then ((spec_l3Put.f k ((Int.tmod (wrap64 (Int.tdiv t118 8192)) 2) == 1) ((Int.tmod (wrap64 (Int.tdiv t118 4096)) 2) == 1) (Int.tmod t118 1024) (wrap64 (Int.tdiv t119 1024)) (wrap64 (bt x0 4)) (x0.extract 5 ((wrap64 ((wrap64 ((Int.tmod t119 1024) + 1)) - 2)) : Int).toNat)).bind fun t123 => (if 0 ≤ (wrap64 ((Int.tmod t119 1024) + 1)) then (if (wrap64 ((Int.tmod t119 1024) + 1)) ≤ (x0.size : Int) then (if t123.toList = (x0.extract 0 ((wrap64 ((Int.tmod t119 1024) + 1)) : Int).toNat).toList then (some (((Int.tmod (wrap64 (Int.tdiv t118 8192)) 2) == 1), ((Int.tmod (wrap64 (Int.tdiv t118 4096)) 2) == 1), Int.tmod t118 1024, wrap64 (Int.tdiv t119 1024), wrap64 (bt x0 4), x0.extract 5 ((wrap64 ((wrap64 ((Int.tmod t119 1024) + 1)) - 2)) : Int).toNat, true)) else (some (false, false, 0, 0, 0, (⟨#[]⟩ : ByteArray), false))) else (none)) else (none))) else (some (false, false, 0, 0, 0, (⟨#[]⟩ : ByteArray), false)))) else (none)) else (none)) else (none)) else (some (false, false, 0, 0, 0, (⟨#[]⟩ : ByteArray), false))))))
def spec_FrameGet.f (k : Nat) (a0 : ByteArray) : Option (Bool × Bool × Int × Int × Int × ByteArray × Bool) := if (a0.size : Int) < 8 then (spec_FrameGet.j0 k a0 true) else (spec_FrameGet.j0 k a0 (decide ((a0.size : Int) > 63)))
theorem spec_FrameGet.mono_l : ∀ k, (∀ y0 y1, LeO (spec_FrameGet.j0 k y0 y1) (spec_FrameGet.j0 (k + 1) y0 y1))
 | 0 => fun _ _ r h => by simp [spec_FrameGet.j0] at h
 | k + 1 => by
  have ih0 := spec_FrameGet.mono_l k
  ·intro y0 y1
   unfold spec_FrameGet.j0
   repeat' first
   | (with_reducible exact ih0 _ _)
   | (with_reducible exact spec_l1Get.mono _ _ _ _)
   | (with_reducible exact spec_l3Put.mono _ _ _ _ _ _ _)
   | (with_reducible exact LeO.refl _)
   | (with_reducible exact LeO.none _)
   | (with_reducible refine LeO.ite ?_ ?_)
   | (with_reducible refine LeO.bind ?_ (fun _ => ?_))
   | exact ih0 _ _
   | exact spec_l1Get.mono _ _ _ _
   | exact spec_l3Put.mono _ _ _ _ _ _ _
   | exact LeO.none _
   | refine LeO.ite ?_ ?_
   | refine LeO.bind ?_ (fun _ => ?_)
theorem spec_FrameGet.mono : ∀ a0 k, LeO (spec_FrameGet.f k a0) (spec_FrameGet.f (k + 1) a0) := by
 intro a0 k
 have ih0 := spec_FrameGet.mono_l k
 unfold spec_FrameGet.f
 repeat' first
   | (with_reducible exact ih0 _ _)
   | (with_reducible exact spec_l1Get.mono _ _ _ _)
   | (with_reducible exact spec_l3Put.mono _ _ _ _ _ _ _)
   | (with_reducible exact LeO.refl _)
   | (with_reducible exact LeO.none _)
   | (with_reducible refine LeO.ite ?_ ?_)
   | (with_reducible refine LeO.bind ?_ (fun _ => ?_))
   | exact ih0 _ _
   | exact spec_l1Get.mono _ _ _ _
   | exact spec_l3Put.mono _ _ _ _ _ _ _
   | exact LeO.none _
   | refine LeO.ite ?_ ?_
   | refine LeO.bind ?_ (fun _ => ?_)
def spec_FrameGet.T8 : Bool × List (List Nat × List Nat) := (true, [([], []), ([0], [0]), ([1], [1]), ([2], [2]), ([], []), ([4], [4]), ([5], [5]), ([6], [6]), ([], []), ([8], [8]), ([], []), ([10], [10]), ([], []), ([12], [12]), ([13], [13]), ([], []), ([], []), ([16], [16]), ([15, 17], [15, 17]), ([3, 7, 9, 11, 14, 18], [3, 7, 9, 11, 14, 18]), ([], []), ([20, 19, 0, 1, 2, 3, 4, 5, 6, 7, 8, 9, 10, 11, 12, 13, 14, 15, 16, 17, 18, 19, 20], [19, 20])])
def spec_FrameGet.B8 : List Nat := [0, 1, 3, 7, 0, 16, 48, 112, 0, 256, 0, 1024, 0, 4096, 12288, 0, 0, 65536, 229376, 524287, 0, 2097151]
theorem spec_FrameGet.tab8 : rtab .any (opsOf Try.f6 8) = spec_FrameGet.T8 := by kernel_rfl
theorem spec_FrameGet.bits8 : waitsOk spec_FrameGet.T8.2 spec_FrameGet.B8 = true := by kernel_rfl
def spec_FrameGet.T9 : Bool × List (List Nat × List Nat) := (true, [([], []), ([0], [0]), ([1], [1]), ([2, 1], [2]), ([3], [3]), ([4, 3, 3], [3, 4]), ([3], [3]), ([3], [3]), ([6, 7, 3], [3, 6, 7]), ([5, 8, 3], [3, 5, 8]), ([3, 9], [3, 9])])
def spec_FrameGet.B9 : List Nat := [0, 1, 3, 7, 15, 31, 15, 15, 207, 511, 1023]
theorem spec_FrameGet.tab9 : rtab .any (opsOf Try.f6 9) = spec_FrameGet.T9 := by kernel_rfl
theorem spec_FrameGet.bits9 : waitsOk spec_FrameGet.T9.2 spec_FrameGet.B9 = true := by kernel_rfl
set_option maxHeartbeats 8000000 in
set_option maxRecDepth 100000 in
theorem spec_FrameGet.calls (k : Nat) (a0 : ByteArray) (r1 : Bool) (r2 : Bool) (r3 : Int) (r4 : Int) (r5 : Int) (r6 : ByteArray) (r7 : Bool) (w : World) (h : spec_FrameGet.f k a0 = some (r1, r2, r3, r4, r5, r6, r7)) :
  Calls Try.prog 6 #[.string a0] w fun e w' => e = .returned (.tuple #[.agg #[.bool r1, .bool r2, .int .i64 r3, .int .i64 r4, .int .i64 r5, .string r6], .bool r7]) ∧ Below w.heap.size w w' := by
 have hu23 := Try.underlying23
 have HB := m_ (Below.refl w.heap.size w)
 have H : (if (a0.size : Int) < 8 then (spec_FrameGet.j0 k a0 true) else (spec_FrameGet.j0 k a0 (decide ((a0.size : Int) > 63)))) = some (r1, r2, r3, r4, r5, r6, r7) := h
 clear h
 have HC2 := Aside0.mk H
 clear H
 go_enter Try.func6, Try.ntmps6
 go_upto_region 1 with (first | ((with_reducible refine gate_dst (N := 2) rfl ?_); (try (refine gate_guard (by rfl) ?_; dsimp only)); refine box_event ?hg (N := 2) ?hd (cs := #[.bool false, .bool false, .int .i64 0, .int .i64 0, .int .i64 0, .string (⟨#[]⟩ : ByteArray)]) (t := 23) ?hr ?_; (case hd => rfl); (case hg => rfl); (case hr => first | (go_simp; done) | (go_simp; rfl)); intro gb117 hg w3 hbox hb; have n0_ := m_ (below_step (bN HB.out) hb); have n1_ := m_ (hbox); have n2_ := m_ ((by rw [hg]; exact (below_size (bN HB.out)) : w.heap.size ≤ gb117)); have n3_ := m_ ((by rw [hg]; exact (below_size (bN HB.out)) : w.heap.size ≤ gb117)); clear HB; have HB := n0_; have BK117 := n1_; have GW117 := n2_; have GE117 := n3_; clear n0_ n1_ n2_ n3_; clear hb hbox hg))
 (try simp only [Act.put, List.setIfInBounds_toArray, List.set_cons_zero, List.set_cons_succ])
 go_cut [15] (fun v15 wc => ∃ (kq : Nat) (x15_1 : Bool), v15 = .bool x15_1 ∧ Aside0 (spec_FrameGet.j0 kq a0 x15_1 = some (r1, r2, r3, r4, r5, r6, r7)) ∧ Aside0 (kq ≤ k) ∧ Aside0 (wc.heap[gb117]? = some (.cells #[.bool false, .bool false, .int .i64 0, .int .i64 0, .int .i64 0, .string (⟨#[]⟩ : ByteArray)] 23 (0, 0))) ∧ Aside0 (Below w.heap.size w wc))
 case first =>
  have H := HC2.out
  clear HC2
  by_cases c4 : (a0.size : Int) < 8
  ·rw [if_pos c4] at H
   have c4b0 : decide ((a0.size : Int) < 8) = true := decide_eq_true c4
   have c4b1 : decide (a0.size < 8) = true := decide_eq_true (by omega)
   clear c4
   (first | rw [c4b0] | (simp only [i64_w, i32_w]; rw [c4b0]) | skip)
   have H' := Aside0.mk H
   clear H
   go_wp2
   go_meet
   case rel => exact ⟨_, (true), (by first | rfl | (simp; done) | (simp [*]; done)), H', ⟨by first | omega | exact Nat.le_refl _⟩, ⟨kN BK117.out⟩, ⟨by repeat (first | (with_reducible first | exact HB.out | apply below_alloc | apply pw_below_drewN | apply below_drew1 | refine below_set ?_ GE117.out) | exact HB.out)⟩⟩
  ·rw [if_neg c4] at H
   have c4b0 : decide ((a0.size : Int) < 8) = false := decide_eq_false c4
   have c4b1 : decide (a0.size < 8) = false := decide_eq_false (by omega)
   clear c4
   (first | rw [c4b0] | (simp only [i64_w, i32_w]; rw [c4b0]) | skip)
   have H' := Aside0.mk H
   clear H
   go_wp2
   go_meet
   case rel => exact ⟨_, (decide ((a0.size : Int) > 63)), (by first | rfl | (simp; done) | (simp [*]; done)), H', ⟨by first | omega | exact Nat.le_refl _⟩, ⟨kN BK117.out⟩, ⟨by repeat (first | (with_reducible first | exact HB.out | apply below_alloc | apply pw_below_drewN | apply below_drew1 | refine below_set ?_ GE117.out) | exact HB.out)⟩⟩
 case rest =>
  clear HC2
  try clear p2
  try clear c4
  try clear c4b0
  try clear c4b1
  obtain ⟨kq, x15_1, rfl, HA, HJ1, BK117, HB⟩ := hcut
  cases kq with
  | zero => exact absurd HA.out (by simp [spec_FrameGet.j0])
  | succ kj1 =>
   have H := HA.out
   clear HA
   simp only [spec_FrameGet.j0] at H
   by_cases c5 : x15_1 = true
   ·subst c5
    have H1 : (some (false, false, 0, 0, 0, (⟨#[]⟩ : ByteArray), false)) = some (r1, r2, r3, r4, r5, r6, r7) := by rw [if_pos rfl] at H; exact H
    clear H
    have H := H1
    clear H1
    simp only [Option.some.injEq, Prod.mk.injEq] at H
    obtain ⟨rfl, rfl, rfl, rfl, rfl, rfl, rfl⟩ := H
    have hcz6_0 : wc.cell? ⟨gb117, 0, none⟩ = some (.bool false) := (blk_cell BK117.out 0).trans rfl
    have hcz6_1 : wc.cell? ⟨gb117, 1, none⟩ = some (.bool false) := (blk_cell BK117.out 1).trans rfl
    have hcz6_2 : wc.cell? ⟨gb117, 2, none⟩ = some (.int .i64 0) := (blk_cell BK117.out 2).trans rfl
    have hcz6_3 : wc.cell? ⟨gb117, 3, none⟩ = some (.int .i64 0) := (blk_cell BK117.out 3).trans rfl
    have hcz6_4 : wc.cell? ⟨gb117, 4, none⟩ = some (.int .i64 0) := (blk_cell BK117.out 4).trans rfl
    have hcz6_5 : wc.cell? ⟨gb117, 5, none⟩ = some (.string (⟨#[]⟩ : ByteArray)) := (blk_cell BK117.out 5).trans rfl
    have hfz6_0 := blk_frozen BK117.out 0
    have hfz6_1 := blk_frozen BK117.out 1
    have hfz6_2 := blk_frozen BK117.out 2
    have hfz6_3 := blk_frozen BK117.out 3
    have hfz6_4 := blk_frozen BK117.out 4
    have hfz6_5 := blk_frozen BK117.out 5
    go_wp2
    refine bodyPost_ret (results_ct rfl _ _ gb117 23 #[.bool false, .bool false, .int .i64 0, .int .i64 0, .int .i64 0, .string (⟨#[]⟩ : ByteArray)] (0, 0) _ rfl (kP BK117.out) Try.underlying23 rfl (by kernel_rfl)) rfl ?_
    exact ⟨by first | rfl | (simp [errW_none, errW_some] <;> rfl) | (simp [*, errW_none, errW_some] <;> rfl), by repeat (first | (with_reducible first | exact HB.out | apply below_alloc | apply pw_below_drewN | apply below_drew1 | refine below_set ?_ GE117.out) | exact HB.out)⟩
   ·replace c5 := Bool.eq_false_iff.mpr c5
    subst c5
    have H1 : ((spec_l1Get.f kj1 a0 0 2).bind fun t118 => ((spec_l1Get.f kj1 a0 2 2).bind fun t119 => ((spec_l1In.f (wrap64 ((Int.tmod t119 1024) + 1)) 8 (a0.size : Int)).bind fun t120 => (if t120 = true then (if 4 < (a0.size : Int) then (if 5 ≤ (wrap64 ((wrap64 ((Int.tmod t119 1024) + 1)) - 2)) then (if (wrap64 ((wrap64 ((Int.tmod t119 1024) + 1)) - 2)) ≤ (a0.size : Int) then ((spec_FrameOk.f ((Int.tmod (wrap64 (Int.tdiv t118 8192)) 2) == 1) ((Int.tmod (wrap64 (Int.tdiv t118 4096)) 2) == 1) (Int.tmod t118 1024) (wrap64 (Int.tdiv t119 1024)) (wrap64 (bt a0 4)) (a0.extract 5 ((wrap64 ((wrap64 ((Int.tmod t119 1024) + 1)) - 2)) : Int).toNat)).bind fun t122 => (if t122 = true then ((spec_l3Put.f kj1 ((Int.tmod (wrap64 (Int.tdiv t118 8192)) 2) == 1) ((Int.tmod (wrap64 (Int.tdiv t118 4096)) 2) == 1) (Int.tmod t118 1024) (wrap64 (Int.tdiv t119 1024)) (wrap64 (bt a0 4)) (a0.extract 5 ((wrap64 ((wrap64 ((Int.tmod t119 1024) + 1)) - 2)) : Int).toNat)).bind fun t123 => (if 0 ≤ (wrap64 ((Int.tmod t119 1024) + 1)) then (if (wrap64 ((Int.tmod t119 1024) + 1)) ≤ (a0.size : Int) then (if t123.toList = (a0.extract 0 ((wrap64 ((Int.tmod t119 1024) + 1)) : Int).toNat).toList then (some (((Int.tmod (wrap64 (Int.tdiv t118 8192)) 2) == 1), ((Int.tmod (wrap64 (Int.tdiv t118 4096)) 2) == 1), Int.tmod t118 1024, wrap64 (Int.tdiv t119 1024), wrap64 (bt a0 4), a0.extract 5 ((wrap64 ((wrap64 ((Int.tmod t119 1024) + 1)) - 2)) : Int).toNat, true)) else (some (false, false, 0, 0, 0, (⟨#[]⟩ : ByteArray), false))) else (none)) else (none))) else (some (false, false, 0, 0, 0, (⟨#[]⟩ : ByteArray), false)))) else (none)) else (none)) else (none)) else (some (false, false, 0, 0, 0, (⟨#[]⟩ : ByteArray), false)))))) = some (r1, r2, r3, r4, r5, r6, r7) := by rw [if_neg (show ¬ (false = true) by decide)] at H; exact H
    clear H
    have H := H1
    clear H1
    replace H := Option.bind_eq_some_iff.mp H
    obtain ⟨t118, A70, H⟩ := H
    replace H : ((spec_l1Get.f kj1 a0 2 2).bind fun t119 => ((spec_l1In.f (wrap64 ((Int.tmod t119 1024) + 1)) 8 (a0.size : Int)).bind fun t120 => (if t120 = true then (if 4 < (a0.size : Int) then (if 5 ≤ (wrap64 ((wrap64 ((Int.tmod t119 1024) + 1)) - 2)) then (if (wrap64 ((wrap64 ((Int.tmod t119 1024) + 1)) - 2)) ≤ (a0.size : Int) then ((spec_FrameOk.f ((Int.tmod (wrap64 (Int.tdiv t118 8192)) 2) == 1) ((Int.tmod (wrap64 (Int.tdiv t118 4096)) 2) == 1) (Int.tmod t118 1024) (wrap64 (Int.tdiv t119 1024)) (wrap64 (bt a0 4)) (a0.extract 5 ((wrap64 ((wrap64 ((Int.tmod t119 1024) + 1)) - 2)) : Int).toNat)).bind fun t122 => (if t122 = true then ((spec_l3Put.f kj1 ((Int.tmod (wrap64 (Int.tdiv t118 8192)) 2) == 1) ((Int.tmod (wrap64 (Int.tdiv t118 4096)) 2) == 1) (Int.tmod t118 1024) (wrap64 (Int.tdiv t119 1024)) (wrap64 (bt a0 4)) (a0.extract 5 ((wrap64 ((wrap64 ((Int.tmod t119 1024) + 1)) - 2)) : Int).toNat)).bind fun t123 => (if 0 ≤ (wrap64 ((Int.tmod t119 1024) + 1)) then (if (wrap64 ((Int.tmod t119 1024) + 1)) ≤ (a0.size : Int) then (if t123.toList = (a0.extract 0 ((wrap64 ((Int.tmod t119 1024) + 1)) : Int).toNat).toList then (some (((Int.tmod (wrap64 (Int.tdiv t118 8192)) 2) == 1), ((Int.tmod (wrap64 (Int.tdiv t118 4096)) 2) == 1), Int.tmod t118 1024, wrap64 (Int.tdiv t119 1024), wrap64 (bt a0 4), a0.extract 5 ((wrap64 ((wrap64 ((Int.tmod t119 1024) + 1)) - 2)) : Int).toNat, true)) else (some (false, false, 0, 0, 0, (⟨#[]⟩ : ByteArray), false))) else (none)) else (none))) else (some (false, false, 0, 0, 0, (⟨#[]⟩ : ByteArray), false)))) else (none)) else (none)) else (none)) else (some (false, false, 0, 0, 0, (⟨#[]⟩ : ByteArray), false))))) = some (r1, r2, r3, r4, r5, r6, r7) := H
    have A7 := Aside0.mk A70
    clear A70
    replace H := Option.bind_eq_some_iff.mp H
    obtain ⟨t119, A80, H⟩ := H
    replace H : ((spec_l1In.f (wrap64 ((Int.tmod t119 1024) + 1)) 8 (a0.size : Int)).bind fun t120 => (if t120 = true then (if 4 < (a0.size : Int) then (if 5 ≤ (wrap64 ((wrap64 ((Int.tmod t119 1024) + 1)) - 2)) then (if (wrap64 ((wrap64 ((Int.tmod t119 1024) + 1)) - 2)) ≤ (a0.size : Int) then ((spec_FrameOk.f ((Int.tmod (wrap64 (Int.tdiv t118 8192)) 2) == 1) ((Int.tmod (wrap64 (Int.tdiv t118 4096)) 2) == 1) (Int.tmod t118 1024) (wrap64 (Int.tdiv t119 1024)) (wrap64 (bt a0 4)) (a0.extract 5 ((wrap64 ((wrap64 ((Int.tmod t119 1024) + 1)) - 2)) : Int).toNat)).bind fun t122 => (if t122 = true then ((spec_l3Put.f kj1 ((Int.tmod (wrap64 (Int.tdiv t118 8192)) 2) == 1) ((Int.tmod (wrap64 (Int.tdiv t118 4096)) 2) == 1) (Int.tmod t118 1024) (wrap64 (Int.tdiv t119 1024)) (wrap64 (bt a0 4)) (a0.extract 5 ((wrap64 ((wrap64 ((Int.tmod t119 1024) + 1)) - 2)) : Int).toNat)).bind fun t123 => (if 0 ≤ (wrap64 ((Int.tmod t119 1024) + 1)) then (if (wrap64 ((Int.tmod t119 1024) + 1)) ≤ (a0.size : Int) then (if t123.toList = (a0.extract 0 ((wrap64 ((Int.tmod t119 1024) + 1)) : Int).toNat).toList then (some (((Int.tmod (wrap64 (Int.tdiv t118 8192)) 2) == 1), ((Int.tmod (wrap64 (Int.tdiv t118 4096)) 2) == 1), Int.tmod t118 1024, wrap64 (Int.tdiv t119 1024), wrap64 (bt a0 4), a0.extract 5 ((wrap64 ((wrap64 ((Int.tmod t119 1024) + 1)) - 2)) : Int).toNat, true)) else (some (false, false, 0, 0, 0, (⟨#[]⟩ : ByteArray), false))) else (none)) else (none))) else (some (false, false, 0, 0, 0, (⟨#[]⟩ : ByteArray), false)))) else (none)) else (none)) else (none)) else (some (false, false, 0, 0, 0, (⟨#[]⟩ : ByteArray), false)))) = some (r1, r2, r3, r4, r5, r6, r7) := H
    have A8 := Aside0.mk A80
    clear A80
    replace H := Option.bind_eq_some_iff.mp H
    obtain ⟨t120, A90, H⟩ := H
    replace H : (if t120 = true then (if 4 < (a0.size : Int) then (if 5 ≤ (wrap64 ((wrap64 ((Int.tmod t119 1024) + 1)) - 2)) then (if (wrap64 ((wrap64 ((Int.tmod t119 1024) + 1)) - 2)) ≤ (a0.size : Int) then ((spec_FrameOk.f ((Int.tmod (wrap64 (Int.tdiv t118 8192)) 2) == 1) ((Int.tmod (wrap64 (Int.tdiv t118 4096)) 2) == 1) (Int.tmod t118 1024) (wrap64 (Int.tdiv t119 1024)) (wrap64 (bt a0 4)) (a0.extract 5 ((wrap64 ((wrap64 ((Int.tmod t119 1024) + 1)) - 2)) : Int).toNat)).bind fun t122 => (if t122 = true then ((spec_l3Put.f kj1 ((Int.tmod (wrap64 (Int.tdiv t118 8192)) 2) == 1) ((Int.tmod (wrap64 (Int.tdiv t118 4096)) 2) == 1) (Int.tmod t118 1024) (wrap64 (Int.tdiv t119 1024)) (wrap64 (bt a0 4)) (a0.extract 5 ((wrap64 ((wrap64 ((Int.tmod t119 1024) + 1)) - 2)) : Int).toNat)).bind fun t123 => (if 0 ≤ (wrap64 ((Int.tmod t119 1024) + 1)) then (if (wrap64 ((Int.tmod t119 1024) + 1)) ≤ (a0.size : Int) then (if t123.toList = (a0.extract 0 ((wrap64 ((Int.tmod t119 1024) + 1)) : Int).toNat).toList then (some (((Int.tmod (wrap64 (Int.tdiv t118 8192)) 2) == 1), ((Int.tmod (wrap64 (Int.tdiv t118 4096)) 2) == 1), Int.tmod t118 1024, wrap64 (Int.tdiv t119 1024), wrap64 (bt a0 4), a0.extract 5 ((wrap64 ((wrap64 ((Int.tmod t119 1024) + 1)) - 2)) : Int).toNat, true)) else (some (false, false, 0, 0, 0, (⟨#[]⟩ : ByteArray), false))) else (none)) else (none))) else (some (false, false, 0, 0, 0, (⟨#[]⟩ : ByteArray), false)))) else (none)) else (none)) else (none)) else (some (false, false, 0, 0, 0, (⟨#[]⟩ : ByteArray), false))) = some (r1, r2, r3, r4, r5, r6, r7) := H
    have A9 := Aside0.mk A90
    clear A90
    by_cases c10 : t120 = true
    ·subst c10
     have H1 : (if 4 < (a0.size : Int) then (if 5 ≤ (wrap64 ((wrap64 ((Int.tmod t119 1024) + 1)) - 2)) then (if (wrap64 ((wrap64 ((Int.tmod t119 1024) + 1)) - 2)) ≤ (a0.size : Int) then ((spec_FrameOk.f ((Int.tmod (wrap64 (Int.tdiv t118 8192)) 2) == 1) ((Int.tmod (wrap64 (Int.tdiv t118 4096)) 2) == 1) (Int.tmod t118 1024) (wrap64 (Int.tdiv t119 1024)) (wrap64 (bt a0 4)) (a0.extract 5 ((wrap64 ((wrap64 ((Int.tmod t119 1024) + 1)) - 2)) : Int).toNat)).bind fun t122 => (if t122 = true then ((spec_l3Put.f kj1 ((Int.tmod (wrap64 (Int.tdiv t118 8192)) 2) == 1) ((Int.tmod (wrap64 (Int.tdiv t118 4096)) 2) == 1) (Int.tmod t118 1024) (wrap64 (Int.tdiv t119 1024)) (wrap64 (bt a0 4)) (a0.extract 5 ((wrap64 ((wrap64 ((Int.tmod t119 1024) + 1)) - 2)) : Int).toNat)).bind fun t123 => (if 0 ≤ (wrap64 ((Int.tmod t119 1024) + 1)) then (if (wrap64 ((Int.tmod t119 1024) + 1)) ≤ (a0.size : Int) then (if t123.toList = (a0.extract 0 ((wrap64 ((Int.tmod t119 1024) + 1)) : Int).toNat).toList then (some (((Int.tmod (wrap64 (Int.tdiv t118 8192)) 2) == 1), ((Int.tmod (wrap64 (Int.tdiv t118 4096)) 2) == 1), Int.tmod t118 1024, wrap64 (Int.tdiv t119 1024), wrap64 (bt a0 4), a0.extract 5 ((wrap64 ((wrap64 ((Int.tmod t119 1024) + 1)) - 2)) : Int).toNat, true)) else (some (false, false, 0, 0, 0, (⟨#[]⟩ : ByteArray), false))) else (none)) else (none))) else (some (false, false, 0, 0, 0, (⟨#[]⟩ : ByteArray), false)))) else (none)) else (none)) else (none)) = some (r1, r2, r3, r4, r5, r6, r7) := by rw [if_pos rfl] at H; exact H
     clear H
     have H := H1
     clear H1
     by_cases c11 : 4 < (a0.size : Int)
     ·rw [if_pos c11] at H
      have c11b0 : decide (4 < (a0.size : Int)) = true := decide_eq_true c11
      have c11b1 : decide (4 < a0.size) = true := decide_eq_true (by omega)
      clear c11
      by_cases c13 : 5 ≤ (wrap64 ((wrap64 ((Int.tmod t119 1024) + 1)) - 2))
      ·rw [if_pos c13] at H
       have c13b0 := eq_true c13
       have c13b1 : decide (5 ≤ (wrap64 ((wrap64 ((Int.tmod t119 1024) + 1)) - 2))) = true := decide_eq_true c13
       by_cases c14 : (wrap64 ((wrap64 ((Int.tmod t119 1024) + 1)) - 2)) ≤ (a0.size : Int)
       ·rw [if_pos c14] at H
        have c14b0 := eq_true c14
        have c14b1 : decide ((wrap64 ((wrap64 ((Int.tmod t119 1024) + 1)) - 2)) ≤ (a0.size : Int)) = true := decide_eq_true c14
        replace H := Option.bind_eq_some_iff.mp H
        obtain ⟨t122, A150, H⟩ := H
        replace H : (if t122 = true then ((spec_l3Put.f kj1 ((Int.tmod (wrap64 (Int.tdiv t118 8192)) 2) == 1) ((Int.tmod (wrap64 (Int.tdiv t118 4096)) 2) == 1) (Int.tmod t118 1024) (wrap64 (Int.tdiv t119 1024)) (wrap64 (bt a0 4)) (a0.extract 5 ((wrap64 ((wrap64 ((Int.tmod t119 1024) + 1)) - 2)) : Int).toNat)).bind fun t123 => (if 0 ≤ (wrap64 ((Int.tmod t119 1024) + 1)) then (if (wrap64 ((Int.tmod t119 1024) + 1)) ≤ (a0.size : Int) then (if t123.toList = (a0.extract 0 ((wrap64 ((Int.tmod t119 1024) + 1)) : Int).toNat).toList then (some (((Int.tmod (wrap64 (Int.tdiv t118 8192)) 2) == 1), ((Int.tmod (wrap64 (Int.tdiv t118 4096)) 2) == 1), Int.tmod t118 1024, wrap64 (Int.tdiv t119 1024), wrap64 (bt a0 4), a0.extract 5 ((wrap64 ((wrap64 ((Int.tmod t119 1024) + 1)) - 2)) : Int).toNat, true)) else (some (false, false, 0, 0, 0, (⟨#[]⟩ : ByteArray), false))) else (none)) else (none))) else (some (false, false, 0, 0, 0, (⟨#[]⟩ : ByteArray), false))) = some (r1, r2, r3, r4, r5, r6, r7) := H
        have A15 := Aside0.mk A150
        clear A150
        by_cases c16 : t122 = true
        ·subst c16
         have H1 : ((spec_l3Put.f kj1 ((Int.tmod (wrap64 (Int.tdiv t118 8192)) 2) == 1) ((Int.tmod (wrap64 (Int.tdiv t118 4096)) 2) == 1) (Int.tmod t118 1024) (wrap64 (Int.tdiv t119 1024)) (wrap64 (bt a0 4)) (a0.extract 5 ((wrap64 ((wrap64 ((Int.tmod t119 1024) + 1)) - 2)) : Int).toNat)).bind fun t123 => (if 0 ≤ (wrap64 ((Int.tmod t119 1024) + 1)) then (if (wrap64 ((Int.tmod t119 1024) + 1)) ≤ (a0.size : Int) then (if t123.toList = (a0.extract 0 ((wrap64 ((Int.tmod t119 1024) + 1)) : Int).toNat).toList then (some (((Int.tmod (wrap64 (Int.tdiv t118 8192)) 2) == 1), ((Int.tmod (wrap64 (Int.tdiv t118 4096)) 2) == 1), Int.tmod t118 1024, wrap64 (Int.tdiv t119 1024), wrap64 (bt a0 4), a0.extract 5 ((wrap64 ((wrap64 ((Int.tmod t119 1024) + 1)) - 2)) : Int).toNat, true)) else (some (false, false, 0, 0, 0, (⟨#[]⟩ : ByteArray), false))) else (none)) else (none))) = some (r1, r2, r3, r4, r5, r6, r7) := by rw [if_pos rfl] at H; exact H
         clear H
         have H := H1
         clear H1
         replace H := Option.bind_eq_some_iff.mp H
         obtain ⟨t123, A170, H⟩ := H
         replace H : (if 0 ≤ (wrap64 ((Int.tmod t119 1024) + 1)) then (if (wrap64 ((Int.tmod t119 1024) + 1)) ≤ (a0.size : Int) then (if t123.toList = (a0.extract 0 ((wrap64 ((Int.tmod t119 1024) + 1)) : Int).toNat).toList then (some (((Int.tmod (wrap64 (Int.tdiv t118 8192)) 2) == 1), ((Int.tmod (wrap64 (Int.tdiv t118 4096)) 2) == 1), Int.tmod t118 1024, wrap64 (Int.tdiv t119 1024), wrap64 (bt a0 4), a0.extract 5 ((wrap64 ((wrap64 ((Int.tmod t119 1024) + 1)) - 2)) : Int).toNat, true)) else (some (false, false, 0, 0, 0, (⟨#[]⟩ : ByteArray), false))) else (none)) else (none)) = some (r1, r2, r3, r4, r5, r6, r7) := H
         have A17 := Aside0.mk A170
         clear A170
         obtain ⟨ji18, hji18⟩ : ∃ j_ : Int, (wrap64 ((Int.tmod t119 1024) + 1)) = j_ := ⟨_, rfl⟩
         replace H : (if 0 ≤ (ji18) then (if (ji18) ≤ (a0.size : Int) then (if t123.toList = (a0.extract 0 ((ji18) : Int).toNat).toList then (some (((Int.tmod (wrap64 (Int.tdiv t118 8192)) 2) == 1), ((Int.tmod (wrap64 (Int.tdiv t118 4096)) 2) == 1), Int.tmod t118 1024, wrap64 (Int.tdiv t119 1024), wrap64 (bt a0 4), a0.extract 5 ((wrap64 ((ji18) - 2)) : Int).toNat, true)) else (some (false, false, 0, 0, 0, (⟨#[]⟩ : ByteArray), false))) else (none)) else (none)) = some (r1, r2, r3, r4, r5, r6, r7) := by first | (rw [hji18] at H; exact H) | (simp only [hji18] at H ⊢; exact H)
         (try rw [hji18] at c13b0)
         (try rw [hji18] at c13b1)
         (try rw [hji18] at c13)
         (try rw [hji18] at c14b0)
         (try rw [hji18] at c14b1)
         (try rw [hji18] at c14)
         (try rw [hji18] at A7)
         (try rw [hji18] at A8)
         (try rw [hji18] at A9)
         (try rw [hji18] at A15)
         (try rw [hji18] at A17)
         have hji18w : (IntKind.i64.wrap ((Int.tmod t119 1024) + 1)) = ji18 := (i64_w _).trans hji18
         by_cases c19 : 0 ≤ (ji18)
         ·rw [if_pos c19] at H
          have c19b0 := eq_true c19
          have c19b1 : decide (0 ≤ (ji18)) = true := decide_eq_true c19
          clear c19
          by_cases c20 : (ji18) ≤ (a0.size : Int)
          ·rw [if_pos c20] at H
           have c20b0 := eq_true c20
           have c20b1 : decide ((ji18) ≤ (a0.size : Int)) = true := decide_eq_true c20
           clear c20
           by_cases c21 : t123.toList = (a0.extract 0 ((ji18) : Int).toNat).toList
           ·rw [if_pos c21] at H
            have c21b0 : (t123.toList == (a0.extract 0 ((ji18) : Int).toNat).toList) = true := beq_iff_eq.mpr c21
            have c21b1 : (t123.toList != (a0.extract 0 ((ji18) : Int).toNat).toList) = false := bne_eq_false_iff_eq.mpr c21
            clear c21
            simp only [Option.some.injEq, Prod.mk.injEq] at H
            obtain ⟨rfl, rfl, rfl, rfl, rfl, rfl, rfl⟩ := H
            try go_wp2_with (first | ((with_reducible refine gate_callee (f := 15) rfl ?_); refine goesL_ (some 18) rfl rfl Try.func15 (by kernel_rfl) rfl #[.string a0, .int .i64 0, .int .i64 2] rfl gl_ ?_; (with_reducible refine (spec_l1Get.calls kj1 a0 0 2 t118 _ A7.out).mono ?_); rintro e w' ⟨rfl, ⟨nd, rfl⟩⟩; refine ⟨_, rfl, ?_⟩; (try (rw [drewN_self wc]; generalize hq_ : World.drewN wc _ = wc; have n0_ : Aside0 (wc.heap[gb117]? = some (.cells #[.bool false, .bool false, .int .i64 0, .int .i64 0, .int .i64 0, .string (⟨#[]⟩ : ByteArray)] 23 (0, 0))) := ⟨by rw [← hq_]; exact (kN BK117.out)⟩; have n1_ : Aside0 (Below w.heap.size w wc) := ⟨by rw [← hq_]; exact (bN HB.out)⟩; clear BK117 HB hq_; have BK117 := n0_; have HB := n1_; clear n0_ n1_))) | ((with_reducible refine gate_callee (f := 15) rfl ?_); refine goesL_ (some 20) rfl rfl Try.func15 (by kernel_rfl) rfl #[.string a0, .int .i64 2, .int .i64 2] rfl gl_ ?_; (with_reducible refine (spec_l1Get.calls kj1 a0 2 2 t119 _ A8.out).mono ?_); rintro e w' ⟨rfl, ⟨nd, rfl⟩⟩; refine ⟨_, rfl, ?_⟩; (try (rw [drewN_self wc]; generalize hq_ : World.drewN wc _ = wc; have n0_ : Aside0 (wc.heap[gb117]? = some (.cells #[.bool false, .bool false, .int .i64 0, .int .i64 0, .int .i64 0, .string (⟨#[]⟩ : ByteArray)] 23 (0, 0))) := ⟨by rw [← hq_]; exact (kN BK117.out)⟩; have n1_ : Aside0 (Below w.heap.size w wc) := ⟨by rw [← hq_]; exact (bN HB.out)⟩; clear BK117 HB hq_; have BK117 := n0_; have HB := n1_; clear n0_ n1_))) | ((with_reducible refine gate_callee (f := 16) rfl ?_); refine goesL_ (some 27) rfl rfl Try.func16 (by kernel_rfl) rfl #[.int .i64 ji18, .int .i64 8, .int .i64 (a0.size : Int)] rfl (by (try simp only [List.map_toArray, List.map_cons, List.map_nil]); first | done | (simp only [hji18]; rfl) | rfl | (simp only [List.length_drop, List.length_take]; rfl)) ?_; (with_reducible refine (spec_l1In.calls ji18 8 (a0.size : Int) true _ A9.out).mono ?_); rintro e w' ⟨rfl, ⟨nd, rfl⟩⟩; refine ⟨_, rfl, ?_⟩; (try (rw [drewN_self wc]; generalize hq_ : World.drewN wc _ = wc; have n0_ : Aside0 (wc.heap[gb117]? = some (.cells #[.bool false, .bool false, .int .i64 0, .int .i64 0, .int .i64 0, .string (⟨#[]⟩ : ByteArray)] 23 (0, 0))) := ⟨by rw [← hq_]; exact (kN BK117.out)⟩; have n1_ : Aside0 (Below w.heap.size w wc) := ⟨by rw [← hq_]; exact (bN HB.out)⟩; clear BK117 HB hq_; have BK117 := n0_; have HB := n1_; clear n0_ n1_))))
            have n0_ := m_ (blk_drew BK117.out)
            have n1_ := m_ (below_drew1 HB.out)
            clear BK117
            clear HB
            have BK117 := n0_
            have HB := n1_
            clear n0_ n1_
            have p12 : 0 ≤ (4 : Int) := (by omega)
            have q12 : 4 < a0.size := (by have : (4 : Int) < (a0.size : Int) := of_decide_eq_true (by first | (with_reducible assumption) | assumption); omega)
            have hx12 : ∀ h : 4 < a0.size, ((a0[4]'h).toNat : Int) = bt a0 4 := bt_at a0 4
            clear p12
            have qi12 : (4 < (a0.size : Int)) = True := eq_true (of_decide_eq_true (by first | (with_reducible assumption) | assumption))
            replace q12 := eq_true q12
            refine start_ (n := 22) (S := fun w' => True) (ds := []) #[false, false, false, false, false, false, false, false, false, false, false, false, false, false, false, false, false, false, false, false, false, false] (by kernel_rfl) rfl rfl trivial (fun hHeld => ?_); refine with_tabW spec_FrameGet.tab8 spec_FrameGet.bits8 (fun HT_ HW_ => ?_)
            generalize wc.drew = w22 at BK117 HB hHeld ⊢
            refine pu 0 30 HT_ (h := ?_)
            refine pu 1 31 HT_ (h := ?_)
            refine pu 2 32 HT_ (h := ?_)
            refine pu 3 33 HT_ (h := ?_)
            refine pu 4 34 HT_ (h := ?_)
            refine pu 5 35 HT_ (h := ?_)
            refine pu 6 36 HT_ (h := ?_)
            refine pu 7 37 HT_ (h := ?_)
            refine pu 8 38 HT_ (h := ?_)
            refine pu 9 39 HT_ (h := ?_)
            refine pu 10 40 HT_ (h := ?_)
            refine pu 11 41 HT_ (h := ?_)
            refine pu 12 42 HT_ (h := ?_)
            refine pu 15 45 HT_ (h := ?_)
            refine pu 16 46 HT_ (h := ?_)
            refine pu 17 47 HT_ (h := ?_)
            refine pu 18 48 HT_ (h := ?_)
            refine take_ (i := 13) (N := some 43) (v := ?_) (a' := ?_) #[true, true, true, true, true, true, true, true, true, true, true, true, true, true, false, true, true, true, true, false, false, false] rfl rfl (take_ofW HT_.out HW_.out (by kernel_rfl)) (fun _ _ _ h => h) (Or.inl ⟨by rfl, ?_⟩) hHeld ?_ ?_
            rotate_left
            ·intro w' _
             go_simp
             with_reducible rfl
            rotate_left
            ·simp only [Act.put, List.setIfInBounds_toArray, List.set_cons_zero, List.set_cons_succ, i64_w, i32_w]
             rfl
            refine pu 14 44 HT_ (h := ?_)
            refine pu 19 49 HT_ (h := ?_)
            refine one_ (i := 20) (N := some 7) #[true, true, true, true, true, true, true, true, true, true, true, true, true, true, true, true, true, true, true, true, true, false] rfl rfl (one_of HT_.out (by kernel_rfl)) (by decide) (fun K hK => ?_)
            refine box_step ?hg (N := 7) ?hd (cs := #[.bool false, .bool false, .int .i64 0, .int .i64 0, .int .i64 0, .string (⟨#[]⟩ : ByteArray)]) (t := 23) ?hr ?_; (case hd => rfl); (case hg => rfl); (case hr => first | (go_simp; done) | (go_simp; rfl))
            intro gb121 hg w23 hbox hb
            have n0_ := m_ (blk_below (g := gb117) (o := .cells #[.bool false, .bool false, .int .i64 0, .int .i64 0, .int .i64 0, .string (⟨#[]⟩ : ByteArray)] 23 (0, 0)) (kN BK117.out) hb)
            have n1_ := m_ (below_step (bN HB.out) hb)
            have n2_ := m_ (hbox)
            have n3_ := m_ ((by rw [hg]; exact (below_size (bN HB.out)) : w.heap.size ≤ gb121))
            have n4_ := m_ ((by rw [hg]; exact (below_size (bN HB.out)) : w.heap.size ≤ gb121))
            have n5_ := m_ ((by rw [hg]; exact Nat.ne_of_lt (blk_lt (g := gb117) (o := .cells #[.bool false, .bool false, .int .i64 0, .int .i64 0, .int .i64 0, .string (⟨#[]⟩ : ByteArray)] 23 (0, 0)) (kN BK117.out)) : gb117 ≠ gb121))
            have n6_ := m_ ((by rw [hg]; exact Nat.ne_of_gt (blk_lt (g := gb117) (o := .cells #[.bool false, .bool false, .int .i64 0, .int .i64 0, .int .i64 0, .string (⟨#[]⟩ : ByteArray)] 23 (0, 0)) (kN BK117.out)) : gb121 ≠ gb117))
            clear BK117
            clear HB
            have BK117 := n0_
            have HB := n1_
            have BK121 := n2_
            have GW121 := n3_
            have GE121 := n4_
            have NB117_121 := n5_
            have NB121_117 := n6_
            clear n0_ n1_ n2_ n3_ n4_ n5_ n6_
            clear hb hbox hg
            refine hK.out _ _ trivial (fun hHeld => ?_)
            clear hK K
            refine norm_ (a' := ?_) ?_ ?_
            rotate_left
            ·show Act.put _ (some 7) _ = _
             simp only [Act.put, List.setIfInBounds_toArray, List.set_cons_zero, List.set_cons_succ, i64_w, i32_w]
             rfl
            refine one_ (i := 21) (N := none) #[true, true, true, true, true, true, true, true, true, true, true, true, true, true, true, true, true, true, true, true, true, true] rfl rfl (one_of HT_.out (by kernel_rfl)) (by decide) (fun K hK => ?_)
            have hs24 : w23.cell? ⟨gb121, 0, none⟩ = some (.bool false) := (blk_cell BK121.out 0).trans rfl
            have hfs24 := blk_frozen BK121.out 0
            have hns24_0 := NB117_121.out
            have hms24_0 := NB121_117.out
            have hs25 : w23.cell? ⟨gb121, 1, none⟩ = some (.bool false) := (blk_cell BK121.out 1).trans rfl
            have hfs25 := blk_frozen BK121.out 1
            have hns25_0 := NB117_121.out
            have hms25_0 := NB121_117.out
            have hs26 : w23.cell? ⟨gb121, 2, none⟩ = some (.int .i64 0) := (blk_cell BK121.out 2).trans rfl
            have hfs26 := blk_frozen BK121.out 2
            have hns26_0 := NB117_121.out
            have hms26_0 := NB121_117.out
            have hs27 : w23.cell? ⟨gb121, 3, none⟩ = some (.int .i64 0) := (blk_cell BK121.out 3).trans rfl
            have hfs27 := blk_frozen BK121.out 3
            have hns27_0 := NB117_121.out
            have hms27_0 := NB121_117.out
            have hs28 : w23.cell? ⟨gb121, 4, none⟩ = some (.int .i64 0) := (blk_cell BK121.out 4).trans rfl
            have hfs28 := blk_frozen BK121.out 4
            have hns28_0 := NB117_121.out
            have hms28_0 := NB121_117.out
            have hs29 : w23.cell? ⟨gb121, 5, none⟩ = some (.string (⟨#[]⟩ : ByteArray)) := (blk_cell BK121.out 5).trans rfl
            have hfs29 := blk_frozen BK121.out 5
            have hns29_0 := NB117_121.out
            have hms29_0 := NB121_117.out
            refine skip_ (w1 := ?_) (by rfl) rfl ?_ ?_
            rotate_left
            ·go_simp
             rfl
            refine hK.out _ _ trivial (fun hHeld => ?_)
            clear hK K
            refine done_ (done_of HT_.out (by kernel_rfl)) ?_
            try go_wp2
            have n0_ : Aside0 (((((((w23.setCell ⟨gb121, 0, none⟩ (.bool ((Int.tmod (wrap64 (Int.tdiv t118 8192)) 2) == 1))).setCell ⟨gb121, 1, none⟩ (.bool ((Int.tmod (wrap64 (Int.tdiv t118 4096)) 2) == 1))).setCell ⟨gb121, 2, none⟩ (.int .i64 (Int.tmod t118 1024))).setCell ⟨gb121, 3, none⟩ (.int .i64 (wrap64 (Int.tdiv t119 1024)))).setCell ⟨gb121, 4, none⟩ (.int .i64 (wrap64 (bt a0 4)))).setCell ⟨gb121, 5, none⟩ (.string (a0.extract 5 ((wrap64 ((ji18) - 2)) : Int).toNat))).heap[gb117]? = some (.cells #[.bool false, .bool false, .int .i64 0, .int .i64 0, .int .i64 0, .string (⟨#[]⟩ : ByteArray)] 23 (0, 0))) := ⟨kF BK117.out NB117_121.out⟩
            have n1_ : Aside0 (((((((w23.setCell ⟨gb121, 0, none⟩ (.bool ((Int.tmod (wrap64 (Int.tdiv t118 8192)) 2) == 1))).setCell ⟨gb121, 1, none⟩ (.bool ((Int.tmod (wrap64 (Int.tdiv t118 4096)) 2) == 1))).setCell ⟨gb121, 2, none⟩ (.int .i64 (Int.tmod t118 1024))).setCell ⟨gb121, 3, none⟩ (.int .i64 (wrap64 (Int.tdiv t119 1024)))).setCell ⟨gb121, 4, none⟩ (.int .i64 (wrap64 (bt a0 4)))).setCell ⟨gb121, 5, none⟩ (.string (a0.extract 5 ((wrap64 ((ji18) - 2)) : Int).toNat))).heap[gb121]? = some (.cells #[.bool ((Int.tmod (wrap64 (Int.tdiv t118 8192)) 2) == 1), .bool ((Int.tmod (wrap64 (Int.tdiv t118 4096)) 2) == 1), .int .i64 (Int.tmod t118 1024), .int .i64 (wrap64 (Int.tdiv t119 1024)), .int .i64 (wrap64 (bt a0 4)), .string (a0.extract 5 ((wrap64 ((ji18) - 2)) : Int).toNat)] 23 (0, 0))) := ⟨kP BK121.out⟩
            have n2_ : Aside0 (Below w.heap.size w ((((((w23.setCell ⟨gb121, 0, none⟩ (.bool ((Int.tmod (wrap64 (Int.tdiv t118 8192)) 2) == 1))).setCell ⟨gb121, 1, none⟩ (.bool ((Int.tmod (wrap64 (Int.tdiv t118 4096)) 2) == 1))).setCell ⟨gb121, 2, none⟩ (.int .i64 (Int.tmod t118 1024))).setCell ⟨gb121, 3, none⟩ (.int .i64 (wrap64 (Int.tdiv t119 1024)))).setCell ⟨gb121, 4, none⟩ (.int .i64 (wrap64 (bt a0 4)))).setCell ⟨gb121, 5, none⟩ (.string (a0.extract 5 ((wrap64 ((ji18) - 2)) : Int).toNat)))) := ⟨by repeat (first | (with_reducible first | exact HB.out | apply below_alloc | apply pw_below_drewN | apply below_drew1 | refine below_set ?_ GE117.out | refine below_set ?_ GE121.out) | exact HB.out)⟩
            (try clear BK117)
            (try clear BK121)
            (try clear HB)
            generalize ((((((w23.setCell ⟨gb121, 0, none⟩ (.bool ((Int.tmod (wrap64 (Int.tdiv t118 8192)) 2) == 1))).setCell ⟨gb121, 1, none⟩ (.bool ((Int.tmod (wrap64 (Int.tdiv t118 4096)) 2) == 1))).setCell ⟨gb121, 2, none⟩ (.int .i64 (Int.tmod t118 1024))).setCell ⟨gb121, 3, none⟩ (.int .i64 (wrap64 (Int.tdiv t119 1024)))).setCell ⟨gb121, 4, none⟩ (.int .i64 (wrap64 (bt a0 4)))).setCell ⟨gb121, 5, none⟩ (.string (a0.extract 5 ((wrap64 ((ji18) - 2)) : Int).toNat))) = w30 at n0_ n1_ n2_ ⊢
            have BK117 := n0_
            have BK121 := n1_
            have HB := n2_
            clear n0_ n1_ n2_
            have n0_ := m_ (blk_drew BK117.out)
            have n1_ := m_ (blk_drew BK121.out)
            have n2_ := m_ (below_drew1 HB.out)
            clear BK117
            clear BK121
            clear HB
            have BK117 := n0_
            have BK121 := n1_
            have HB := n2_
            clear n0_ n1_ n2_
            refine start_ (n := 11) (S := fun w' => w'.cell? ⟨gb121, 0, none⟩ = some (.bool ((Int.tmod (wrap64 (Int.tdiv t118 8192)) 2) == 1)) ∧ w'.cell? ⟨gb121, 1, none⟩ = some (.bool ((Int.tmod (wrap64 (Int.tdiv t118 4096)) 2) == 1)) ∧ w'.cell? ⟨gb121, 2, none⟩ = some (.int .i64 (Int.tmod t118 1024)) ∧ w'.cell? ⟨gb121, 3, none⟩ = some (.int .i64 (wrap64 (Int.tdiv t119 1024))) ∧ w'.cell? ⟨gb121, 4, none⟩ = some (.int .i64 (wrap64 (bt a0 4))) ∧ w'.cell? ⟨gb121, 5, none⟩ = some (.string (a0.extract 5 ((wrap64 ((ji18) - 2)) : Int).toNat))) (ds := []) #[false, false, false, false, false, false, false, false, false, false, false] (by kernel_rfl) rfl rfl ⟨(blk_cell BK121.out 0).trans rfl, (blk_cell BK121.out 1).trans rfl, (blk_cell BK121.out 2).trans rfl, (blk_cell BK121.out 3).trans rfl, (blk_cell BK121.out 4).trans rfl, (blk_cell BK121.out 5).trans rfl⟩ (fun hHeld => ?_); refine with_tabW spec_FrameGet.tab9 spec_FrameGet.bits9 (fun HT_ HW_ => ?_)
            generalize w30.drew = w31 at BK117 BK121 HB hHeld ⊢
            refine take_ (i := 0) (N := some 50) (v := ?_) (a' := ?_) #[true, false, false, false, false, false, false, false, false, false, false] rfl rfl (take_ofW HT_.out HW_.out (by kernel_rfl)) (fun _ _ _ h => h) (Or.inl ⟨by rfl, ?_⟩) hHeld ?_ ?_
            rotate_left
            ·rintro w' ⟨s0, s1, s2, s3, s4, s5⟩
             go_simp
             with_reducible rfl
            rotate_left
            ·simp only [Act.put, List.setIfInBounds_toArray, List.set_cons_zero, List.set_cons_succ, i64_w, i32_w]
             rfl
            refine one_ (i := 1) (N := some 51) #[true, true, false, false, false, false, false, false, false, false, false] rfl rfl (one_of HT_.out (by kernel_rfl)) (by decide) (fun K hK => ?_)
            refine goes_ Try.func13 (by kernel_rfl) rfl #[.agg #[.bool ((Int.tmod (wrap64 (Int.tdiv t118 8192)) 2) == 1), .bool ((Int.tmod (wrap64 (Int.tdiv t118 4096)) 2) == 1), .int .i64 (Int.tmod t118 1024), .int .i64 (wrap64 (Int.tdiv t119 1024)), .int .i64 (wrap64 (bt a0 4)), .string (a0.extract 5 ((wrap64 ((ji18) - 2)) : Int).toNat)]] (by rfl) rfl rfl (by (try simp only [List.map_toArray, List.map_cons, List.map_nil]); first | done | (simp only [hji18]; rfl) | rfl | (simp only [List.length_drop, List.length_take]; rfl)) ?_
            with_reducible refine (spec_FrameOk.calls ((Int.tmod (wrap64 (Int.tdiv t118 8192)) 2) == 1) ((Int.tmod (wrap64 (Int.tdiv t118 4096)) 2) == 1) (Int.tmod t118 1024) (wrap64 (Int.tdiv t119 1024)) (wrap64 (bt a0 4)) (a0.extract 5 ((wrap64 ((ji18) - 2)) : Int).toNat) true _ A15.out).mono ?_
            rintro e w32 ⟨rfl, hb⟩
            refine ⟨_, rfl, ?_⟩
            have n0_ := m_ (blk_below (g := gb117) (o := .cells #[.bool false, .bool false, .int .i64 0, .int .i64 0, .int .i64 0, .string (⟨#[]⟩ : ByteArray)] 23 (0, 0)) (kN BK117.out) hb)
            have n1_ := m_ (blk_below (kN BK121.out) hb)
            have n2_ := m_ (below_step (bN HB.out) hb)
            clear BK117
            clear BK121
            clear HB
            have BK117 := n0_
            have BK121 := n1_
            have HB := n2_
            clear n0_ n1_ n2_
            (try clear hb)
            (try clear hb2)
            (try clear hk)
            (try clear hi)
            refine hK.out _ _ ⟨(blk_cell BK121.out 0).trans rfl, (blk_cell BK121.out 1).trans rfl, (blk_cell BK121.out 2).trans rfl, (blk_cell BK121.out 3).trans rfl, (blk_cell BK121.out 4).trans rfl, (blk_cell BK121.out 5).trans rfl⟩ (fun hHeld => ?_)
            clear hK K
            refine norm_ (a' := ?_) ?_ ?_
            rotate_left
            ·show Act.put _ (some 51) _ = _
             simp only [Act.put, List.setIfInBounds_toArray, List.set_cons_zero, List.set_cons_succ, i64_w, i32_w]
             rfl
            refine pu 2 52 HT_ (h := ?_)
            refine pu 3 53 HT_ (h := ?_)
            refine pu 6 56 HT_ (h := ?_)
            refine pu 7 57 HT_ (h := ?_)
            refine pu 8 58 HT_ (h := ?_)
            refine take_ (i := 4) (N := some 54) (v := ?_) (a' := ?_) #[true, true, true, true, true, false, true, true, true, false, false] rfl rfl (take_ofW HT_.out HW_.out (by kernel_rfl)) (fun _ _ _ h => h) (Or.inl ⟨by rfl, ?_⟩) hHeld ?_ ?_
            rotate_left
            ·rintro w' ⟨s0, s1, s2, s3, s4, s5⟩
             go_simp
             with_reducible rfl
            rotate_left
            ·simp only [Act.put, List.setIfInBounds_toArray, List.set_cons_zero, List.set_cons_succ, i64_w, i32_w]
             rfl
            refine one_ (i := 5) (N := some 55) #[true, true, true, true, true, true, true, true, true, false, false] rfl rfl (one_of HT_.out (by kernel_rfl)) (by decide) (fun K hK => ?_)
            refine goes_ Try.func17 (by kernel_rfl) rfl #[.agg #[.bool ((Int.tmod (wrap64 (Int.tdiv t118 8192)) 2) == 1), .bool ((Int.tmod (wrap64 (Int.tdiv t118 4096)) 2) == 1), .int .i64 (Int.tmod t118 1024), .int .i64 (wrap64 (Int.tdiv t119 1024)), .int .i64 (wrap64 (bt a0 4)), .string (a0.extract 5 ((wrap64 ((ji18) - 2)) : Int).toNat)]] (by rfl) rfl rfl (by (try simp only [List.map_toArray, List.map_cons, List.map_nil]); first | done | (simp only [hji18]; rfl) | rfl | (simp only [List.length_drop, List.length_take]; rfl)) ?_
            with_reducible refine (spec_l3Put.calls kj1 ((Int.tmod (wrap64 (Int.tdiv t118 8192)) 2) == 1) ((Int.tmod (wrap64 (Int.tdiv t118 4096)) 2) == 1) (Int.tmod t118 1024) (wrap64 (Int.tdiv t119 1024)) (wrap64 (bt a0 4)) (a0.extract 5 ((wrap64 ((ji18) - 2)) : Int).toNat) t123 _ A17.out).mono ?_
            rintro e w33 ⟨rfl, hb⟩
            refine ⟨_, rfl, ?_⟩
            have n0_ := m_ (blk_below (g := gb117) (o := .cells #[.bool false, .bool false, .int .i64 0, .int .i64 0, .int .i64 0, .string (⟨#[]⟩ : ByteArray)] 23 (0, 0)) (kN BK117.out) hb)
            have n1_ := m_ (blk_below (kN BK121.out) hb)
            have n2_ := m_ (below_step (bN HB.out) hb)
            clear BK117
            clear BK121
            clear HB
            have BK117 := n0_
            have BK121 := n1_
            have HB := n2_
            clear n0_ n1_ n2_
            (try clear hb)
            (try clear hb2)
            (try clear hk)
            (try clear hi)
            refine hK.out _ _ ⟨(blk_cell BK121.out 0).trans rfl, (blk_cell BK121.out 1).trans rfl, (blk_cell BK121.out 2).trans rfl, (blk_cell BK121.out 3).trans rfl, (blk_cell BK121.out 4).trans rfl, (blk_cell BK121.out 5).trans rfl⟩ (fun hHeld => ?_)
            clear hK K
            refine norm_ (a' := ?_) ?_ ?_
            rotate_left
            ·show Act.put _ (some 55) _ = _
             simp only [Act.put, List.setIfInBounds_toArray, List.set_cons_zero, List.set_cons_succ, i64_w, i32_w]
             rfl
            refine pu 9 59 HT_ (h := ?_)
            refine pu 10 60 HT_ (h := ?_)
            refine done_ (done_of HT_.out (by kernel_rfl)) ?_
            have hnb34 := NB121_117.out
            have hnc34 := NB117_121.out
            have hcz35_0 : w33.cell? ⟨gb121, 0, none⟩ = some (.bool ((Int.tmod (wrap64 (Int.tdiv t118 8192)) 2) == 1)) := (blk_cell BK121.out 0).trans rfl
            have hcz35_1 : w33.cell? ⟨gb121, 1, none⟩ = some (.bool ((Int.tmod (wrap64 (Int.tdiv t118 4096)) 2) == 1)) := (blk_cell BK121.out 1).trans rfl
            have hcz35_2 : w33.cell? ⟨gb121, 2, none⟩ = some (.int .i64 (Int.tmod t118 1024)) := (blk_cell BK121.out 2).trans rfl
            have hcz35_3 : w33.cell? ⟨gb121, 3, none⟩ = some (.int .i64 (wrap64 (Int.tdiv t119 1024))) := (blk_cell BK121.out 3).trans rfl
            have hcz35_4 : w33.cell? ⟨gb121, 4, none⟩ = some (.int .i64 (wrap64 (bt a0 4))) := (blk_cell BK121.out 4).trans rfl
            have hcz35_5 : w33.cell? ⟨gb121, 5, none⟩ = some (.string (a0.extract 5 ((wrap64 ((ji18) - 2)) : Int).toNat)) := (blk_cell BK121.out 5).trans rfl
            have hfz35_0 := blk_frozen BK121.out 0
            have hfz35_1 := blk_frozen BK121.out 1
            have hfz35_2 := blk_frozen BK121.out 2
            have hfz35_3 := blk_frozen BK121.out 3
            have hfz35_4 := blk_frozen BK121.out 4
            have hfz35_5 := blk_frozen BK121.out 5
            have hcz36_0 : w33.cell? ⟨gb117, 0, none⟩ = some (.bool false) := (blk_cell BK117.out 0).trans rfl
            have hcz36_1 : w33.cell? ⟨gb117, 1, none⟩ = some (.bool false) := (blk_cell BK117.out 1).trans rfl
            have hcz36_2 : w33.cell? ⟨gb117, 2, none⟩ = some (.int .i64 0) := (blk_cell BK117.out 2).trans rfl
            have hcz36_3 : w33.cell? ⟨gb117, 3, none⟩ = some (.int .i64 0) := (blk_cell BK117.out 3).trans rfl
            have hcz36_4 : w33.cell? ⟨gb117, 4, none⟩ = some (.int .i64 0) := (blk_cell BK117.out 4).trans rfl
            have hcz36_5 : w33.cell? ⟨gb117, 5, none⟩ = some (.string (⟨#[]⟩ : ByteArray)) := (blk_cell BK117.out 5).trans rfl
            have hfz36_0 := blk_frozen BK117.out 0
            have hfz36_1 := blk_frozen BK117.out 1
            have hfz36_2 := blk_frozen BK117.out 2
            have hfz36_3 := blk_frozen BK117.out 3
            have hfz36_4 := blk_frozen BK117.out 4
            have hfz36_5 := blk_frozen BK117.out 5
            try go_wp2
            refine bodyPost_ret (results_ct rfl _ _ gb117 23 #[.bool ((Int.tmod (wrap64 (Int.tdiv t118 8192)) 2) == 1), .bool ((Int.tmod (wrap64 (Int.tdiv t118 4096)) 2) == 1), .int .i64 (Int.tmod t118 1024), .int .i64 (wrap64 (Int.tdiv t119 1024)), .int .i64 (wrap64 (bt a0 4)), .string (a0.extract 5 ((wrap64 ((ji18) - 2)) : Int).toNat)] (0, 0) _ rfl (kP BK117.out) Try.underlying23 rfl (by kernel_rfl)) rfl ?_
            exact ⟨by first | rfl | (simp [errW_none, errW_some] <;> rfl) | (simp only [← hji18]; first | rfl | (simp [errW_none, errW_some] <;> rfl)) | (simp [*, errW_none, errW_some] <;> rfl), by repeat (first | (with_reducible first | exact HB.out | apply below_alloc | apply pw_below_drewN | apply below_drew1 | refine below_set ?_ GE117.out | refine below_set ?_ GE121.out) | exact HB.out)⟩
           ·rw [if_neg c21] at H
            have c21b0 : (t123.toList == (a0.extract 0 ((ji18) : Int).toNat).toList) = false := beq_eq_false_iff_ne.mpr c21
            have c21b1 : (t123.toList != (a0.extract 0 ((ji18) : Int).toNat).toList) = true := bne_iff_ne.mpr c21
            simp only [Option.some.injEq, Prod.mk.injEq] at H
            obtain ⟨rfl, rfl, rfl, rfl, rfl, rfl, rfl⟩ := H
            try go_wp2_with (first | ((with_reducible refine gate_callee (f := 15) rfl ?_); refine goesL_ (some 18) rfl rfl Try.func15 (by kernel_rfl) rfl #[.string a0, .int .i64 0, .int .i64 2] rfl gl_ ?_; (with_reducible refine (spec_l1Get.calls kj1 a0 0 2 t118 _ A7.out).mono ?_); rintro e w' ⟨rfl, ⟨nd, rfl⟩⟩; refine ⟨_, rfl, ?_⟩; (try (rw [drewN_self wc]; generalize hq_ : World.drewN wc _ = wc; have n0_ : Aside0 (wc.heap[gb117]? = some (.cells #[.bool false, .bool false, .int .i64 0, .int .i64 0, .int .i64 0, .string (⟨#[]⟩ : ByteArray)] 23 (0, 0))) := ⟨by rw [← hq_]; exact (kN BK117.out)⟩; have n1_ : Aside0 (Below w.heap.size w wc) := ⟨by rw [← hq_]; exact (bN HB.out)⟩; clear BK117 HB hq_; have BK117 := n0_; have HB := n1_; clear n0_ n1_))) | ((with_reducible refine gate_callee (f := 15) rfl ?_); refine goesL_ (some 20) rfl rfl Try.func15 (by kernel_rfl) rfl #[.string a0, .int .i64 2, .int .i64 2] rfl gl_ ?_; (with_reducible refine (spec_l1Get.calls kj1 a0 2 2 t119 _ A8.out).mono ?_); rintro e w' ⟨rfl, ⟨nd, rfl⟩⟩; refine ⟨_, rfl, ?_⟩; (try (rw [drewN_self wc]; generalize hq_ : World.drewN wc _ = wc; have n0_ : Aside0 (wc.heap[gb117]? = some (.cells #[.bool false, .bool false, .int .i64 0, .int .i64 0, .int .i64 0, .string (⟨#[]⟩ : ByteArray)] 23 (0, 0))) := ⟨by rw [← hq_]; exact (kN BK117.out)⟩; have n1_ : Aside0 (Below w.heap.size w wc) := ⟨by rw [← hq_]; exact (bN HB.out)⟩; clear BK117 HB hq_; have BK117 := n0_; have HB := n1_; clear n0_ n1_))) | ((with_reducible refine gate_callee (f := 16) rfl ?_); refine goesL_ (some 27) rfl rfl Try.func16 (by kernel_rfl) rfl #[.int .i64 ji18, .int .i64 8, .int .i64 (a0.size : Int)] rfl (by (try simp only [List.map_toArray, List.map_cons, List.map_nil]); first | done | (simp only [hji18]; rfl) | rfl | (simp only [List.length_drop, List.length_take]; rfl)) ?_; (with_reducible refine (spec_l1In.calls ji18 8 (a0.size : Int) true _ A9.out).mono ?_); rintro e w' ⟨rfl, ⟨nd, rfl⟩⟩; refine ⟨_, rfl, ?_⟩; (try (rw [drewN_self wc]; generalize hq_ : World.drewN wc _ = wc; have n0_ : Aside0 (wc.heap[gb117]? = some (.cells #[.bool false, .bool false, .int .i64 0, .int .i64 0, .int .i64 0, .string (⟨#[]⟩ : ByteArray)] 23 (0, 0))) := ⟨by rw [← hq_]; exact (kN BK117.out)⟩; have n1_ : Aside0 (Below w.heap.size w wc) := ⟨by rw [← hq_]; exact (bN HB.out)⟩; clear BK117 HB hq_; have BK117 := n0_; have HB := n1_; clear n0_ n1_))))
            have n0_ := m_ (blk_drew BK117.out)
            have n1_ := m_ (below_drew1 HB.out)
            clear BK117
            clear HB
            have BK117 := n0_
            have HB := n1_
            clear n0_ n1_
            have p12 : 0 ≤ (4 : Int) := (by omega)
            have q12 : 4 < a0.size := (by have : (4 : Int) < (a0.size : Int) := of_decide_eq_true (by first | (with_reducible assumption) | assumption); omega)
            have hx12 : ∀ h : 4 < a0.size, ((a0[4]'h).toNat : Int) = bt a0 4 := bt_at a0 4
            clear p12
            have qi12 : (4 < (a0.size : Int)) = True := eq_true (of_decide_eq_true (by first | (with_reducible assumption) | assumption))
            replace q12 := eq_true q12
            refine start_ (n := 22) (S := fun w' => True) (ds := []) #[false, false, false, false, false, false, false, false, false, false, false, false, false, false, false, false, false, false, false, false, false, false] (by kernel_rfl) rfl rfl trivial (fun hHeld => ?_); refine with_tabW spec_FrameGet.tab8 spec_FrameGet.bits8 (fun HT_ HW_ => ?_)
            generalize wc.drew = w37 at BK117 HB hHeld ⊢
            refine pu 0 30 HT_ (h := ?_)
            refine pu 1 31 HT_ (h := ?_)
            refine pu 2 32 HT_ (h := ?_)
            refine pu 3 33 HT_ (h := ?_)
            refine pu 4 34 HT_ (h := ?_)
            refine pu 5 35 HT_ (h := ?_)
            refine pu 6 36 HT_ (h := ?_)
            refine pu 7 37 HT_ (h := ?_)
            refine pu 8 38 HT_ (h := ?_)
            refine pu 9 39 HT_ (h := ?_)
            refine pu 10 40 HT_ (h := ?_)
            refine pu 11 41 HT_ (h := ?_)
            refine pu 12 42 HT_ (h := ?_)
            refine pu 15 45 HT_ (h := ?_)
            refine pu 16 46 HT_ (h := ?_)
            refine pu 17 47 HT_ (h := ?_)
            refine pu 18 48 HT_ (h := ?_)
            refine take_ (i := 13) (N := some 43) (v := ?_) (a' := ?_) #[true, true, true, true, true, true, true, true, true, true, true, true, true, true, false, true, true, true, true, false, false, false] rfl rfl (take_ofW HT_.out HW_.out (by kernel_rfl)) (fun _ _ _ h => h) (Or.inl ⟨by rfl, ?_⟩) hHeld ?_ ?_
            rotate_left
            ·intro w' _
             go_simp
             with_reducible rfl
            rotate_left
            ·simp only [Act.put, List.setIfInBounds_toArray, List.set_cons_zero, List.set_cons_succ, i64_w, i32_w]
             rfl
            refine pu 14 44 HT_ (h := ?_)
            refine pu 19 49 HT_ (h := ?_)
            refine one_ (i := 20) (N := some 7) #[true, true, true, true, true, true, true, true, true, true, true, true, true, true, true, true, true, true, true, true, true, false] rfl rfl (one_of HT_.out (by kernel_rfl)) (by decide) (fun K hK => ?_)
            refine box_step ?hg (N := 7) ?hd (cs := #[.bool false, .bool false, .int .i64 0, .int .i64 0, .int .i64 0, .string (⟨#[]⟩ : ByteArray)]) (t := 23) ?hr ?_; (case hd => rfl); (case hg => rfl); (case hr => first | (go_simp; done) | (go_simp; rfl))
            intro gb121 hg w38 hbox hb
            have n0_ := m_ (blk_below (g := gb117) (o := .cells #[.bool false, .bool false, .int .i64 0, .int .i64 0, .int .i64 0, .string (⟨#[]⟩ : ByteArray)] 23 (0, 0)) (kN BK117.out) hb)
            have n1_ := m_ (below_step (bN HB.out) hb)
            have n2_ := m_ (hbox)
            have n3_ := m_ ((by rw [hg]; exact (below_size (bN HB.out)) : w.heap.size ≤ gb121))
            have n4_ := m_ ((by rw [hg]; exact (below_size (bN HB.out)) : w.heap.size ≤ gb121))
            have n5_ := m_ ((by rw [hg]; exact Nat.ne_of_lt (blk_lt (g := gb117) (o := .cells #[.bool false, .bool false, .int .i64 0, .int .i64 0, .int .i64 0, .string (⟨#[]⟩ : ByteArray)] 23 (0, 0)) (kN BK117.out)) : gb117 ≠ gb121))
            have n6_ := m_ ((by rw [hg]; exact Nat.ne_of_gt (blk_lt (g := gb117) (o := .cells #[.bool false, .bool false, .int .i64 0, .int .i64 0, .int .i64 0, .string (⟨#[]⟩ : ByteArray)] 23 (0, 0)) (kN BK117.out)) : gb121 ≠ gb117))
            clear BK117
            clear HB
            have BK117 := n0_
            have HB := n1_
            have BK121 := n2_
            have GW121 := n3_
            have GE121 := n4_
            have NB117_121 := n5_
            have NB121_117 := n6_
            clear n0_ n1_ n2_ n3_ n4_ n5_ n6_
            clear hb hbox hg
            refine hK.out _ _ trivial (fun hHeld => ?_)
            clear hK K
            refine norm_ (a' := ?_) ?_ ?_
            rotate_left
            ·show Act.put _ (some 7) _ = _
             simp only [Act.put, List.setIfInBounds_toArray, List.set_cons_zero, List.set_cons_succ, i64_w, i32_w]
             rfl
            refine one_ (i := 21) (N := none) #[true, true, true, true, true, true, true, true, true, true, true, true, true, true, true, true, true, true, true, true, true, true] rfl rfl (one_of HT_.out (by kernel_rfl)) (by decide) (fun K hK => ?_)
            have hs39 : w38.cell? ⟨gb121, 0, none⟩ = some (.bool false) := (blk_cell BK121.out 0).trans rfl
            have hfs39 := blk_frozen BK121.out 0
            have hns39_0 := NB117_121.out
            have hms39_0 := NB121_117.out
            have hs40 : w38.cell? ⟨gb121, 1, none⟩ = some (.bool false) := (blk_cell BK121.out 1).trans rfl
            have hfs40 := blk_frozen BK121.out 1
            have hns40_0 := NB117_121.out
            have hms40_0 := NB121_117.out
            have hs41 : w38.cell? ⟨gb121, 2, none⟩ = some (.int .i64 0) := (blk_cell BK121.out 2).trans rfl
            have hfs41 := blk_frozen BK121.out 2
            have hns41_0 := NB117_121.out
            have hms41_0 := NB121_117.out
            have hs42 : w38.cell? ⟨gb121, 3, none⟩ = some (.int .i64 0) := (blk_cell BK121.out 3).trans rfl
            have hfs42 := blk_frozen BK121.out 3
            have hns42_0 := NB117_121.out
            have hms42_0 := NB121_117.out
            have hs43 : w38.cell? ⟨gb121, 4, none⟩ = some (.int .i64 0) := (blk_cell BK121.out 4).trans rfl
            have hfs43 := blk_frozen BK121.out 4
            have hns43_0 := NB117_121.out
            have hms43_0 := NB121_117.out
            have hs44 : w38.cell? ⟨gb121, 5, none⟩ = some (.string (⟨#[]⟩ : ByteArray)) := (blk_cell BK121.out 5).trans rfl
            have hfs44 := blk_frozen BK121.out 5
            have hns44_0 := NB117_121.out
            have hms44_0 := NB121_117.out
            refine skip_ (w1 := ?_) (by rfl) rfl ?_ ?_
            rotate_left
            ·go_simp
             rfl
            refine hK.out _ _ trivial (fun hHeld => ?_)
            clear hK K
            refine done_ (done_of HT_.out (by kernel_rfl)) ?_
            try go_wp2
            have n0_ : Aside0 (((((((w38.setCell ⟨gb121, 0, none⟩ (.bool ((Int.tmod (wrap64 (Int.tdiv t118 8192)) 2) == 1))).setCell ⟨gb121, 1, none⟩ (.bool ((Int.tmod (wrap64 (Int.tdiv t118 4096)) 2) == 1))).setCell ⟨gb121, 2, none⟩ (.int .i64 (Int.tmod t118 1024))).setCell ⟨gb121, 3, none⟩ (.int .i64 (wrap64 (Int.tdiv t119 1024)))).setCell ⟨gb121, 4, none⟩ (.int .i64 (wrap64 (bt a0 4)))).setCell ⟨gb121, 5, none⟩ (.string (a0.extract 5 ((wrap64 ((ji18) - 2)) : Int).toNat))).heap[gb117]? = some (.cells #[.bool false, .bool false, .int .i64 0, .int .i64 0, .int .i64 0, .string (⟨#[]⟩ : ByteArray)] 23 (0, 0))) := ⟨kF BK117.out NB117_121.out⟩
            have n1_ : Aside0 (((((((w38.setCell ⟨gb121, 0, none⟩ (.bool ((Int.tmod (wrap64 (Int.tdiv t118 8192)) 2) == 1))).setCell ⟨gb121, 1, none⟩ (.bool ((Int.tmod (wrap64 (Int.tdiv t118 4096)) 2) == 1))).setCell ⟨gb121, 2, none⟩ (.int .i64 (Int.tmod t118 1024))).setCell ⟨gb121, 3, none⟩ (.int .i64 (wrap64 (Int.tdiv t119 1024)))).setCell ⟨gb121, 4, none⟩ (.int .i64 (wrap64 (bt a0 4)))).setCell ⟨gb121, 5, none⟩ (.string (a0.extract 5 ((wrap64 ((ji18) - 2)) : Int).toNat))).heap[gb121]? = some (.cells #[.bool ((Int.tmod (wrap64 (Int.tdiv t118 8192)) 2) == 1), .bool ((Int.tmod (wrap64 (Int.tdiv t118 4096)) 2) == 1), .int .i64 (Int.tmod t118 1024), .int .i64 (wrap64 (Int.tdiv t119 1024)), .int .i64 (wrap64 (bt a0 4)), .string (a0.extract 5 ((wrap64 ((ji18) - 2)) : Int).toNat)] 23 (0, 0))) := ⟨kP BK121.out⟩
            have n2_ : Aside0 (Below w.heap.size w ((((((w38.setCell ⟨gb121, 0, none⟩ (.bool ((Int.tmod (wrap64 (Int.tdiv t118 8192)) 2) == 1))).setCell ⟨gb121, 1, none⟩ (.bool ((Int.tmod (wrap64 (Int.tdiv t118 4096)) 2) == 1))).setCell ⟨gb121, 2, none⟩ (.int .i64 (Int.tmod t118 1024))).setCell ⟨gb121, 3, none⟩ (.int .i64 (wrap64 (Int.tdiv t119 1024)))).setCell ⟨gb121, 4, none⟩ (.int .i64 (wrap64 (bt a0 4)))).setCell ⟨gb121, 5, none⟩ (.string (a0.extract 5 ((wrap64 ((ji18) - 2)) : Int).toNat)))) := ⟨by repeat (first | (with_reducible first | exact HB.out | apply below_alloc | apply pw_below_drewN | apply below_drew1 | refine below_set ?_ GE117.out | refine below_set ?_ GE121.out) | exact HB.out)⟩
            (try clear BK117)
            (try clear BK121)
            (try clear HB)
            generalize ((((((w38.setCell ⟨gb121, 0, none⟩ (.bool ((Int.tmod (wrap64 (Int.tdiv t118 8192)) 2) == 1))).setCell ⟨gb121, 1, none⟩ (.bool ((Int.tmod (wrap64 (Int.tdiv t118 4096)) 2) == 1))).setCell ⟨gb121, 2, none⟩ (.int .i64 (Int.tmod t118 1024))).setCell ⟨gb121, 3, none⟩ (.int .i64 (wrap64 (Int.tdiv t119 1024)))).setCell ⟨gb121, 4, none⟩ (.int .i64 (wrap64 (bt a0 4)))).setCell ⟨gb121, 5, none⟩ (.string (a0.extract 5 ((wrap64 ((ji18) - 2)) : Int).toNat))) = w45 at n0_ n1_ n2_ ⊢
            have BK117 := n0_
            have BK121 := n1_
            have HB := n2_
            clear n0_ n1_ n2_
            have n0_ := m_ (blk_drew BK117.out)
            have n1_ := m_ (blk_drew BK121.out)
            have n2_ := m_ (below_drew1 HB.out)
            clear BK117
            clear BK121
            clear HB
            have BK117 := n0_
            have BK121 := n1_
            have HB := n2_
            clear n0_ n1_ n2_
            refine start_ (n := 11) (S := fun w' => w'.cell? ⟨gb121, 0, none⟩ = some (.bool ((Int.tmod (wrap64 (Int.tdiv t118 8192)) 2) == 1)) ∧ w'.cell? ⟨gb121, 1, none⟩ = some (.bool ((Int.tmod (wrap64 (Int.tdiv t118 4096)) 2) == 1)) ∧ w'.cell? ⟨gb121, 2, none⟩ = some (.int .i64 (Int.tmod t118 1024)) ∧ w'.cell? ⟨gb121, 3, none⟩ = some (.int .i64 (wrap64 (Int.tdiv t119 1024))) ∧ w'.cell? ⟨gb121, 4, none⟩ = some (.int .i64 (wrap64 (bt a0 4))) ∧ w'.cell? ⟨gb121, 5, none⟩ = some (.string (a0.extract 5 ((wrap64 ((ji18) - 2)) : Int).toNat))) (ds := []) #[false, false, false, false, false, false, false, false, false, false, false] (by kernel_rfl) rfl rfl ⟨(blk_cell BK121.out 0).trans rfl, (blk_cell BK121.out 1).trans rfl, (blk_cell BK121.out 2).trans rfl, (blk_cell BK121.out 3).trans rfl, (blk_cell BK121.out 4).trans rfl, (blk_cell BK121.out 5).trans rfl⟩ (fun hHeld => ?_); refine with_tabW spec_FrameGet.tab9 spec_FrameGet.bits9 (fun HT_ HW_ => ?_)
            generalize w45.drew = w46 at BK117 BK121 HB hHeld ⊢
            refine take_ (i := 0) (N := some 50) (v := ?_) (a' := ?_) #[true, false, false, false, false, false, false, false, false, false, false] rfl rfl (take_ofW HT_.out HW_.out (by kernel_rfl)) (fun _ _ _ h => h) (Or.inl ⟨by rfl, ?_⟩) hHeld ?_ ?_
            rotate_left
            ·rintro w' ⟨s0, s1, s2, s3, s4, s5⟩
             go_simp
             with_reducible rfl
            rotate_left
            ·simp only [Act.put, List.setIfInBounds_toArray, List.set_cons_zero, List.set_cons_succ, i64_w, i32_w]
             rfl
            refine one_ (i := 1) (N := some 51) #[true, true, false, false, false, false, false, false, false, false, false] rfl rfl (one_of HT_.out (by kernel_rfl)) (by decide) (fun K hK => ?_)
            refine goes_ Try.func13 (by kernel_rfl) rfl #[.agg #[.bool ((Int.tmod (wrap64 (Int.tdiv t118 8192)) 2) == 1), .bool ((Int.tmod (wrap64 (Int.tdiv t118 4096)) 2) == 1), .int .i64 (Int.tmod t118 1024), .int .i64 (wrap64 (Int.tdiv t119 1024)), .int .i64 (wrap64 (bt a0 4)), .string (a0.extract 5 ((wrap64 ((ji18) - 2)) : Int).toNat)]] (by rfl) rfl rfl (by (try simp only [List.map_toArray, List.map_cons, List.map_nil]); first | done | (simp only [hji18]; rfl) | rfl | (simp only [List.length_drop, List.length_take]; rfl)) ?_
            with_reducible refine (spec_FrameOk.calls ((Int.tmod (wrap64 (Int.tdiv t118 8192)) 2) == 1) ((Int.tmod (wrap64 (Int.tdiv t118 4096)) 2) == 1) (Int.tmod t118 1024) (wrap64 (Int.tdiv t119 1024)) (wrap64 (bt a0 4)) (a0.extract 5 ((wrap64 ((ji18) - 2)) : Int).toNat) true _ A15.out).mono ?_
            rintro e w47 ⟨rfl, hb⟩
            refine ⟨_, rfl, ?_⟩
            have n0_ := m_ (blk_below (g := gb117) (o := .cells #[.bool false, .bool false, .int .i64 0, .int .i64 0, .int .i64 0, .string (⟨#[]⟩ : ByteArray)] 23 (0, 0)) (kN BK117.out) hb)
            have n1_ := m_ (blk_below (kN BK121.out) hb)
            have n2_ := m_ (below_step (bN HB.out) hb)
            clear BK117
            clear BK121
            clear HB
            have BK117 := n0_
            have BK121 := n1_
            have HB := n2_
            clear n0_ n1_ n2_
            (try clear hb)
            (try clear hb2)
            (try clear hk)
            (try clear hi)
            refine hK.out _ _ ⟨(blk_cell BK121.out 0).trans rfl, (blk_cell BK121.out 1).trans rfl, (blk_cell BK121.out 2).trans rfl, (blk_cell BK121.out 3).trans rfl, (blk_cell BK121.out 4).trans rfl, (blk_cell BK121.out 5).trans rfl⟩ (fun hHeld => ?_)
            clear hK K
            refine norm_ (a' := ?_) ?_ ?_
            rotate_left
            ·show Act.put _ (some 51) _ = _
             simp only [Act.put, List.setIfInBounds_toArray, List.set_cons_zero, List.set_cons_succ, i64_w, i32_w]
             rfl
            refine pu 2 52 HT_ (h := ?_)
            refine pu 3 53 HT_ (h := ?_)
            refine pu 6 56 HT_ (h := ?_)
            refine pu 7 57 HT_ (h := ?_)
            refine pu 8 58 HT_ (h := ?_)
            refine take_ (i := 4) (N := some 54) (v := ?_) (a' := ?_) #[true, true, true, true, true, false, true, true, true, false, false] rfl rfl (take_ofW HT_.out HW_.out (by kernel_rfl)) (fun _ _ _ h => h) (Or.inl ⟨by rfl, ?_⟩) hHeld ?_ ?_
            rotate_left
            ·rintro w' ⟨s0, s1, s2, s3, s4, s5⟩
             go_simp
             with_reducible rfl
            rotate_left
            ·simp only [Act.put, List.setIfInBounds_toArray, List.set_cons_zero, List.set_cons_succ, i64_w, i32_w]
             rfl
            refine one_ (i := 5) (N := some 55) #[true, true, true, true, true, true, true, true, true, false, false] rfl rfl (one_of HT_.out (by kernel_rfl)) (by decide) (fun K hK => ?_)
            refine goes_ Try.func17 (by kernel_rfl) rfl #[.agg #[.bool ((Int.tmod (wrap64 (Int.tdiv t118 8192)) 2) == 1), .bool ((Int.tmod (wrap64 (Int.tdiv t118 4096)) 2) == 1), .int .i64 (Int.tmod t118 1024), .int .i64 (wrap64 (Int.tdiv t119 1024)), .int .i64 (wrap64 (bt a0 4)), .string (a0.extract 5 ((wrap64 ((ji18) - 2)) : Int).toNat)]] (by rfl) rfl rfl (by (try simp only [List.map_toArray, List.map_cons, List.map_nil]); first | done | (simp only [hji18]; rfl) | rfl | (simp only [List.length_drop, List.length_take]; rfl)) ?_
            with_reducible refine (spec_l3Put.calls kj1 ((Int.tmod (wrap64 (Int.tdiv t118 8192)) 2) == 1) ((Int.tmod (wrap64 (Int.tdiv t118 4096)) 2) == 1) (Int.tmod t118 1024) (wrap64 (Int.tdiv t119 1024)) (wrap64 (bt a0 4)) (a0.extract 5 ((wrap64 ((ji18) - 2)) : Int).toNat) t123 _ A17.out).mono ?_
            rintro e w48 ⟨rfl, hb⟩
            refine ⟨_, rfl, ?_⟩
            have n0_ := m_ (blk_below (g := gb117) (o := .cells #[.bool false, .bool false, .int .i64 0, .int .i64 0, .int .i64 0, .string (⟨#[]⟩ : ByteArray)] 23 (0, 0)) (kN BK117.out) hb)
            have n1_ := m_ (blk_below (kN BK121.out) hb)
            have n2_ := m_ (below_step (bN HB.out) hb)
            clear BK117
            clear BK121
            clear HB
            have BK117 := n0_
            have BK121 := n1_
            have HB := n2_
            clear n0_ n1_ n2_
            (try clear hb)
            (try clear hb2)
            (try clear hk)
            (try clear hi)
            refine hK.out _ _ ⟨(blk_cell BK121.out 0).trans rfl, (blk_cell BK121.out 1).trans rfl, (blk_cell BK121.out 2).trans rfl, (blk_cell BK121.out 3).trans rfl, (blk_cell BK121.out 4).trans rfl, (blk_cell BK121.out 5).trans rfl⟩ (fun hHeld => ?_)
            clear hK K
            refine norm_ (a' := ?_) ?_ ?_
            rotate_left
            ·show Act.put _ (some 55) _ = _
             simp only [Act.put, List.setIfInBounds_toArray, List.set_cons_zero, List.set_cons_succ, i64_w, i32_w]
             rfl
            refine pu 9 59 HT_ (h := ?_)
            refine pu 10 60 HT_ (h := ?_)
            refine done_ (done_of HT_.out (by kernel_rfl)) ?_
            have hnb49 := NB117_121.out
            have hnc49 := NB121_117.out
            have hcz50_0 : w48.cell? ⟨gb117, 0, none⟩ = some (.bool false) := (blk_cell BK117.out 0).trans rfl
            have hcz50_1 : w48.cell? ⟨gb117, 1, none⟩ = some (.bool false) := (blk_cell BK117.out 1).trans rfl
            have hcz50_2 : w48.cell? ⟨gb117, 2, none⟩ = some (.int .i64 0) := (blk_cell BK117.out 2).trans rfl
            have hcz50_3 : w48.cell? ⟨gb117, 3, none⟩ = some (.int .i64 0) := (blk_cell BK117.out 3).trans rfl
            have hcz50_4 : w48.cell? ⟨gb117, 4, none⟩ = some (.int .i64 0) := (blk_cell BK117.out 4).trans rfl
            have hcz50_5 : w48.cell? ⟨gb117, 5, none⟩ = some (.string (⟨#[]⟩ : ByteArray)) := (blk_cell BK117.out 5).trans rfl
            have hfz50_0 := blk_frozen BK117.out 0
            have hfz50_1 := blk_frozen BK117.out 1
            have hfz50_2 := blk_frozen BK117.out 2
            have hfz50_3 := blk_frozen BK117.out 3
            have hfz50_4 := blk_frozen BK117.out 4
            have hfz50_5 := blk_frozen BK117.out 5
            try go_wp2
            refine bodyPost_ret (results_ct rfl _ _ gb117 23 #[.bool false, .bool false, .int .i64 0, .int .i64 0, .int .i64 0, .string (⟨#[]⟩ : ByteArray)] (0, 0) _ rfl (kP BK117.out) Try.underlying23 rfl (by kernel_rfl)) rfl ?_
            exact ⟨by first | rfl | (simp [errW_none, errW_some] <;> rfl) | (simp only [← hji18]; first | rfl | (simp [errW_none, errW_some] <;> rfl)) | (simp [*, errW_none, errW_some] <;> rfl), by repeat (first | (with_reducible first | exact HB.out | apply below_alloc | apply pw_below_drewN | apply below_drew1 | refine below_set ?_ GE117.out | refine below_set ?_ GE121.out) | exact HB.out)⟩
          ·rw [if_neg c20] at H
           exact absurd H (by simp)
         ·rw [if_neg c19] at H
          exact absurd H (by simp)
        ·replace c16 := Bool.eq_false_iff.mpr c16
         subst c16
         have H1 : (some (false, false, 0, 0, 0, (⟨#[]⟩ : ByteArray), false)) = some (r1, r2, r3, r4, r5, r6, r7) := by rw [if_neg (show ¬ (false = true) by decide)] at H; exact H
         clear H
         have H := H1
         clear H1
         simp only [Option.some.injEq, Prod.mk.injEq] at H
         obtain ⟨rfl, rfl, rfl, rfl, rfl, rfl, rfl⟩ := H
         try go_wp2_with (first | ((with_reducible refine gate_callee (f := 15) rfl ?_); refine goesL_ (some 18) rfl rfl Try.func15 (by kernel_rfl) rfl #[.string a0, .int .i64 0, .int .i64 2] rfl gl_ ?_; (with_reducible refine (spec_l1Get.calls kj1 a0 0 2 t118 _ A7.out).mono ?_); rintro e w' ⟨rfl, ⟨nd, rfl⟩⟩; refine ⟨_, rfl, ?_⟩; (try (rw [drewN_self wc]; generalize hq_ : World.drewN wc _ = wc; have n0_ : Aside0 (wc.heap[gb117]? = some (.cells #[.bool false, .bool false, .int .i64 0, .int .i64 0, .int .i64 0, .string (⟨#[]⟩ : ByteArray)] 23 (0, 0))) := ⟨by rw [← hq_]; exact (kN BK117.out)⟩; have n1_ : Aside0 (Below w.heap.size w wc) := ⟨by rw [← hq_]; exact (bN HB.out)⟩; clear BK117 HB hq_; have BK117 := n0_; have HB := n1_; clear n0_ n1_))) | ((with_reducible refine gate_callee (f := 15) rfl ?_); refine goesL_ (some 20) rfl rfl Try.func15 (by kernel_rfl) rfl #[.string a0, .int .i64 2, .int .i64 2] rfl gl_ ?_; (with_reducible refine (spec_l1Get.calls kj1 a0 2 2 t119 _ A8.out).mono ?_); rintro e w' ⟨rfl, ⟨nd, rfl⟩⟩; refine ⟨_, rfl, ?_⟩; (try (rw [drewN_self wc]; generalize hq_ : World.drewN wc _ = wc; have n0_ : Aside0 (wc.heap[gb117]? = some (.cells #[.bool false, .bool false, .int .i64 0, .int .i64 0, .int .i64 0, .string (⟨#[]⟩ : ByteArray)] 23 (0, 0))) := ⟨by rw [← hq_]; exact (kN BK117.out)⟩; have n1_ : Aside0 (Below w.heap.size w wc) := ⟨by rw [← hq_]; exact (bN HB.out)⟩; clear BK117 HB hq_; have BK117 := n0_; have HB := n1_; clear n0_ n1_))) | ((with_reducible refine gate_callee (f := 16) rfl ?_); refine goesL_ (some 27) rfl rfl Try.func16 (by kernel_rfl) rfl #[.int .i64 (wrap64 ((Int.tmod t119 1024) + 1)), .int .i64 8, .int .i64 (a0.size : Int)] rfl gl_ ?_; (with_reducible refine (spec_l1In.calls (wrap64 ((Int.tmod t119 1024) + 1)) 8 (a0.size : Int) true _ A9.out).mono ?_); rintro e w' ⟨rfl, ⟨nd, rfl⟩⟩; refine ⟨_, rfl, ?_⟩; (try (rw [drewN_self wc]; generalize hq_ : World.drewN wc _ = wc; have n0_ : Aside0 (wc.heap[gb117]? = some (.cells #[.bool false, .bool false, .int .i64 0, .int .i64 0, .int .i64 0, .string (⟨#[]⟩ : ByteArray)] 23 (0, 0))) := ⟨by rw [← hq_]; exact (kN BK117.out)⟩; have n1_ : Aside0 (Below w.heap.size w wc) := ⟨by rw [← hq_]; exact (bN HB.out)⟩; clear BK117 HB hq_; have BK117 := n0_; have HB := n1_; clear n0_ n1_))))
         have n0_ := m_ (blk_drew BK117.out)
         have n1_ := m_ (below_drew1 HB.out)
         clear BK117
         clear HB
         have BK117 := n0_
         have HB := n1_
         clear n0_ n1_
         have p12 : 0 ≤ (4 : Int) := (by omega)
         have q12 : 4 < a0.size := (by have : (4 : Int) < (a0.size : Int) := of_decide_eq_true (by first | (with_reducible assumption) | assumption); omega)
         have hx12 : ∀ h : 4 < a0.size, ((a0[4]'h).toNat : Int) = bt a0 4 := bt_at a0 4
         clear p12
         have qi12 : (4 < (a0.size : Int)) = True := eq_true (of_decide_eq_true (by first | (with_reducible assumption) | assumption))
         replace q12 := eq_true q12
         refine start_ (n := 22) (S := fun w' => True) (ds := []) #[false, false, false, false, false, false, false, false, false, false, false, false, false, false, false, false, false, false, false, false, false, false] (by kernel_rfl) rfl rfl trivial (fun hHeld => ?_); refine with_tabW spec_FrameGet.tab8 spec_FrameGet.bits8 (fun HT_ HW_ => ?_)
         generalize wc.drew = w51 at BK117 HB hHeld ⊢
         refine pu 0 30 HT_ (h := ?_)
         refine pu 1 31 HT_ (h := ?_)
         refine pu 2 32 HT_ (h := ?_)
         refine pu 3 33 HT_ (h := ?_)
         refine pu 4 34 HT_ (h := ?_)
         refine pu 5 35 HT_ (h := ?_)
         refine pu 6 36 HT_ (h := ?_)
         refine pu 7 37 HT_ (h := ?_)
         refine pu 8 38 HT_ (h := ?_)
         refine pu 9 39 HT_ (h := ?_)
         refine pu 10 40 HT_ (h := ?_)
         refine pu 11 41 HT_ (h := ?_)
         refine pu 12 42 HT_ (h := ?_)
         refine pu 15 45 HT_ (h := ?_)
         refine pu 16 46 HT_ (h := ?_)
         refine pu 17 47 HT_ (h := ?_)
         refine pu 18 48 HT_ (h := ?_)
         refine take_ (i := 13) (N := some 43) (v := ?_) (a' := ?_) #[true, true, true, true, true, true, true, true, true, true, true, true, true, true, false, true, true, true, true, false, false, false] rfl rfl (take_ofW HT_.out HW_.out (by kernel_rfl)) (fun _ _ _ h => h) (Or.inl ⟨by rfl, ?_⟩) hHeld ?_ ?_
         rotate_left
         ·intro w' _
          go_simp
          with_reducible rfl
         rotate_left
         ·simp only [Act.put, List.setIfInBounds_toArray, List.set_cons_zero, List.set_cons_succ, i64_w, i32_w]
          rfl
         refine pu 14 44 HT_ (h := ?_)
         refine pu 19 49 HT_ (h := ?_)
         refine one_ (i := 20) (N := some 7) #[true, true, true, true, true, true, true, true, true, true, true, true, true, true, true, true, true, true, true, true, true, false] rfl rfl (one_of HT_.out (by kernel_rfl)) (by decide) (fun K hK => ?_)
         refine box_step ?hg (N := 7) ?hd (cs := #[.bool false, .bool false, .int .i64 0, .int .i64 0, .int .i64 0, .string (⟨#[]⟩ : ByteArray)]) (t := 23) ?hr ?_; (case hd => rfl); (case hg => rfl); (case hr => first | (go_simp; done) | (go_simp; rfl))
         intro gb121 hg w52 hbox hb
         have n0_ := m_ (blk_below (g := gb117) (o := .cells #[.bool false, .bool false, .int .i64 0, .int .i64 0, .int .i64 0, .string (⟨#[]⟩ : ByteArray)] 23 (0, 0)) (kN BK117.out) hb)
         have n1_ := m_ (below_step (bN HB.out) hb)
         have n2_ := m_ (hbox)
         have n3_ := m_ ((by rw [hg]; exact (below_size (bN HB.out)) : w.heap.size ≤ gb121))
         have n4_ := m_ ((by rw [hg]; exact (below_size (bN HB.out)) : w.heap.size ≤ gb121))
         have n5_ := m_ ((by rw [hg]; exact Nat.ne_of_lt (blk_lt (g := gb117) (o := .cells #[.bool false, .bool false, .int .i64 0, .int .i64 0, .int .i64 0, .string (⟨#[]⟩ : ByteArray)] 23 (0, 0)) (kN BK117.out)) : gb117 ≠ gb121))
         have n6_ := m_ ((by rw [hg]; exact Nat.ne_of_gt (blk_lt (g := gb117) (o := .cells #[.bool false, .bool false, .int .i64 0, .int .i64 0, .int .i64 0, .string (⟨#[]⟩ : ByteArray)] 23 (0, 0)) (kN BK117.out)) : gb121 ≠ gb117))
         clear BK117
         clear HB
         have BK117 := n0_
         have HB := n1_
         have BK121 := n2_
         have GW121 := n3_
         have GE121 := n4_
         have NB117_121 := n5_
         have NB121_117 := n6_
         clear n0_ n1_ n2_ n3_ n4_ n5_ n6_
         clear hb hbox hg
         refine hK.out _ _ trivial (fun hHeld => ?_)
         clear hK K
         refine norm_ (a' := ?_) ?_ ?_
         rotate_left
         ·show Act.put _ (some 7) _ = _
          simp only [Act.put, List.setIfInBounds_toArray, List.set_cons_zero, List.set_cons_succ, i64_w, i32_w]
          rfl
         refine one_ (i := 21) (N := none) #[true, true, true, true, true, true, true, true, true, true, true, true, true, true, true, true, true, true, true, true, true, true] rfl rfl (one_of HT_.out (by kernel_rfl)) (by decide) (fun K hK => ?_)
         have hs53 : w52.cell? ⟨gb121, 0, none⟩ = some (.bool false) := (blk_cell BK121.out 0).trans rfl
         have hfs53 := blk_frozen BK121.out 0
         have hns53_0 := NB117_121.out
         have hms53_0 := NB121_117.out
         have hs54 : w52.cell? ⟨gb121, 1, none⟩ = some (.bool false) := (blk_cell BK121.out 1).trans rfl
         have hfs54 := blk_frozen BK121.out 1
         have hns54_0 := NB117_121.out
         have hms54_0 := NB121_117.out
         have hs55 : w52.cell? ⟨gb121, 2, none⟩ = some (.int .i64 0) := (blk_cell BK121.out 2).trans rfl
         have hfs55 := blk_frozen BK121.out 2
         have hns55_0 := NB117_121.out
         have hms55_0 := NB121_117.out
         have hs56 : w52.cell? ⟨gb121, 3, none⟩ = some (.int .i64 0) := (blk_cell BK121.out 3).trans rfl
         have hfs56 := blk_frozen BK121.out 3
         have hns56_0 := NB117_121.out
         have hms56_0 := NB121_117.out
         have hs57 : w52.cell? ⟨gb121, 4, none⟩ = some (.int .i64 0) := (blk_cell BK121.out 4).trans rfl
         have hfs57 := blk_frozen BK121.out 4
         have hns57_0 := NB117_121.out
         have hms57_0 := NB121_117.out
         have hs58 : w52.cell? ⟨gb121, 5, none⟩ = some (.string (⟨#[]⟩ : ByteArray)) := (blk_cell BK121.out 5).trans rfl
         have hfs58 := blk_frozen BK121.out 5
         have hns58_0 := NB117_121.out
         have hms58_0 := NB121_117.out
         refine skip_ (w1 := ?_) (by rfl) rfl ?_ ?_
         rotate_left
         ·go_simp
          rfl
         refine hK.out _ _ trivial (fun hHeld => ?_)
         clear hK K
         refine done_ (done_of HT_.out (by kernel_rfl)) ?_
         try go_wp2
         have n0_ : Aside0 (((((((w52.setCell ⟨gb121, 0, none⟩ (.bool ((Int.tmod (wrap64 (Int.tdiv t118 8192)) 2) == 1))).setCell ⟨gb121, 1, none⟩ (.bool ((Int.tmod (wrap64 (Int.tdiv t118 4096)) 2) == 1))).setCell ⟨gb121, 2, none⟩ (.int .i64 (Int.tmod t118 1024))).setCell ⟨gb121, 3, none⟩ (.int .i64 (wrap64 (Int.tdiv t119 1024)))).setCell ⟨gb121, 4, none⟩ (.int .i64 (wrap64 (bt a0 4)))).setCell ⟨gb121, 5, none⟩ (.string (a0.extract 5 ((wrap64 ((wrap64 ((Int.tmod t119 1024) + 1)) - 2)) : Int).toNat))).heap[gb117]? = some (.cells #[.bool false, .bool false, .int .i64 0, .int .i64 0, .int .i64 0, .string (⟨#[]⟩ : ByteArray)] 23 (0, 0))) := ⟨kF BK117.out NB117_121.out⟩
         have n1_ : Aside0 (((((((w52.setCell ⟨gb121, 0, none⟩ (.bool ((Int.tmod (wrap64 (Int.tdiv t118 8192)) 2) == 1))).setCell ⟨gb121, 1, none⟩ (.bool ((Int.tmod (wrap64 (Int.tdiv t118 4096)) 2) == 1))).setCell ⟨gb121, 2, none⟩ (.int .i64 (Int.tmod t118 1024))).setCell ⟨gb121, 3, none⟩ (.int .i64 (wrap64 (Int.tdiv t119 1024)))).setCell ⟨gb121, 4, none⟩ (.int .i64 (wrap64 (bt a0 4)))).setCell ⟨gb121, 5, none⟩ (.string (a0.extract 5 ((wrap64 ((wrap64 ((Int.tmod t119 1024) + 1)) - 2)) : Int).toNat))).heap[gb121]? = some (.cells #[.bool ((Int.tmod (wrap64 (Int.tdiv t118 8192)) 2) == 1), .bool ((Int.tmod (wrap64 (Int.tdiv t118 4096)) 2) == 1), .int .i64 (Int.tmod t118 1024), .int .i64 (wrap64 (Int.tdiv t119 1024)), .int .i64 (wrap64 (bt a0 4)), .string (a0.extract 5 ((wrap64 ((wrap64 ((Int.tmod t119 1024) + 1)) - 2)) : Int).toNat)] 23 (0, 0))) := ⟨kP BK121.out⟩
         have n2_ : Aside0 (Below w.heap.size w ((((((w52.setCell ⟨gb121, 0, none⟩ (.bool ((Int.tmod (wrap64 (Int.tdiv t118 8192)) 2) == 1))).setCell ⟨gb121, 1, none⟩ (.bool ((Int.tmod (wrap64 (Int.tdiv t118 4096)) 2) == 1))).setCell ⟨gb121, 2, none⟩ (.int .i64 (Int.tmod t118 1024))).setCell ⟨gb121, 3, none⟩ (.int .i64 (wrap64 (Int.tdiv t119 1024)))).setCell ⟨gb121, 4, none⟩ (.int .i64 (wrap64 (bt a0 4)))).setCell ⟨gb121, 5, none⟩ (.string (a0.extract 5 ((wrap64 ((wrap64 ((Int.tmod t119 1024) + 1)) - 2)) : Int).toNat)))) := ⟨by repeat (first | (with_reducible first | exact HB.out | apply below_alloc | apply pw_below_drewN | apply below_drew1 | refine below_set ?_ GE117.out | refine below_set ?_ GE121.out) | exact HB.out)⟩
         (try clear BK117)
         (try clear BK121)
         (try clear HB)
         generalize ((((((w52.setCell ⟨gb121, 0, none⟩ (.bool ((Int.tmod (wrap64 (Int.tdiv t118 8192)) 2) == 1))).setCell ⟨gb121, 1, none⟩ (.bool ((Int.tmod (wrap64 (Int.tdiv t118 4096)) 2) == 1))).setCell ⟨gb121, 2, none⟩ (.int .i64 (Int.tmod t118 1024))).setCell ⟨gb121, 3, none⟩ (.int .i64 (wrap64 (Int.tdiv t119 1024)))).setCell ⟨gb121, 4, none⟩ (.int .i64 (wrap64 (bt a0 4)))).setCell ⟨gb121, 5, none⟩ (.string (a0.extract 5 ((wrap64 ((wrap64 ((Int.tmod t119 1024) + 1)) - 2)) : Int).toNat))) = w59 at n0_ n1_ n2_ ⊢
         have BK117 := n0_
         have BK121 := n1_
         have HB := n2_
         clear n0_ n1_ n2_
         have n0_ := m_ (blk_drew BK117.out)
         have n1_ := m_ (blk_drew BK121.out)
         have n2_ := m_ (below_drew1 HB.out)
         clear BK117
         clear BK121
         clear HB
         have BK117 := n0_
         have BK121 := n1_
         have HB := n2_
         clear n0_ n1_ n2_
         refine start_ (n := 11) (S := fun w' => w'.cell? ⟨gb121, 0, none⟩ = some (.bool ((Int.tmod (wrap64 (Int.tdiv t118 8192)) 2) == 1)) ∧ w'.cell? ⟨gb121, 1, none⟩ = some (.bool ((Int.tmod (wrap64 (Int.tdiv t118 4096)) 2) == 1)) ∧ w'.cell? ⟨gb121, 2, none⟩ = some (.int .i64 (Int.tmod t118 1024)) ∧ w'.cell? ⟨gb121, 3, none⟩ = some (.int .i64 (wrap64 (Int.tdiv t119 1024))) ∧ w'.cell? ⟨gb121, 4, none⟩ = some (.int .i64 (wrap64 (bt a0 4))) ∧ w'.cell? ⟨gb121, 5, none⟩ = some (.string (a0.extract 5 ((wrap64 ((wrap64 ((Int.tmod t119 1024) + 1)) - 2)) : Int).toNat))) (ds := []) #[false, false, false, false, false, false, false, false, false, false, false] (by kernel_rfl) rfl rfl ⟨(blk_cell BK121.out 0).trans rfl, (blk_cell BK121.out 1).trans rfl, (blk_cell BK121.out 2).trans rfl, (blk_cell BK121.out 3).trans rfl, (blk_cell BK121.out 4).trans rfl, (blk_cell BK121.out 5).trans rfl⟩ (fun hHeld => ?_); refine with_tabW spec_FrameGet.tab9 spec_FrameGet.bits9 (fun HT_ HW_ => ?_)
         generalize w59.drew = w60 at BK117 BK121 HB hHeld ⊢
         refine take_ (i := 0) (N := some 50) (v := ?_) (a' := ?_) #[true, false, false, false, false, false, false, false, false, false, false] rfl rfl (take_ofW HT_.out HW_.out (by kernel_rfl)) (fun _ _ _ h => h) (Or.inl ⟨by rfl, ?_⟩) hHeld ?_ ?_
         rotate_left
         ·rintro w' ⟨s0, s1, s2, s3, s4, s5⟩
          go_simp
          with_reducible rfl
         rotate_left
         ·simp only [Act.put, List.setIfInBounds_toArray, List.set_cons_zero, List.set_cons_succ, i64_w, i32_w]
          rfl
         refine one_ (i := 1) (N := some 51) #[true, true, false, false, false, false, false, false, false, false, false] rfl rfl (one_of HT_.out (by kernel_rfl)) (by decide) (fun K hK => ?_)
         refine goes_ Try.func13 (by kernel_rfl) rfl #[.agg #[.bool ((Int.tmod (wrap64 (Int.tdiv t118 8192)) 2) == 1), .bool ((Int.tmod (wrap64 (Int.tdiv t118 4096)) 2) == 1), .int .i64 (Int.tmod t118 1024), .int .i64 (wrap64 (Int.tdiv t119 1024)), .int .i64 (wrap64 (bt a0 4)), .string (a0.extract 5 ((wrap64 ((wrap64 ((Int.tmod t119 1024) + 1)) - 2)) : Int).toNat)]] (by rfl) rfl rfl gl_ ?_
         with_reducible refine (spec_FrameOk.calls ((Int.tmod (wrap64 (Int.tdiv t118 8192)) 2) == 1) ((Int.tmod (wrap64 (Int.tdiv t118 4096)) 2) == 1) (Int.tmod t118 1024) (wrap64 (Int.tdiv t119 1024)) (wrap64 (bt a0 4)) (a0.extract 5 ((wrap64 ((wrap64 ((Int.tmod t119 1024) + 1)) - 2)) : Int).toNat) false _ A15.out).mono ?_
         rintro e w61 ⟨rfl, hb⟩
         refine ⟨_, rfl, ?_⟩
         have n0_ := m_ (blk_below (g := gb117) (o := .cells #[.bool false, .bool false, .int .i64 0, .int .i64 0, .int .i64 0, .string (⟨#[]⟩ : ByteArray)] 23 (0, 0)) (kN BK117.out) hb)
         have n1_ := m_ (blk_below (kN BK121.out) hb)
         have n2_ := m_ (below_step (bN HB.out) hb)
         clear BK117
         clear BK121
         clear HB
         have BK117 := n0_
         have BK121 := n1_
         have HB := n2_
         clear n0_ n1_ n2_
         (try clear hb)
         (try clear hb2)
         (try clear hk)
         (try clear hi)
         refine hK.out _ _ ⟨(blk_cell BK121.out 0).trans rfl, (blk_cell BK121.out 1).trans rfl, (blk_cell BK121.out 2).trans rfl, (blk_cell BK121.out 3).trans rfl, (blk_cell BK121.out 4).trans rfl, (blk_cell BK121.out 5).trans rfl⟩ (fun hHeld => ?_)
         clear hK K
         refine norm_ (a' := ?_) ?_ ?_
         rotate_left
         ·show Act.put _ (some 51) _ = _
          simp only [Act.put, List.setIfInBounds_toArray, List.set_cons_zero, List.set_cons_succ, i64_w, i32_w]
          rfl
         refine pu 2 52 HT_ (h := ?_)
         refine pu 3 53 HT_ (h := ?_)
         refine pv 4 54 HT_ (h := ?_)
         refine pv 5 55 HT_ (h := ?_)
         refine pv 6 56 HT_ (h := ?_)
         refine pv 7 57 HT_ (h := ?_)
         refine pv 8 58 HT_ (h := ?_)
         refine pv 9 59 HT_ (h := ?_)
         refine pu 10 60 HT_ (h := ?_)
         refine done_ (done_of HT_.out (by kernel_rfl)) ?_
         have hnb62 := NB117_121.out
         have hnc62 := NB121_117.out
         have hcz63_0 : w61.cell? ⟨gb117, 0, none⟩ = some (.bool false) := (blk_cell BK117.out 0).trans rfl
         have hcz63_1 : w61.cell? ⟨gb117, 1, none⟩ = some (.bool false) := (blk_cell BK117.out 1).trans rfl
         have hcz63_2 : w61.cell? ⟨gb117, 2, none⟩ = some (.int .i64 0) := (blk_cell BK117.out 2).trans rfl
         have hcz63_3 : w61.cell? ⟨gb117, 3, none⟩ = some (.int .i64 0) := (blk_cell BK117.out 3).trans rfl
         have hcz63_4 : w61.cell? ⟨gb117, 4, none⟩ = some (.int .i64 0) := (blk_cell BK117.out 4).trans rfl
         have hcz63_5 : w61.cell? ⟨gb117, 5, none⟩ = some (.string (⟨#[]⟩ : ByteArray)) := (blk_cell BK117.out 5).trans rfl
         have hfz63_0 := blk_frozen BK117.out 0
         have hfz63_1 := blk_frozen BK117.out 1
         have hfz63_2 := blk_frozen BK117.out 2
         have hfz63_3 := blk_frozen BK117.out 3
         have hfz63_4 := blk_frozen BK117.out 4
         have hfz63_5 := blk_frozen BK117.out 5
         try go_wp2
         refine bodyPost_ret (results_ct rfl _ _ gb117 23 #[.bool false, .bool false, .int .i64 0, .int .i64 0, .int .i64 0, .string (⟨#[]⟩ : ByteArray)] (0, 0) _ rfl (kP BK117.out) Try.underlying23 rfl (by kernel_rfl)) rfl ?_
         exact ⟨by first | rfl | (simp [errW_none, errW_some] <;> rfl) | (simp [*, errW_none, errW_some] <;> rfl), by repeat (first | (with_reducible first | exact HB.out | apply below_alloc | apply pw_below_drewN | apply below_drew1 | refine below_set ?_ GE117.out | refine below_set ?_ GE121.out) | exact HB.out)⟩
       ·rw [if_neg c14] at H
        exact absurd H (by simp)
      ·rw [if_neg c13] at H
       exact absurd H (by simp)
     ·rw [if_neg c11] at H
      exact absurd H (by simp)
    ·replace c10 := Bool.eq_false_iff.mpr c10
     subst c10
     have H1 : (some (false, false, 0, 0, 0, (⟨#[]⟩ : ByteArray), false)) = some (r1, r2, r3, r4, r5, r6, r7) := by rw [if_neg (show ¬ (false = true) by decide)] at H; exact H
     clear H
     have H := H1
     clear H1
     simp only [Option.some.injEq, Prod.mk.injEq] at H
     obtain ⟨rfl, rfl, rfl, rfl, rfl, rfl, rfl⟩ := H
     go_wp2_with (first | ((with_reducible refine gate_callee (f := 15) rfl ?_); refine goesL_ (some 18) rfl rfl Try.func15 (by kernel_rfl) rfl #[.string a0, .int .i64 0, .int .i64 2] rfl gl_ ?_; (with_reducible refine (spec_l1Get.calls kj1 a0 0 2 t118 _ A7.out).mono ?_); rintro e w' ⟨rfl, ⟨nd, rfl⟩⟩; refine ⟨_, rfl, ?_⟩; (try (rw [drewN_self wc]; generalize hq_ : World.drewN wc _ = wc; have n0_ : Aside0 (wc.heap[gb117]? = some (.cells #[.bool false, .bool false, .int .i64 0, .int .i64 0, .int .i64 0, .string (⟨#[]⟩ : ByteArray)] 23 (0, 0))) := ⟨by rw [← hq_]; exact (kN BK117.out)⟩; have n1_ : Aside0 (Below w.heap.size w wc) := ⟨by rw [← hq_]; exact (bN HB.out)⟩; clear BK117 HB hq_; have BK117 := n0_; have HB := n1_; clear n0_ n1_))) | ((with_reducible refine gate_callee (f := 15) rfl ?_); refine goesL_ (some 20) rfl rfl Try.func15 (by kernel_rfl) rfl #[.string a0, .int .i64 2, .int .i64 2] rfl gl_ ?_; (with_reducible refine (spec_l1Get.calls kj1 a0 2 2 t119 _ A8.out).mono ?_); rintro e w' ⟨rfl, ⟨nd, rfl⟩⟩; refine ⟨_, rfl, ?_⟩; (try (rw [drewN_self wc]; generalize hq_ : World.drewN wc _ = wc; have n0_ : Aside0 (wc.heap[gb117]? = some (.cells #[.bool false, .bool false, .int .i64 0, .int .i64 0, .int .i64 0, .string (⟨#[]⟩ : ByteArray)] 23 (0, 0))) := ⟨by rw [← hq_]; exact (kN BK117.out)⟩; have n1_ : Aside0 (Below w.heap.size w wc) := ⟨by rw [← hq_]; exact (bN HB.out)⟩; clear BK117 HB hq_; have BK117 := n0_; have HB := n1_; clear n0_ n1_))) | ((with_reducible refine gate_callee (f := 16) rfl ?_); refine goesL_ (some 27) rfl rfl Try.func16 (by kernel_rfl) rfl #[.int .i64 (wrap64 ((Int.tmod t119 1024) + 1)), .int .i64 8, .int .i64 (a0.size : Int)] rfl gl_ ?_; (with_reducible refine (spec_l1In.calls (wrap64 ((Int.tmod t119 1024) + 1)) 8 (a0.size : Int) false _ A9.out).mono ?_); rintro e w' ⟨rfl, ⟨nd, rfl⟩⟩; refine ⟨_, rfl, ?_⟩; (try (rw [drewN_self wc]; generalize hq_ : World.drewN wc _ = wc; have n0_ : Aside0 (wc.heap[gb117]? = some (.cells #[.bool false, .bool false, .int .i64 0, .int .i64 0, .int .i64 0, .string (⟨#[]⟩ : ByteArray)] 23 (0, 0))) := ⟨by rw [← hq_]; exact (kN BK117.out)⟩; have n1_ : Aside0 (Below w.heap.size w wc) := ⟨by rw [← hq_]; exact (bN HB.out)⟩; clear BK117 HB hq_; have BK117 := n0_; have HB := n1_; clear n0_ n1_)); have hcz64_0 : wc.cell? ⟨gb117, 0, none⟩ = some (.bool false) := (blk_cell BK117.out 0).trans rfl; have hcz64_1 : wc.cell? ⟨gb117, 1, none⟩ = some (.bool false) := (blk_cell BK117.out 1).trans rfl; have hcz64_2 : wc.cell? ⟨gb117, 2, none⟩ = some (.int .i64 0) := (blk_cell BK117.out 2).trans rfl; have hcz64_3 : wc.cell? ⟨gb117, 3, none⟩ = some (.int .i64 0) := (blk_cell BK117.out 3).trans rfl; have hcz64_4 : wc.cell? ⟨gb117, 4, none⟩ = some (.int .i64 0) := (blk_cell BK117.out 4).trans rfl; have hcz64_5 : wc.cell? ⟨gb117, 5, none⟩ = some (.string (⟨#[]⟩ : ByteArray)) := (blk_cell BK117.out 5).trans rfl; have hfz64_0 := blk_frozen BK117.out 0; have hfz64_1 := blk_frozen BK117.out 1; have hfz64_2 := blk_frozen BK117.out 2; have hfz64_3 := blk_frozen BK117.out 3; have hfz64_4 := blk_frozen BK117.out 4; have hfz64_5 := blk_frozen BK117.out 5))
     refine bodyPost_ret (results_ct rfl _ _ gb117 23 #[.bool false, .bool false, .int .i64 0, .int .i64 0, .int .i64 0, .string (⟨#[]⟩ : ByteArray)] (0, 0) _ rfl (kP BK117.out) Try.underlying23 rfl (by kernel_rfl)) rfl ?_
     exact ⟨by first | rfl | (simp [errW_none, errW_some] <;> rfl) | (simp [*, errW_none, errW_some] <;> rfl), by repeat (first | (with_reducible first | exact HB.out | apply below_alloc | apply pw_below_drewN | apply below_drew1 | refine below_set ?_ GE117.out) | exact HB.out)⟩

end Go.Proofs.Ytocmkmcjolbniaa.P
