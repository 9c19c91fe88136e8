/- The machine side of these statements, function by function: what each Go function answers (as a Lean function), and that it does. Written by a program (mp.py) for this claim. -/
import Derived.Test.YtlfhbpofboicbaaPx0
import Derived.Test.YtlfhbpofboicbaaPx2
import Derived.Test.YtlfhbpofboicbaaPx4
import Derived.Test.YtlfhbpofboicbaaPx8
import Derived.Test.YtlfhbpofboicbaaPx9
namespace Go.Proofs.Ytlfhbpofboicbaa.P
open Go.RowKit Go.Proofs.YtlfhbpofboicbaaW.PrintWords Go.Proofs.YtlfhbpofboicbaaW.PrintLast Go.Proofs.YtlfhbpofboicbaaW.PrintMore
attribute [local go_sem] max2_int min2_int max_two min_two max_three min_three max_four min_four   -- for this text's walks alone
set_option linter.unusedVariables false
set_option linter.unusedSimpArgs false

/-! ### spec_l1Get: function 21 -/
def spec_l1Get.l0 : Nat → ByteArray → Int → Int → Int → Int → Option (Int)
 | 0, _, _, _, _, _ => none
 | k + 1, x0, x1, x2, x7, x8 => if x8 < x2 then (if 0 ≤ (wrap64 (x1 + x8)) then (if (wrap64 (x1 + x8)) < (x0.size : Int) then (spec_l1Get.l0 k x0 x1 x2 (wrap64 ((wrap64 (x7 * 256)) + (wrap64 (bt x0 (wrap64 (x1 + x8)))))) (wrap64 (x8 + 1))) else (none)) else (none)) else (some x7)
def spec_l1Get.f (k : Nat) (a0 : ByteArray) (a1 : Int) (a2 : Int) : Option (Int) := spec_l1Get.l0 k a0 a1 a2 0 0
theorem spec_l1Get.mono_l : ∀ k, (∀ y0 y1 y2 y3 y4, LeO (spec_l1Get.l0 k y0 y1 y2 y3 y4) (spec_l1Get.l0 (k + 1) y0 y1 y2 y3 y4))
 | 0 => fun _ _ _ _ _ r h => by simp [spec_l1Get.l0] at h
 | k + 1 => by
  have ih0 := spec_l1Get.mono_l k
  ·intro y0 y1 y2 y3 y4
   unfold spec_l1Get.l0
   repeat' first
   | (with_reducible exact ih0 _ _ _ _ _)
   | (with_reducible exact LeO.refl _)
   | (with_reducible exact LeO.none _)
   | (with_reducible refine LeO.ite ?_ ?_)
   | (with_reducible refine LeO.bind ?_ (fun _ => ?_))
   | exact ih0 _ _ _ _ _
   | exact LeO.none _
   | refine LeO.ite ?_ ?_
   | refine LeO.bind ?_ (fun _ => ?_)
theorem spec_l1Get.mono : ∀ a0 a1 a2 k, LeO (spec_l1Get.f k a0 a1 a2) (spec_l1Get.f (k + 1) a0 a1 a2) := by
 intro a0 a1 a2 k
 have ih0 := spec_l1Get.mono_l k
 unfold spec_l1Get.f
 repeat' first
   | (with_reducible exact ih0 _ _ _ _ _)
   | (with_reducible exact LeO.refl _)
   | (with_reducible exact LeO.none _)
   | (with_reducible refine LeO.ite ?_ ?_)
   | (with_reducible refine LeO.bind ?_ (fun _ => ?_))
   | exact ih0 _ _ _ _ _
   | exact LeO.none _
   | refine LeO.ite ?_ ?_
   | refine LeO.bind ?_ (fun _ => ?_)
set_option maxHeartbeats 8000000 in
set_option maxRecDepth 100000 in
theorem spec_l1Get.calls (k : Nat) (a0 : ByteArray) (a1 : Int) (a2 : Int) (r : Int) (w : World) (h : spec_l1Get.f k a0 a1 a2 = some r) :
  Calls Try.prog 21 #[.string a0, .int .i64 a1, .int .i64 a2] w fun e w' => e = .returned (.int .i64 r) ∧ Drawn0 w w' := by
 have H : (spec_l1Get.l0 k a0 a1 a2 0 0) = some r := h
 clear h
 have H' := Aside0.mk H
 clear H
 go_enter Try.func21, Try.ntmps21
 go_wp2
 go_loopg [7, 8] k (fun kq v7 v8 w' => ∃ (x7_1 : Int) (x8_1 : Int), v7 = .int .i64 x7_1 ∧ v8 = .int .i64 x8_1 ∧ Aside0 (spec_l1Get.l0 kq a0 a1 a2 x7_1 x8_1 = some r) ∧ Aside0 (kq ≤ k) ∧ Drawn0 w w')
 case atStart => exact ⟨(0), (0), (by first | rfl | (simp; done) | (simp [*]; done)), (by first | rfl | (simp; done) | (simp [*]; done)), H', ⟨Nat.le_refl _⟩, by repeat (first | exact Drawn0.refl _ | apply Drawn0.step)⟩
 case round =>
  clear H'
  try clear c2
  try clear p2
  obtain ⟨x7_1, x8_1, rfl, rfl, HA, HK1, ⟨m1, rfl⟩⟩ := hrel
  cases gk with
  | zero => exact absurd HA.out (by simp [spec_l1Get.l0])
  | succ k1 =>
   have H := HA.out
   clear HA
   simp only [spec_l1Get.l0] at H
   by_cases c4 : x8_1 < a2
   ·rw [if_pos c4] at H
    have c4b0 : decide (x8_1 < a2) = true := decide_eq_true c4
    clear c4
    obtain ⟨ji5, hji5⟩ : ∃ j_ : Int, (wrap64 (a1 + x8_1)) = j_ := ⟨_, rfl⟩
    replace H : (if 0 ≤ (ji5) then (if (ji5) < (a0.size : Int) then (spec_l1Get.l0 k1 a0 a1 a2 (wrap64 ((wrap64 (x7_1 * 256)) + (wrap64 (bt a0 (ji5))))) (wrap64 (x8_1 + 1))) else (none)) else (none)) = some r := by first | (rw [hji5] at H; exact H) | (simp only [hji5] at H ⊢; exact H)
    have hji5w : (IntKind.i64.wrap (a1 + x8_1)) = ji5 := (i64_w _).trans hji5
    by_cases c6 : 0 ≤ (ji5)
    ·rw [if_pos c6] at H
     have c6b0 : decide (0 ≤ (ji5)) = true := decide_eq_true c6
     clear c6
     by_cases c7 : (ji5) < (a0.size : Int)
     ·rw [if_pos c7] at H
      have c7b0 : decide ((ji5) < (a0.size : Int)) = true := decide_eq_true c7
      clear c7
      have H' := Aside0.mk H
      clear H
      have p8 : 0 ≤ ((ji5) : Int) := of_decide_eq_true (by first | (with_reducible assumption) | assumption)
      have q8 : (ji5) < (a0.size : Int) := of_decide_eq_true (by first | (with_reducible assumption) | assumption)
      have hx8 := bt_at a0 (ji5)
      replace p8 := eq_true p8
      replace q8 := eq_true q8
      go_wp2
      go_roundg k1
      case measure => have := HK1.out; omega
      case rel => exact ⟨(wrap64 ((wrap64 (x7_1 * 256)) + (wrap64 (bt a0 (ji5))))), (wrap64 (x8_1 + 1)), (by first | rfl | (simp; done) | (simp only [← hji5] <;> (first | rfl | simp)) | (simp [*]; done)), (by first | rfl | (simp; done) | (simp [*]; done)), H', ⟨by have := HK1.out; omega⟩, by repeat (first | exact Drawn0.refl _ | apply Drawn0.step)⟩
     ·rw [if_neg c7] at H
      exact absurd H (by simp)
    ·rw [if_neg c6] at H
     exact absurd H (by simp)
   ·rw [if_neg c4] at H
    have c4b0 : decide (x8_1 < a2) = false := decide_eq_false c4
    clear c4
    obtain rfl := Option.some.inj H
    go_wp2
    go_ret
    exact ⟨by first | rfl | (simp; done) | (simp [*]; done), by repeat (first | exact Drawn0.refl _ | apply Drawn0.step)⟩

/-! ### spec_DownGet: function 11 -/
def spec_DownGet.f (k : Nat) (a0 : ByteArray) : Option (Int × Int × Int × Int × Int × ByteArray × ByteArray × Bool) := if (a0.size : Int) = 40 then ((spec_l1Get.f k a0 0 2).bind fun t179 => (if 2 < (a0.size : Int) then (if 3 < (a0.size : Int) then ((spec_l1Get.f k a0 4 2).bind fun t180 => (if 6 ≤ 34 then (if 34 ≤ (a0.size : Int) then (if 34 ≤ 38 then (if 38 ≤ (a0.size : Int) then ((spec_DownPut.f k (Int.tmod (wrap64 (Int.tdiv t179 16)) 1024) (Int.tmod (wrap64 (Int.tdiv t179 2)) 8) (wrap64 (bt a0 2)) (wrap64 (bt a0 3)) (Int.tmod t180 2048) (a0.extract 6 34) (a0.extract 34 38)).bind fun t182 => (if t182.toList = a0.toList then (some (Int.tmod (wrap64 (Int.tdiv t179 16)) 1024, Int.tmod (wrap64 (Int.tdiv t179 2)) 8, wrap64 (bt a0 2), wrap64 (bt a0 3), Int.tmod t180 2048, a0.extract 6 34, a0.extract 34 38, true)) else (some (0, 0, 0, 0, 0, (⟨#[]⟩ : ByteArray), (⟨#[]⟩ : ByteArray), false)))) else (none)) else (none)) else (none)) else (none))) else (none)) else (none))) else (some (0, 0, 0, 0, 0, (⟨#[]⟩ : ByteArray), (⟨#[]⟩ : ByteArray), false))
theorem spec_DownGet.mono : ∀ a0 k, LeO (spec_DownGet.f k a0) (spec_DownGet.f (k + 1) a0) := by
 intro a0 k
 unfold spec_DownGet.f
 repeat' first
   | (with_reducible exact spec_DownPut.mono _ _ _ _ _ _ _ _)
   | (with_reducible exact spec_l1Get.mono _ _ _ _)
   | (with_reducible exact LeO.refl _)
   | (with_reducible exact LeO.none _)
   | (with_reducible refine LeO.ite ?_ ?_)
   | (with_reducible refine LeO.bind ?_ (fun _ => ?_))
   | exact spec_DownPut.mono _ _ _ _ _ _ _ _
   | exact spec_l1Get.mono _ _ _ _
   | exact LeO.none _
   | refine LeO.ite ?_ ?_
   | refine LeO.bind ?_ (fun _ => ?_)
def spec_DownGet.T4 : Bool × List (List Nat × List Nat) := (true, [([], []), ([0], [0]), ([1], [1]), ([], []), ([3], [3]), ([4], [4]), ([], []), ([6], [6]), ([7], [7]), ([], []), ([9], [9]), ([10], [10]), ([], []), ([12], [12]), ([13], [13]), ([], []), ([15], [15]), ([], []), ([17], [17]), ([2, 5, 8, 11, 14, 16, 18], [2, 5, 8, 11, 14, 16, 18]), ([], []), ([20, 19, 13, 0, 1, 2, 3, 4, 5, 6, 7, 8, 9, 10, 11, 12, 13, 14, 15, 16, 17, 18, 19, 20], [19, 20])])
def spec_DownGet.B4 : List Nat := [0, 1, 3, 0, 8, 24, 0, 64, 192, 0, 512, 1536, 0, 4096, 12288, 0, 32768, 0, 131072, 524287, 0, 2097151]
theorem spec_DownGet.tab4 : rtab .any (opsOf Try.f11 4) = spec_DownGet.T4 := by kernel_rfl
theorem spec_DownGet.bits4 : waitsOk spec_DownGet.T4.2 spec_DownGet.B4 = true := by kernel_rfl
set_option maxHeartbeats 8000000 in
set_option maxRecDepth 100000 in
theorem spec_DownGet.calls (k : Nat) (a0 : ByteArray) (r1 : Int) (r2 : Int) (r3 : Int) (r4 : Int) (r5 : Int) (r6 : ByteArray) (r7 : ByteArray) (r8 : Bool) (w : World) (h : spec_DownGet.f k a0 = some (r1, r2, r3, r4, r5, r6, r7, r8)) :
  Calls Try.prog 11 #[.string a0] w fun e w' => e = .returned (.tuple #[.agg #[.int .i64 r1, .int .i64 r2, .int .i64 r3, .int .i64 r4, .int .i64 r5, .string r6, .string r7], .bool r8]) ∧ Below w.heap.size w w' := by
 have hu26 := Try.underlying26
 have HB := m_ (Below.refl w.heap.size w)
 have H : (if (a0.size : Int) = 40 then ((spec_l1Get.f k a0 0 2).bind fun t179 => (if 2 < (a0.size : Int) then (if 3 < (a0.size : Int) then ((spec_l1Get.f k a0 4 2).bind fun t180 => (if 6 ≤ 34 then (if 34 ≤ (a0.size : Int) then (if 34 ≤ 38 then (if 38 ≤ (a0.size : Int) then ((spec_DownPut.f k (Int.tmod (wrap64 (Int.tdiv t179 16)) 1024) (Int.tmod (wrap64 (Int.tdiv t179 2)) 8) (wrap64 (bt a0 2)) (wrap64 (bt a0 3)) (Int.tmod t180 2048) (a0.extract 6 34) (a0.extract 34 38)).bind fun t182 => (if t182.toList = a0.toList then (some (Int.tmod (wrap64 (Int.tdiv t179 16)) 1024, Int.tmod (wrap64 (Int.tdiv t179 2)) 8, wrap64 (bt a0 2), wrap64 (bt a0 3), Int.tmod t180 2048, a0.extract 6 34, a0.extract 34 38, true)) else (some (0, 0, 0, 0, 0, (⟨#[]⟩ : ByteArray), (⟨#[]⟩ : ByteArray), false)))) else (none)) else (none)) else (none)) else (none))) else (none)) else (none))) else (some (0, 0, 0, 0, 0, (⟨#[]⟩ : ByteArray), (⟨#[]⟩ : ByteArray), false))) = some (r1, r2, r3, r4, r5, r6, r7, r8) := h
 clear h
 by_cases c2 : (a0.size : Int) = 40
 ·rw [if_pos c2] at H
  have c2b0 : ((a0.size : Int) == 40) = true := beq_iff_eq.mpr c2
  have c2b1 : ((a0.size : Int) != 40) = false := bne_eq_false_iff_eq.mpr c2
  clear c2
  replace H := Option.bind_eq_some_iff.mp H
  obtain ⟨t179, A30, H⟩ := H
  replace H : (if 2 < (a0.size : Int) then (if 3 < (a0.size : Int) then ((spec_l1Get.f k a0 4 2).bind fun t180 => (if 6 ≤ 34 then (if 34 ≤ (a0.size : Int) then (if 34 ≤ 38 then (if 38 ≤ (a0.size : Int) then ((spec_DownPut.f k (Int.tmod (wrap64 (Int.tdiv t179 16)) 1024) (Int.tmod (wrap64 (Int.tdiv t179 2)) 8) (wrap64 (bt a0 2)) (wrap64 (bt a0 3)) (Int.tmod t180 2048) (a0.extract 6 34) (a0.extract 34 38)).bind fun t182 => (if t182.toList = a0.toList then (some (Int.tmod (wrap64 (Int.tdiv t179 16)) 1024, Int.tmod (wrap64 (Int.tdiv t179 2)) 8, wrap64 (bt a0 2), wrap64 (bt a0 3), Int.tmod t180 2048, a0.extract 6 34, a0.extract 34 38, true)) else (some (0, 0, 0, 0, 0, (⟨#[]⟩ : ByteArray), (⟨#[]⟩ : ByteArray), false)))) else (none)) else (none)) else (none)) else (none))) else (none)) else (none)) = some (r1, r2, r3, r4, r5, r6, r7, r8) := H
  have A3 := Aside0.mk A30
  clear A30
  by_cases c4 : 2 < (a0.size : Int)
  ·rw [if_pos c4] at H
   have c4b0 : decide (2 < (a0.size : Int)) = true := decide_eq_true c4
   have c4b1 : decide (2 < a0.size) = true := decide_eq_true (by omega)
   clear c4
   by_cases c6 : 3 < (a0.size : Int)
   ·rw [if_pos c6] at H
    have c6b0 : decide (3 < (a0.size : Int)) = true := decide_eq_true c6
    have c6b1 : decide (3 < a0.size) = true := decide_eq_true (by omega)
    clear c6
    replace H := Option.bind_eq_some_iff.mp H
    obtain ⟨t180, A80, H⟩ := H
    replace H : (if 6 ≤ 34 then (if 34 ≤ (a0.size : Int) then (if 34 ≤ 38 then (if 38 ≤ (a0.size : Int) then ((spec_DownPut.f k (Int.tmod (wrap64 (Int.tdiv t179 16)) 1024) (Int.tmod (wrap64 (Int.tdiv t179 2)) 8) (wrap64 (bt a0 2)) (wrap64 (bt a0 3)) (Int.tmod t180 2048) (a0.extract 6 34) (a0.extract 34 38)).bind fun t182 => (if t182.toList = a0.toList then (some (Int.tmod (wrap64 (Int.tdiv t179 16)) 1024, Int.tmod (wrap64 (Int.tdiv t179 2)) 8, wrap64 (bt a0 2), wrap64 (bt a0 3), Int.tmod t180 2048, a0.extract 6 34, a0.extract 34 38, true)) else (some (0, 0, 0, 0, 0, (⟨#[]⟩ : ByteArray), (⟨#[]⟩ : ByteArray), false)))) else (none)) else (none)) else (none)) else (none)) = some (r1, r2, r3, r4, r5, r6, r7, r8) := H
    have A8 := Aside0.mk A80
    clear A80
    by_cases c9 : 6 ≤ 34
    ·rw [if_pos c9] at H
     have c9b0 := eq_true c9
     have c9b1 : decide (6 ≤ 34) = true := decide_eq_true c9
     clear c9
     by_cases c10 : 34 ≤ (a0.size : Int)
     ·rw [if_pos c10] at H
      have c10b0 := eq_true c10
      have c10b1 : decide (34 ≤ (a0.size : Int)) = true := decide_eq_true c10
      clear c10
      by_cases c11 : 34 ≤ 38
      ·rw [if_pos c11] at H
       have c11b0 := eq_true c11
       have c11b1 : decide (34 ≤ 38) = true := decide_eq_true c11
       clear c11
       by_cases c12 : 38 ≤ (a0.size : Int)
       ·rw [if_pos c12] at H
        have c12b0 := eq_true c12
        have c12b1 : decide (38 ≤ (a0.size : Int)) = true := decide_eq_true c12
        clear c12
        replace H := Option.bind_eq_some_iff.mp H
        obtain ⟨t182, A130, H⟩ := H
        replace H : (if t182.toList = a0.toList then (some (Int.tmod (wrap64 (Int.tdiv t179 16)) 1024, Int.tmod (wrap64 (Int.tdiv t179 2)) 8, wrap64 (bt a0 2), wrap64 (bt a0 3), Int.tmod t180 2048, a0.extract 6 34, a0.extract 34 38, true)) else (some (0, 0, 0, 0, 0, (⟨#[]⟩ : ByteArray), (⟨#[]⟩ : ByteArray), false))) = some (r1, r2, r3, r4, r5, r6, r7, r8) := H
        have A13 := Aside0.mk A130
        clear A130
        by_cases c14 : t182.toList = a0.toList
        ·rw [if_pos c14] at H
         have c14b0 : (t182.toList == a0.toList) = true := beq_iff_eq.mpr c14
         have c14b1 : (t182.toList != a0.toList) = false := bne_eq_false_iff_eq.mpr c14
         clear c14
         simp only [Option.some.injEq, Prod.mk.injEq] at H
         obtain ⟨rfl, rfl, rfl, rfl, rfl, rfl, rfl, rfl⟩ := H
         go_enter Try.func11, Try.ntmps11
         try go_wp2_with (first | ((with_reducible refine gate_dst (N := 2) rfl ?_); refine box_event ?hg (N := 2) ?hd (cs := #[.int .i64 0, .int .i64 0, .int .i64 0, .int .i64 0, .int .i64 0, .string (⟨#[]⟩ : ByteArray), .string (⟨#[]⟩ : ByteArray)]) (t := 26) ?hr ?_; (case hd => rfl); (case hg => rfl); (case hr => first | (go_simp; done) | (go_simp; rfl)); intro gb178 hg w15 hbox hb; have n0_ := m_ (below_step (bN HB.out) hb); have n1_ := m_ (hbox); have n2_ := m_ ((by rw [hg]; exact (below_size (bN HB.out)) : w.heap.size ≤ gb178)); have n3_ := m_ ((by rw [hg]; exact (below_size (bN HB.out)) : w.heap.size ≤ gb178)); clear HB; have HB := n0_; have BK178 := n1_; have GW178 := n2_; have GE178 := n3_; clear n0_ n1_ n2_ n3_; clear hb hbox hg) | ((with_reducible refine gate_callee (f := 21) rfl ?_); refine goesL_ (some 11) rfl rfl Try.func21 (by kernel_rfl) rfl #[.string a0, .int .i64 0, .int .i64 2] rfl gl_ ?_; (with_reducible refine (spec_l1Get.calls k a0 0 2 t179 _ A3.out).mono ?_); rintro e w' ⟨rfl, ⟨nd, rfl⟩⟩; refine ⟨_, rfl, ?_⟩; (try (rw [drewN_self w15]; generalize hq_ : World.drewN w15 _ = w15; have n0_ : Aside0 (w15.heap[gb178]? = some (.cells #[.int .i64 0, .int .i64 0, .int .i64 0, .int .i64 0, .int .i64 0, .string (⟨#[]⟩ : ByteArray), .string (⟨#[]⟩ : ByteArray)] 26 (0, 0))) := ⟨by rw [← hq_]; exact (kN BK178.out)⟩; have n1_ : Aside0 (Below w.heap.size w w15) := ⟨by rw [← hq_]; exact (bN HB.out)⟩; clear BK178 HB hq_; have BK178 := n0_; have HB := n1_; clear n0_ n1_))))
         have n0_ := m_ (blk_drew BK178.out)
         have n1_ := m_ (below_drew1 HB.out)
         clear BK178
         clear HB
         have BK178 := n0_
         have HB := n1_
         clear n0_ n1_
         have p5 : 0 ≤ (2 : Int) := (by omega)
         have q5 : 2 < a0.size := (by have : (2 : Int) < (a0.size : Int) := of_decide_eq_true (by first | (with_reducible assumption) | assumption); omega)
         have hx5 : ∀ h : 2 < a0.size, ((a0[2]'h).toNat : Int) = bt a0 2 := bt_at a0 2
         clear p5
         have qi5 : (2 < (a0.size : Int)) = True := eq_true (of_decide_eq_true (by first | (with_reducible assumption) | assumption))
         replace q5 := eq_true q5
         have p7 : 0 ≤ (3 : Int) := (by omega)
         have q7 : 3 < a0.size := (by have : (3 : Int) < (a0.size : Int) := of_decide_eq_true (by first | (with_reducible assumption) | assumption); omega)
         have hx7 : ∀ h : 3 < a0.size, ((a0[3]'h).toNat : Int) = bt a0 3 := bt_at a0 3
         clear p7
         have qi7 : (3 < (a0.size : Int)) = True := eq_true (of_decide_eq_true (by first | (with_reducible assumption) | assumption))
         replace q7 := eq_true q7
         refine start_ (n := 22) (S := fun w' => True) (ds := []) #[false, false, false, false, false, false, false, false, false, false, false, false, false, false, false, false, false, false, false, false, false, false] (by kernel_rfl) rfl rfl trivial (fun hHeld => ?_); refine with_tabW spec_DownGet.tab4 spec_DownGet.bits4 (fun HT_ HW_ => ?_)
         generalize w15.drew = w16 at BK178 HB hHeld ⊢
         refine pu 0 12 HT_ (h := ?_)
         refine pu 1 13 HT_ (h := ?_)
         refine pu 2 14 HT_ (h := ?_)
         refine pu 3 15 HT_ (h := ?_)
         refine pu 4 16 HT_ (h := ?_)
         refine pu 5 17 HT_ (h := ?_)
         refine pu 6 18 HT_ (h := ?_)
         refine pu 9 21 HT_ (h := ?_)
         refine pu 12 24 HT_ (h := ?_)
         refine pu 15 27 HT_ (h := ?_)
         refine pu 16 28 HT_ (h := ?_)
         refine pu 17 29 HT_ (h := ?_)
         refine pu 18 30 HT_ (h := ?_)
         refine take_ (i := 7) (N := some 19) (v := ?_) (a' := ?_) #[true, true, true, true, true, true, true, true, false, true, false, false, true, false, false, true, true, true, true, false, false, false] rfl rfl (take_ofW HT_.out HW_.out (by kernel_rfl)) (fun _ _ _ h => h) (Or.inl ⟨by rfl, ?_⟩) hHeld ?_ ?_
         rotate_left
         ·intro w' _
          go_simp
          with_reducible rfl
         rotate_left
         ·simp only [Act.put, List.setIfInBounds_toArray, List.set_cons_zero, List.set_cons_succ, i64_w, i32_w]
          rfl
         refine pu 8 20 HT_ (h := ?_)
         refine take_ (i := 10) (N := some 22) (v := ?_) (a' := ?_) #[true, true, true, true, true, true, true, true, true, true, true, false, true, false, false, true, true, true, true, false, false, false] rfl rfl (take_ofW HT_.out HW_.out (by kernel_rfl)) (fun _ _ _ h => h) (Or.inl ⟨by rfl, ?_⟩) hHeld ?_ ?_
         rotate_left
         ·intro w' _
          go_simp
          with_reducible rfl
         rotate_left
         ·simp only [Act.put, List.setIfInBounds_toArray, List.set_cons_zero, List.set_cons_succ, i64_w, i32_w]
          rfl
         refine pu 11 23 HT_ (h := ?_)
         refine join_ (σ := Nat) 1 #[true, true, true, true, true, true, true, true, true, true, true, true, true, true, true, true, true, true, true, true, true, false] (fun s_ => [(25, .int .i64 t180), (5, .pointer (some ⟨s_, 0, none⟩)), (26, .int .i64 (Int.tmod t180 2048)), (31, .agg #[.int .i64 (Int.tmod (wrap64 (Int.tdiv t179 16)) 1024), .int .i64 (Int.tmod (wrap64 (Int.tdiv t179 2)) 8), .int .i64 (wrap64 (bt a0 2)), .int .i64 (wrap64 (bt a0 3)), .int .i64 (Int.tmod t180 2048), .string (a0.extract 6 34), .string (a0.extract 34 38)])]) (fun s_ w' => (w'.heap[gb178]? = some (.cells #[.int .i64 0, .int .i64 0, .int .i64 0, .int .i64 0, .int .i64 0, .string (⟨#[]⟩ : ByteArray), .string (⟨#[]⟩ : ByteArray)] 26 (0, 0))) ∧ (w'.heap[s_]? = some (.cells #[.int .i64 0, .int .i64 0, .int .i64 0, .int .i64 0, .int .i64 0, .string (⟨#[]⟩ : ByteArray), .string (⟨#[]⟩ : ByteArray)] 26 (0, 0))) ∧ (w.heap.size ≤ s_) ∧ (w.heap.size ≤ s_) ∧ (gb178 ≠ s_) ∧ (s_ ≠ gb178) ∧ (Below w.heap.size w w')) ?_ ?_
         rotate_left
         ·intro hCont
          refine two_ (i := 13) (j := 20) (Ni := some 25) (Nj := some 5) #[true, true, true, true, true, true, true, true, true, true, true, true, true, true, false, true, true, true, true, false, false, false] #[true, true, true, true, true, true, true, true, true, true, true, true, true, false, false, true, true, true, true, false, true, false] rfl rfl rfl rfl (two_of HT_.out (by kernel_rfl)) (by decide) (by decide) (fun K hK => ?_) (fun K hK => ?_)
          ·skip
           refine goes_ Try.func21 (by kernel_rfl) rfl #[.string a0, .int .i64 4, .int .i64 2] (by rfl) rfl rfl gl_ ?_
           with_reducible refine (spec_l1Get.calls k a0 4 2 t180 _ A8.out).mono ?_
           rintro e w' ⟨rfl, ⟨nd, rfl⟩⟩
           refine ⟨_, rfl, ?_⟩
           refine hK.out _ _ trivial (fun hHeld => ?_)
           clear hK K
           refine np (h := ?_)
           refine pu 14 26 HT_ (h := ?_)
           refine pu 19 31 HT_ (h := ?_)
           refine one_ (i := 20) (N := some 5) #[true, true, true, true, true, true, true, true, true, true, true, true, true, true, true, true, true, true, true, true, true, false] rfl rfl (one_of HT_.out (by kernel_rfl)) (by decide) (fun K hK => ?_)
           refine box_step ?hg (N := 5) ?hd (cs := #[.int .i64 0, .int .i64 0, .int .i64 0, .int .i64 0, .int .i64 0, .string (⟨#[]⟩ : ByteArray), .string (⟨#[]⟩ : ByteArray)]) (t := 26) ?hr ?_; (case hd => rfl); (case hg => rfl); (case hr => first | (go_simp; done) | (go_simp; rfl))
           intro gb181 hg w17 hbox hb
           have n0_ := m_ (blk_below (g := gb178) (o := .cells #[.int .i64 0, .int .i64 0, .int .i64 0, .int .i64 0, .int .i64 0, .string (⟨#[]⟩ : ByteArray), .string (⟨#[]⟩ : ByteArray)] 26 (0, 0)) (kN BK178.out) hb)
           have n1_ := m_ (below_step (bN HB.out) hb)
           have n2_ := m_ (hbox)
           have n3_ := m_ ((by rw [hg]; exact (below_size (bN HB.out)) : w.heap.size ≤ gb181))
           have n4_ := m_ ((by rw [hg]; exact (below_size (bN HB.out)) : w.heap.size ≤ gb181))
           have n5_ := m_ ((by rw [hg]; exact Nat.ne_of_lt (blk_lt (g := gb178) (o := .cells #[.int .i64 0, .int .i64 0, .int .i64 0, .int .i64 0, .int .i64 0, .string (⟨#[]⟩ : ByteArray), .string (⟨#[]⟩ : ByteArray)] 26 (0, 0)) (kN BK178.out)) : gb178 ≠ gb181))
           have n6_ := m_ ((by rw [hg]; exact Nat.ne_of_gt (blk_lt (g := gb178) (o := .cells #[.int .i64 0, .int .i64 0, .int .i64 0, .int .i64 0, .int .i64 0, .string (⟨#[]⟩ : ByteArray), .string (⟨#[]⟩ : ByteArray)] 26 (0, 0)) (kN BK178.out)) : gb181 ≠ gb178))
           clear BK178
           clear HB
           have BK178 := n0_
           have HB := n1_
           have BK181 := n2_
           have GW181 := n3_
           have GE181 := n4_
           have NB178_181 := n5_
           have NB181_178 := n6_
           clear n0_ n1_ n2_ n3_ n4_ n5_ n6_
           clear hb hbox hg
           refine hK.out _ _ trivial (fun hHeld => ?_)
           clear hK K
           refine np (h := ?_)
           exact nq (hCont (gb181) _ ⟨(kN BK178.out), (kN BK181.out), GW181.out, GE181.out, NB178_181.out, NB181_178.out, (bN HB.out)⟩)
          ·skip
           refine box_step ?hg (N := 5) ?hd (cs := #[.int .i64 0, .int .i64 0, .int .i64 0, .int .i64 0, .int .i64 0, .string (⟨#[]⟩ : ByteArray), .string (⟨#[]⟩ : ByteArray)]) (t := 26) ?hr ?_; (case hd => rfl); (case hg => rfl); (case hr => first | (go_simp; done) | (go_simp; rfl))
           intro gb181 hg w17 hbox hb
           have n0_ := m_ (blk_below (g := gb178) (o := .cells #[.int .i64 0, .int .i64 0, .int .i64 0, .int .i64 0, .int .i64 0, .string (⟨#[]⟩ : ByteArray), .string (⟨#[]⟩ : ByteArray)] 26 (0, 0)) (kN BK178.out) hb)
           have n1_ := m_ (below_step (bN HB.out) hb)
           have n2_ := m_ (hbox)
           have n3_ := m_ ((by rw [hg]; exact (below_size (bN HB.out)) : w.heap.size ≤ gb181))
           have n4_ := m_ ((by rw [hg]; exact (below_size (bN HB.out)) : w.heap.size ≤ gb181))
           have n5_ := m_ ((by rw [hg]; exact Nat.ne_of_lt (blk_lt (g := gb178) (o := .cells #[.int .i64 0, .int .i64 0, .int .i64 0, .int .i64 0, .int .i64 0, .string (⟨#[]⟩ : ByteArray), .string (⟨#[]⟩ : ByteArray)] 26 (0, 0)) (kN BK178.out)) : gb178 ≠ gb181))
           have n6_ := m_ ((by rw [hg]; exact Nat.ne_of_gt (blk_lt (g := gb178) (o := .cells #[.int .i64 0, .int .i64 0, .int .i64 0, .int .i64 0, .int .i64 0, .string (⟨#[]⟩ : ByteArray), .string (⟨#[]⟩ : ByteArray)] 26 (0, 0)) (kN BK178.out)) : gb181 ≠ gb178))
           clear BK178
           clear HB
           have BK178 := n0_
           have HB := n1_
           have BK181 := n2_
           have GW181 := n3_
           have GE181 := n4_
           have NB178_181 := n5_
           have NB181_178 := n6_
           clear n0_ n1_ n2_ n3_ n4_ n5_ n6_
           clear hb hbox hg
           refine hK.out _ _ trivial (fun hHeld => ?_)
           clear hK K
           refine np (h := ?_)
           refine one_ (i := 13) (N := some 25) #[true, true, true, true, true, true, true, true, true, true, true, true, true, true, false, true, true, true, true, false, true, false] rfl rfl (one_of HT_.out (by kernel_rfl)) (by decide) (fun K hK => ?_)
           refine goes_ Try.func21 (by kernel_rfl) rfl #[.string a0, .int .i64 4, .int .i64 2] (by rfl) rfl rfl gl_ ?_
           with_reducible refine (spec_l1Get.calls k a0 4 2 t180 _ A8.out).mono ?_
           rintro e w' ⟨rfl, ⟨nd, rfl⟩⟩
           refine ⟨_, rfl, ?_⟩
           refine hK.out _ _ trivial (fun hHeld => ?_)
           clear hK K
           refine np (h := ?_)
           refine pu 14 26 HT_ (h := ?_)
           refine pu 19 31 HT_ (h := ?_)
           exact nq (hCont (gb181) _ ⟨(kN BK178.out), (kN BK181.out), GW181.out, GE181.out, NB178_181.out, NB181_178.out, (bN HB.out)⟩)
         rintro gb181 w18 ⟨h0_, h1_, h2_, h3_, h4_, h5_, h6_⟩
         have n0_ : Aside0 (w18.heap[gb178]? = some (.cells #[.int .i64 0, .int .i64 0, .int .i64 0, .int .i64 0, .int .i64 0, .string (⟨#[]⟩ : ByteArray), .string (⟨#[]⟩ : ByteArray)] 26 (0, 0))) := ⟨h0_⟩
         have n1_ : Aside0 (w18.heap[gb181]? = some (.cells #[.int .i64 0, .int .i64 0, .int .i64 0, .int .i64 0, .int .i64 0, .string (⟨#[]⟩ : ByteArray), .string (⟨#[]⟩ : ByteArray)] 26 (0, 0))) := ⟨h1_⟩
         have n2_ : Aside0 (w.heap.size ≤ gb181) := ⟨h2_⟩
         have n3_ : Aside0 (w.heap.size ≤ gb181) := ⟨h3_⟩
         have n4_ : Aside0 (gb178 ≠ gb181) := ⟨h4_⟩
         have n5_ : Aside0 (gb181 ≠ gb178) := ⟨h5_⟩
         have n6_ : Aside0 (Below w.heap.size w w18) := ⟨h6_⟩
         clear BK178
         clear HB
         clear h0_ h1_ h2_ h3_ h4_ h5_ h6_
         have BK178 := n0_
         have BK181 := n1_
         have GW181 := n2_
         have GE181 := n3_
         have NB178_181 := n4_
         have NB181_178 := n5_
         have HB := n6_
         clear n0_ n1_ n2_ n3_ n4_ n5_ n6_
         have hHeld := trivial
         refine norm_ (a' := ?_) ?_ ?_
         rotate_left
         ·simp only [putAll, Act.put, List.setIfInBounds_toArray, List.set_cons_zero, List.set_cons_succ]
          rfl
         refine one_ (i := 21) (N := none) #[true, true, true, true, true, true, true, true, true, true, true, true, true, true, true, true, true, true, true, true, true, true] rfl rfl (one_of HT_.out (by kernel_rfl)) (by decide) (fun K hK => ?_)
         have hs19 : w18.cell? ⟨gb181, 0, none⟩ = some (.int .i64 0) := bc BK181 0
         have hfs19 := blk_frozen BK181.out 0
         have hns19_0 := NB178_181.out
         have hms19_0 := NB181_178.out
         have hs20 : w18.cell? ⟨gb181, 1, none⟩ = some (.int .i64 0) := bc BK181 1
         have hfs20 := blk_frozen BK181.out 1
         have hns20_0 := NB178_181.out
         have hms20_0 := NB181_178.out
         have hs21 : w18.cell? ⟨gb181, 2, none⟩ = some (.int .i64 0) := bc BK181 2
         have hfs21 := blk_frozen BK181.out 2
         have hns21_0 := NB178_181.out
         have hms21_0 := NB181_178.out
         have hs22 : w18.cell? ⟨gb181, 3, none⟩ = some (.int .i64 0) := bc BK181 3
         have hfs22 := blk_frozen BK181.out 3
         have hns22_0 := NB178_181.out
         have hms22_0 := NB181_178.out
         have hs23 : w18.cell? ⟨gb181, 4, none⟩ = some (.int .i64 0) := bc BK181 4
         have hfs23 := blk_frozen BK181.out 4
         have hns23_0 := NB178_181.out
         have hms23_0 := NB181_178.out
         have hs24 : w18.cell? ⟨gb181, 5, none⟩ = some (.string (⟨#[]⟩ : ByteArray)) := bc BK181 5
         have hfs24 := blk_frozen BK181.out 5
         have hns24_0 := NB178_181.out
         have hms24_0 := NB181_178.out
         have hs25 : w18.cell? ⟨gb181, 6, none⟩ = some (.string (⟨#[]⟩ : ByteArray)) := bc BK181 6
         have hfs25 := blk_frozen BK181.out 6
         have hns25_0 := NB178_181.out
         have hms25_0 := NB181_178.out
         refine skip_ (w1 := ?_) (by rfl) rfl ?_ ?_
         rotate_left
         ·go_simp
          rfl
         refine hK.out _ _ trivial (fun hHeld => ?_)
         clear hK K
         refine done_ (done_of HT_.out (by kernel_rfl)) ?_
         have hnb26 := NB181_178.out
         have hnc26 := NB178_181.out
         have hcz27_0 : w18.cell? ⟨gb181, 0, none⟩ = some (.int .i64 0) := bc BK181 0
         have hcz27_1 : w18.cell? ⟨gb181, 1, none⟩ = some (.int .i64 0) := bc BK181 1
         have hcz27_2 : w18.cell? ⟨gb181, 2, none⟩ = some (.int .i64 0) := bc BK181 2
         have hcz27_3 : w18.cell? ⟨gb181, 3, none⟩ = some (.int .i64 0) := bc BK181 3
         have hcz27_4 : w18.cell? ⟨gb181, 4, none⟩ = some (.int .i64 0) := bc BK181 4
         have hcz27_5 : w18.cell? ⟨gb181, 5, none⟩ = some (.string (⟨#[]⟩ : ByteArray)) := bc BK181 5
         have hcz27_6 : w18.cell? ⟨gb181, 6, none⟩ = some (.string (⟨#[]⟩ : ByteArray)) := bc BK181 6
         have hfz27_0 := blk_frozen BK181.out 0
         have hfz27_1 := blk_frozen BK181.out 1
         have hfz27_2 := blk_frozen BK181.out 2
         have hfz27_3 := blk_frozen BK181.out 3
         have hfz27_4 := blk_frozen BK181.out 4
         have hfz27_5 := blk_frozen BK181.out 5
         have hfz27_6 := blk_frozen BK181.out 6
         try go_wp2_with (first | ((with_reducible refine gate_callee (f := 8) rfl ?_); refine goesL_ (some 33) rfl rfl Try.func8 (by kernel_rfl) rfl #[.agg #[.int .i64 (Int.tmod (wrap64 (Int.tdiv t179 16)) 1024), .int .i64 (Int.tmod (wrap64 (Int.tdiv t179 2)) 8), .int .i64 (wrap64 (bt a0 2)), .int .i64 (wrap64 (bt a0 3)), .int .i64 (Int.tmod t180 2048), .string (a0.extract 6 34), .string (a0.extract 34 38)]] rfl gl_ ?_; (with_reducible refine (spec_DownPut.calls k (Int.tmod (wrap64 (Int.tdiv t179 16)) 1024) (Int.tmod (wrap64 (Int.tdiv t179 2)) 8) (wrap64 (bt a0 2)) (wrap64 (bt a0 3)) (Int.tmod t180 2048) (a0.extract 6 34) (a0.extract 34 38) t182 _ A13.out).mono ?_); rintro e w28 ⟨rfl, hb⟩; refine ⟨_, rfl, ?_⟩; have n0_ := m_ (blk_below (g := gb178) (o := .cells #[.int .i64 0, .int .i64 0, .int .i64 0, .int .i64 0, .int .i64 0, .string (⟨#[]⟩ : ByteArray), .string (⟨#[]⟩ : ByteArray)] 26 (0, 0)) (kF BK178.out NB178_181.out) hb); have n1_ := m_ (blk_below (g := gb181) (o := .cells #[.int .i64 (Int.tmod (wrap64 (Int.tdiv t179 16)) 1024), .int .i64 (Int.tmod (wrap64 (Int.tdiv t179 2)) 8), .int .i64 (wrap64 (bt a0 2)), .int .i64 (wrap64 (bt a0 3)), .int .i64 (Int.tmod t180 2048), .string (a0.extract 6 34), .string (a0.extract 34 38)] 26 (0, 0)) (kP BK181.out) hb); have n2_ := m_ (below_step (bN HB.out) hb); clear BK178; clear BK181; clear HB; have BK178 := n0_; have BK181 := n1_; have HB := n2_; clear n0_ n1_ n2_; (try clear hb); (try clear hb2); (try clear hk); (try clear hi); have hcz29_0 : w28.cell? ⟨gb181, 0, none⟩ = some (.int .i64 (Int.tmod (wrap64 (Int.tdiv t179 16)) 1024)) := bc BK181 0; have hcz29_1 : w28.cell? ⟨gb181, 1, none⟩ = some (.int .i64 (Int.tmod (wrap64 (Int.tdiv t179 2)) 8)) := bc BK181 1; have hcz29_2 : w28.cell? ⟨gb181, 2, none⟩ = some (.int .i64 (wrap64 (bt a0 2))) := bc BK181 2; have hcz29_3 : w28.cell? ⟨gb181, 3, none⟩ = some (.int .i64 (wrap64 (bt a0 3))) := bc BK181 3; have hcz29_4 : w28.cell? ⟨gb181, 4, none⟩ = some (.int .i64 (Int.tmod t180 2048)) := bc BK181 4; have hcz29_5 : w28.cell? ⟨gb181, 5, none⟩ = some (.string (a0.extract 6 34)) := bc BK181 5; have hcz29_6 : w28.cell? ⟨gb181, 6, none⟩ = some (.string (a0.extract 34 38)) := bc BK181 6; have hfz29_0 := blk_frozen BK181.out 0; have hfz29_1 := blk_frozen BK181.out 1; have hfz29_2 := blk_frozen BK181.out 2; have hfz29_3 := blk_frozen BK181.out 3; have hfz29_4 := blk_frozen BK181.out 4; have hfz29_5 := blk_frozen BK181.out 5; have hfz29_6 := blk_frozen BK181.out 6; have hcz30_0 : w28.cell? ⟨gb178, 0, none⟩ = some (.int .i64 0) := bc BK178 0; have hcz30_1 : w28.cell? ⟨gb178, 1, none⟩ = some (.int .i64 0) := bc BK178 1; have hcz30_2 : w28.cell? ⟨gb178, 2, none⟩ = some (.int .i64 0) := bc BK178 2; have hcz30_3 : w28.cell? ⟨gb178, 3, none⟩ = some (.int .i64 0) := bc BK178 3; have hcz30_4 : w28.cell? ⟨gb178, 4, none⟩ = some (.int .i64 0) := bc BK178 4; have hcz30_5 : w28.cell? ⟨gb178, 5, none⟩ = some (.string (⟨#[]⟩ : ByteArray)) := bc BK178 5; have hcz30_6 : w28.cell? ⟨gb178, 6, none⟩ = some (.string (⟨#[]⟩ : ByteArray)) := bc BK178 6; have hfz30_0 := blk_frozen BK178.out 0; have hfz30_1 := blk_frozen BK178.out 1; have hfz30_2 := blk_frozen BK178.out 2; have hfz30_3 := blk_frozen BK178.out 3; have hfz30_4 := blk_frozen BK178.out 4; have hfz30_5 := blk_frozen BK178.out 5; have hfz30_6 := blk_frozen BK178.out 6))
         refine bodyPost_ret (results_ct rfl _ _ gb178 26 #[.int .i64 (Int.tmod (wrap64 (Int.tdiv t179 16)) 1024), .int .i64 (Int.tmod (wrap64 (Int.tdiv t179 2)) 8), .int .i64 (wrap64 (bt a0 2)), .int .i64 (wrap64 (bt a0 3)), .int .i64 (Int.tmod t180 2048), .string (a0.extract 6 34), .string (a0.extract 34 38)] (0, 0) _ rfl (kP BK178.out) Try.underlying26 rfl (by kernel_rfl)) rfl ?_
         exact ⟨by first | rfl | (simp [errW_none, errW_some] <;> rfl) | (simp [*, errW_none, errW_some] <;> rfl), by repeat (first | (with_reducible first | exact HB.out | apply below_alloc | apply pw_below_drewN | apply below_drew1 | refine below_set ?_ GE178.out | refine below_set ?_ GE181.out) | exact HB.out)⟩
        ·rw [if_neg c14] at H
         have c14b0 : (t182.toList == a0.toList) = false := beq_eq_false_iff_ne.mpr c14
         have c14b1 : (t182.toList != a0.toList) = true := bne_iff_ne.mpr c14
         simp only [Option.some.injEq, Prod.mk.injEq] at H
         obtain ⟨rfl, rfl, rfl, rfl, rfl, rfl, rfl, rfl⟩ := H
         go_enter Try.func11, Try.ntmps11
         try go_wp2_with (first | ((with_reducible refine gate_dst (N := 2) rfl ?_); refine box_event ?hg (N := 2) ?hd (cs := #[.int .i64 0, .int .i64 0, .int .i64 0, .int .i64 0, .int .i64 0, .string (⟨#[]⟩ : ByteArray), .string (⟨#[]⟩ : ByteArray)]) (t := 26) ?hr ?_; (case hd => rfl); (case hg => rfl); (case hr => first | (go_simp; done) | (go_simp; rfl)); intro gb178 hg w31 hbox hb; have n0_ := m_ (below_step (bN HB.out) hb); have n1_ := m_ (hbox); have n2_ := m_ ((by rw [hg]; exact (below_size (bN HB.out)) : w.heap.size ≤ gb178)); have n3_ := m_ ((by rw [hg]; exact (below_size (bN HB.out)) : w.heap.size ≤ gb178)); clear HB; have HB := n0_; have BK178 := n1_; have GW178 := n2_; have GE178 := n3_; clear n0_ n1_ n2_ n3_; clear hb hbox hg) | ((with_reducible refine gate_callee (f := 21) rfl ?_); refine goesL_ (some 11) rfl rfl Try.func21 (by kernel_rfl) rfl #[.string a0, .int .i64 0, .int .i64 2] rfl gl_ ?_; (with_reducible refine (spec_l1Get.calls k a0 0 2 t179 _ A3.out).mono ?_); rintro e w' ⟨rfl, ⟨nd, rfl⟩⟩; refine ⟨_, rfl, ?_⟩; (try (rw [drewN_self w31]; generalize hq_ : World.drewN w31 _ = w31; have n0_ : Aside0 (w31.heap[gb178]? = some (.cells #[.int .i64 0, .int .i64 0, .int .i64 0, .int .i64 0, .int .i64 0, .string (⟨#[]⟩ : ByteArray), .string (⟨#[]⟩ : ByteArray)] 26 (0, 0))) := ⟨by rw [← hq_]; exact (kN BK178.out)⟩; have n1_ : Aside0 (Below w.heap.size w w31) := ⟨by rw [← hq_]; exact (bN HB.out)⟩; clear BK178 HB hq_; have BK178 := n0_; have HB := n1_; clear n0_ n1_))))
         have n0_ := m_ (blk_drew BK178.out)
         have n1_ := m_ (below_drew1 HB.out)
         clear BK178
         clear HB
         have BK178 := n0_
         have HB := n1_
         clear n0_ n1_
         have p5 : 0 ≤ (2 : Int) := (by omega)
         have q5 : 2 < a0.size := (by have : (2 : Int) < (a0.size : Int) := of_decide_eq_true (by first | (with_reducible assumption) | assumption); omega)
         have hx5 : ∀ h : 2 < a0.size, ((a0[2]'h).toNat : Int) = bt a0 2 := bt_at a0 2
         clear p5
         have qi5 : (2 < (a0.size : Int)) = True := eq_true (of_decide_eq_true (by first | (with_reducible assumption) | assumption))
         replace q5 := eq_true q5
         have p7 : 0 ≤ (3 : Int) := (by omega)
         have q7 : 3 < a0.size := (by have : (3 : Int) < (a0.size : Int) := of_decide_eq_true (by first | (with_reducible assumption) | assumption); omega)
         have hx7 : ∀ h : 3 < a0.size, ((a0[3]'h).toNat : Int) = bt a0 3 := bt_at a0 3
         clear p7
         have qi7 : (3 < (a0.size : Int)) = True := eq_true (of_decide_eq_true (by first | (with_reducible assumption) | assumption))
         replace q7 := eq_true q7
         refine start_ (n := 22) (S := fun w' => True) (ds := []) #[false, false, false, false, false, false, false, false, false, false, false, false, false, false, false, false, false, false, false, false, false, false] (by kernel_rfl) rfl rfl trivial (fun hHeld => ?_); refine with_tabW spec_DownGet.tab4 spec_DownGet.bits4 (fun HT_ HW_ => ?_)
         generalize w31.drew = w32 at BK178 HB hHeld ⊢
         refine pu 0 12 HT_ (h := ?_)
         refine pu 1 13 HT_ (h := ?_)
         refine pu 2 14 HT_ (h := ?_)
         refine pu 3 15 HT_ (h := ?_)
         refine pu 4 16 HT_ (h := ?_)
         refine pu 5 17 HT_ (h := ?_)
         refine pu 6 18 HT_ (h := ?_)
         refine pu 9 21 HT_ (h := ?_)
         refine pu 12 24 HT_ (h := ?_)
         refine pu 15 27 HT_ (h := ?_)
         refine pu 16 28 HT_ (h := ?_)
         refine pu 17 29 HT_ (h := ?_)
         refine pu 18 30 HT_ (h := ?_)
         refine take_ (i := 7) (N := some 19) (v := ?_) (a' := ?_) #[true, true, true, true, true, true, true, true, false, true, false, false, true, false, false, true, true, true, true, false, false, false] rfl rfl (take_ofW HT_.out HW_.out (by kernel_rfl)) (fun _ _ _ h => h) (Or.inl ⟨by rfl, ?_⟩) hHeld ?_ ?_
         rotate_left
         ·intro w' _
          go_simp
          with_reducible rfl
         rotate_left
         ·simp only [Act.put, List.setIfInBounds_toArray, List.set_cons_zero, List.set_cons_succ, i64_w, i32_w]
          rfl
         refine pu 8 20 HT_ (h := ?_)
         refine take_ (i := 10) (N := some 22) (v := ?_) (a' := ?_) #[true, true, true, true, true, true, true, true, true, true, true, false, true, false, false, true, true, true, true, false, false, false] rfl rfl (take_ofW HT_.out HW_.out (by kernel_rfl)) (fun _ _ _ h => h) (Or.inl ⟨by rfl, ?_⟩) hHeld ?_ ?_
         rotate_left
         ·intro w' _
          go_simp
          with_reducible rfl
         rotate_left
         ·simp only [Act.put, List.setIfInBounds_toArray, List.set_cons_zero, List.set_cons_succ, i64_w, i32_w]
          rfl
         refine pu 11 23 HT_ (h := ?_)
         refine join_ (σ := Nat) 1 #[true, true, true, true, true, true, true, true, true, true, true, true, true, true, true, true, true, true, true, true, true, false] (fun s_ => [(25, .int .i64 t180), (5, .pointer (some ⟨s_, 0, none⟩)), (26, .int .i64 (Int.tmod t180 2048)), (31, .agg #[.int .i64 (Int.tmod (wrap64 (Int.tdiv t179 16)) 1024), .int .i64 (Int.tmod (wrap64 (Int.tdiv t179 2)) 8), .int .i64 (wrap64 (bt a0 2)), .int .i64 (wrap64 (bt a0 3)), .int .i64 (Int.tmod t180 2048), .string (a0.extract 6 34), .string (a0.extract 34 38)])]) (fun s_ w' => (w'.heap[gb178]? = some (.cells #[.int .i64 0, .int .i64 0, .int .i64 0, .int .i64 0, .int .i64 0, .string (⟨#[]⟩ : ByteArray), .string (⟨#[]⟩ : ByteArray)] 26 (0, 0))) ∧ (w'.heap[s_]? = some (.cells #[.int .i64 0, .int .i64 0, .int .i64 0, .int .i64 0, .int .i64 0, .string (⟨#[]⟩ : ByteArray), .string (⟨#[]⟩ : ByteArray)] 26 (0, 0))) ∧ (w.heap.size ≤ s_) ∧ (w.heap.size ≤ s_) ∧ (gb178 ≠ s_) ∧ (s_ ≠ gb178) ∧ (Below w.heap.size w w')) ?_ ?_
         rotate_left
         ·intro hCont
          refine two_ (i := 13) (j := 20) (Ni := some 25) (Nj := some 5) #[true, true, true, true, true, true, true, true, true, true, true, true, true, true, false, true, true, true, true, false, false, false] #[true, true, true, true, true, true, true, true, true, true, true, true, true, false, false, true, true, true, true, false, true, false] rfl rfl rfl rfl (two_of HT_.out (by kernel_rfl)) (by decide) (by decide) (fun K hK => ?_) (fun K hK => ?_)
          ·skip
           refine goes_ Try.func21 (by kernel_rfl) rfl #[.string a0, .int .i64 4, .int .i64 2] (by rfl) rfl rfl gl_ ?_
           with_reducible refine (spec_l1Get.calls k a0 4 2 t180 _ A8.out).mono ?_
           rintro e w' ⟨rfl, ⟨nd, rfl⟩⟩
           refine ⟨_, rfl, ?_⟩
           refine hK.out _ _ trivial (fun hHeld => ?_)
           clear hK K
           refine np (h := ?_)
           refine pu 14 26 HT_ (h := ?_)
           refine pu 19 31 HT_ (h := ?_)
           refine one_ (i := 20) (N := some 5) #[true, true, true, true, true, true, true, true, true, true, true, true, true, true, true, true, true, true, true, true, true, false] rfl rfl (one_of HT_.out (by kernel_rfl)) (by decide) (fun K hK => ?_)
           refine box_step ?hg (N := 5) ?hd (cs := #[.int .i64 0, .int .i64 0, .int .i64 0, .int .i64 0, .int .i64 0, .string (⟨#[]⟩ : ByteArray), .string (⟨#[]⟩ : ByteArray)]) (t := 26) ?hr ?_; (case hd => rfl); (case hg => rfl); (case hr => first | (go_simp; done) | (go_simp; rfl))
           intro gb181 hg w33 hbox hb
           have n0_ := m_ (blk_below (g := gb178) (o := .cells #[.int .i64 0, .int .i64 0, .int .i64 0, .int .i64 0, .int .i64 0, .string (⟨#[]⟩ : ByteArray), .string (⟨#[]⟩ : ByteArray)] 26 (0, 0)) (kN BK178.out) hb)
           have n1_ := m_ (below_step (bN HB.out) hb)
           have n2_ := m_ (hbox)
           have n3_ := m_ ((by rw [hg]; exact (below_size (bN HB.out)) : w.heap.size ≤ gb181))
           have n4_ := m_ ((by rw [hg]; exact (below_size (bN HB.out)) : w.heap.size ≤ gb181))
           have n5_ := m_ ((by rw [hg]; exact Nat.ne_of_lt (blk_lt (g := gb178) (o := .cells #[.int .i64 0, .int .i64 0, .int .i64 0, .int .i64 0, .int .i64 0, .string (⟨#[]⟩ : ByteArray), .string (⟨#[]⟩ : ByteArray)] 26 (0, 0)) (kN BK178.out)) : gb178 ≠ gb181))
           have n6_ := m_ ((by rw [hg]; exact Nat.ne_of_gt (blk_lt (g := gb178) (o := .cells #[.int .i64 0, .int .i64 0, .int .i64 0, .int .i64 0, .int .i64 0, .string (⟨#[]⟩ : ByteArray), .string (⟨#[]⟩ : ByteArray)] 26 (0, 0)) (kN BK178.out)) : gb181 ≠ gb178))
           clear BK178
           clear HB
           have BK178 := n0_
           have HB := n1_
           have BK181 := n2_
           have GW181 := n3_
           have GE181 := n4_
           have NB178_181 := n5_
           have NB181_178 := n6_
           clear n0_ n1_ n2_ n3_ n4_ n5_ n6_
           clear hb hbox hg
           refine hK.out _ _ trivial (fun hHeld => ?_)
           clear hK K
           refine np (h := ?_)
           exact nq (hCont (gb181) _ ⟨(kN BK178.out), (kN BK181.out), GW181.out, GE181.out, NB178_181.out, NB181_178.out, (bN HB.out)⟩)
          ·skip
           refine box_step ?hg (N := 5) ?hd (cs := #[.int .i64 0, .int .i64 0, .int .i64 0, .int .i64 0, .int .i64 0, .string (⟨#[]⟩ : ByteArray), .string (⟨#[]⟩ : ByteArray)]) (t := 26) ?hr ?_; (case hd => rfl); (case hg => rfl); (case hr => first | (go_simp; done) | (go_simp; rfl))
           intro gb181 hg w33 hbox hb
           have n0_ := m_ (blk_below (g := gb178) (o := .cells #[.int .i64 0, .int .i64 0, .int .i64 0, .int .i64 0, .int .i64 0, .string (⟨#[]⟩ : ByteArray), .string (⟨#[]⟩ : ByteArray)] 26 (0, 0)) (kN BK178.out) hb)
           have n1_ := m_ (below_step (bN HB.out) hb)
           have n2_ := m_ (hbox)
           have n3_ := m_ ((by rw [hg]; exact (below_size (bN HB.out)) : w.heap.size ≤ gb181))
           have n4_ := m_ ((by rw [hg]; exact (below_size (bN HB.out)) : w.heap.size ≤ gb181))
           have n5_ := m_ ((by rw [hg]; exact Nat.ne_of_lt (blk_lt (g := gb178) (o := .cells #[.int .i64 0, .int .i64 0, .int .i64 0, .int .i64 0, .int .i64 0, .string (⟨#[]⟩ : ByteArray), .string (⟨#[]⟩ : ByteArray)] 26 (0, 0)) (kN BK178.out)) : gb178 ≠ gb181))
           have n6_ := m_ ((by rw [hg]; exact Nat.ne_of_gt (blk_lt (g := gb178) (o := .cells #[.int .i64 0, .int .i64 0, .int .i64 0, .int .i64 0, .int .i64 0, .string (⟨#[]⟩ : ByteArray), .string (⟨#[]⟩ : ByteArray)] 26 (0, 0)) (kN BK178.out)) : gb181 ≠ gb178))
           clear BK178
           clear HB
           have BK178 := n0_
           have HB := n1_
           have BK181 := n2_
           have GW181 := n3_
           have GE181 := n4_
           have NB178_181 := n5_
           have NB181_178 := n6_
           clear n0_ n1_ n2_ n3_ n4_ n5_ n6_
           clear hb hbox hg
           refine hK.out _ _ trivial (fun hHeld => ?_)
           clear hK K
           refine np (h := ?_)
           refine one_ (i := 13) (N := some 25) #[true, true, true, true, true, true, true, true, true, true, true, true, true, true, false, true, true, true, true, false, true, false] rfl rfl (one_of HT_.out (by kernel_rfl)) (by decide) (fun K hK => ?_)
           refine goes_ Try.func21 (by kernel_rfl) rfl #[.string a0, .int .i64 4, .int .i64 2] (by rfl) rfl rfl gl_ ?_
           with_reducible refine (spec_l1Get.calls k a0 4 2 t180 _ A8.out).mono ?_
           rintro e w' ⟨rfl, ⟨nd, rfl⟩⟩
           refine ⟨_, rfl, ?_⟩
           refine hK.out _ _ trivial (fun hHeld => ?_)
           clear hK K
           refine np (h := ?_)
           refine pu 14 26 HT_ (h := ?_)
           refine pu 19 31 HT_ (h := ?_)
           exact nq (hCont (gb181) _ ⟨(kN BK178.out), (kN BK181.out), GW181.out, GE181.out, NB178_181.out, NB181_178.out, (bN HB.out)⟩)
         rintro gb181 w34 ⟨h0_, h1_, h2_, h3_, h4_, h5_, h6_⟩
         have n0_ : Aside0 (w34.heap[gb178]? = some (.cells #[.int .i64 0, .int .i64 0, .int .i64 0, .int .i64 0, .int .i64 0, .string (⟨#[]⟩ : ByteArray), .string (⟨#[]⟩ : ByteArray)] 26 (0, 0))) := ⟨h0_⟩
         have n1_ : Aside0 (w34.heap[gb181]? = some (.cells #[.int .i64 0, .int .i64 0, .int .i64 0, .int .i64 0, .int .i64 0, .string (⟨#[]⟩ : ByteArray), .string (⟨#[]⟩ : ByteArray)] 26 (0, 0))) := ⟨h1_⟩
         have n2_ : Aside0 (w.heap.size ≤ gb181) := ⟨h2_⟩
         have n3_ : Aside0 (w.heap.size ≤ gb181) := ⟨h3_⟩
         have n4_ : Aside0 (gb178 ≠ gb181) := ⟨h4_⟩
         have n5_ : Aside0 (gb181 ≠ gb178) := ⟨h5_⟩
         have n6_ : Aside0 (Below w.heap.size w w34) := ⟨h6_⟩
         clear BK178
         clear HB
         clear h0_ h1_ h2_ h3_ h4_ h5_ h6_
         have BK178 := n0_
         have BK181 := n1_
         have GW181 := n2_
         have GE181 := n3_
         have NB178_181 := n4_
         have NB181_178 := n5_
         have HB := n6_
         clear n0_ n1_ n2_ n3_ n4_ n5_ n6_
         have hHeld := trivial
         refine norm_ (a' := ?_) ?_ ?_
         rotate_left
         ·simp only [putAll, Act.put, List.setIfInBounds_toArray, List.set_cons_zero, List.set_cons_succ]
          rfl
         refine one_ (i := 21) (N := none) #[true, true, true, true, true, true, true, true, true, true, true, true, true, true, true, true, true, true, true, true, true, true] rfl rfl (one_of HT_.out (by kernel_rfl)) (by decide) (fun K hK => ?_)
         have hs35 : w34.cell? ⟨gb181, 0, none⟩ = some (.int .i64 0) := bc BK181 0
         have hfs35 := blk_frozen BK181.out 0
         have hns35_0 := NB178_181.out
         have hms35_0 := NB181_178.out
         have hs36 : w34.cell? ⟨gb181, 1, none⟩ = some (.int .i64 0) := bc BK181 1
         have hfs36 := blk_frozen BK181.out 1
         have hns36_0 := NB178_181.out
         have hms36_0 := NB181_178.out
         have hs37 : w34.cell? ⟨gb181, 2, none⟩ = some (.int .i64 0) := bc BK181 2
         have hfs37 := blk_frozen BK181.out 2
         have hns37_0 := NB178_181.out
         have hms37_0 := NB181_178.out
         have hs38 : w34.cell? ⟨gb181, 3, none⟩ = some (.int .i64 0) := bc BK181 3
         have hfs38 := blk_frozen BK181.out 3
         have hns38_0 := NB178_181.out
         have hms38_0 := NB181_178.out
         have hs39 : w34.cell? ⟨gb181, 4, none⟩ = some (.int .i64 0) := bc BK181 4
         have hfs39 := blk_frozen BK181.out 4
         have hns39_0 := NB178_181.out
         have hms39_0 := NB181_178.out
         have hs40 : w34.cell? ⟨gb181, 5, none⟩ = some (.string (⟨#[]⟩ : ByteArray)) := bc BK181 5
         have hfs40 := blk_frozen BK181.out 5
         have hns40_0 := NB178_181.out
         have hms40_0 := NB181_178.out
         have hs41 : w34.cell? ⟨gb181, 6, none⟩ = some (.string (⟨#[]⟩ : ByteArray)) := bc BK181 6
         have hfs41 := blk_frozen BK181.out 6
         have hns41_0 := NB178_181.out
         have hms41_0 := NB181_178.out
         refine skip_ (w1 := ?_) (by rfl) rfl ?_ ?_
         rotate_left
         ·go_simp
          rfl
         refine hK.out _ _ trivial (fun hHeld => ?_)
         clear hK K
         refine done_ (done_of HT_.out (by kernel_rfl)) ?_
         have hnb42 := NB181_178.out
         have hnc42 := NB178_181.out
         have hcz43_0 : w34.cell? ⟨gb181, 0, none⟩ = some (.int .i64 0) := bc BK181 0
         have hcz43_1 : w34.cell? ⟨gb181, 1, none⟩ = some (.int .i64 0) := bc BK181 1
         have hcz43_2 : w34.cell? ⟨gb181, 2, none⟩ = some (.int .i64 0) := bc BK181 2
         have hcz43_3 : w34.cell? ⟨gb181, 3, none⟩ = some (.int .i64 0) := bc BK181 3
         have hcz43_4 : w34.cell? ⟨gb181, 4, none⟩ = some (.int .i64 0) := bc BK181 4
         have hcz43_5 : w34.cell? ⟨gb181, 5, none⟩ = some (.string (⟨#[]⟩ : ByteArray)) := bc BK181 5
         have hcz43_6 : w34.cell? ⟨gb181, 6, none⟩ = some (.string (⟨#[]⟩ : ByteArray)) := bc BK181 6
         have hfz43_0 := blk_frozen BK181.out 0
         have hfz43_1 := blk_frozen BK181.out 1
         have hfz43_2 := blk_frozen BK181.out 2
         have hfz43_3 := blk_frozen BK181.out 3
         have hfz43_4 := blk_frozen BK181.out 4
         have hfz43_5 := blk_frozen BK181.out 5
         have hfz43_6 := blk_frozen BK181.out 6
         try go_wp2_with (first | ((with_reducible refine gate_callee (f := 8) rfl ?_); refine goesL_ (some 33) rfl rfl Try.func8 (by kernel_rfl) rfl #[.agg #[.int .i64 (Int.tmod (wrap64 (Int.tdiv t179 16)) 1024), .int .i64 (Int.tmod (wrap64 (Int.tdiv t179 2)) 8), .int .i64 (wrap64 (bt a0 2)), .int .i64 (wrap64 (bt a0 3)), .int .i64 (Int.tmod t180 2048), .string (a0.extract 6 34), .string (a0.extract 34 38)]] rfl gl_ ?_; (with_reducible refine (spec_DownPut.calls k (Int.tmod (wrap64 (Int.tdiv t179 16)) 1024) (Int.tmod (wrap64 (Int.tdiv t179 2)) 8) (wrap64 (bt a0 2)) (wrap64 (bt a0 3)) (Int.tmod t180 2048) (a0.extract 6 34) (a0.extract 34 38) t182 _ A13.out).mono ?_); rintro e w44 ⟨rfl, hb⟩; refine ⟨_, rfl, ?_⟩; have n0_ := m_ (blk_below (g := gb178) (o := .cells #[.int .i64 0, .int .i64 0, .int .i64 0, .int .i64 0, .int .i64 0, .string (⟨#[]⟩ : ByteArray), .string (⟨#[]⟩ : ByteArray)] 26 (0, 0)) (kF BK178.out NB178_181.out) hb); have n1_ := m_ (blk_below (g := gb181) (o := .cells #[.int .i64 (Int.tmod (wrap64 (Int.tdiv t179 16)) 1024), .int .i64 (Int.tmod (wrap64 (Int.tdiv t179 2)) 8), .int .i64 (wrap64 (bt a0 2)), .int .i64 (wrap64 (bt a0 3)), .int .i64 (Int.tmod t180 2048), .string (a0.extract 6 34), .string (a0.extract 34 38)] 26 (0, 0)) (kP BK181.out) hb); have n2_ := m_ (below_step (bN HB.out) hb); clear BK178; clear BK181; clear HB; have BK178 := n0_; have BK181 := n1_; have HB := n2_; clear n0_ n1_ n2_; (try clear hb); (try clear hb2); (try clear hk); (try clear hi); have hcz45_0 : w44.cell? ⟨gb178, 0, none⟩ = some (.int .i64 0) := bc BK178 0; have hcz45_1 : w44.cell? ⟨gb178, 1, none⟩ = some (.int .i64 0) := bc BK178 1; have hcz45_2 : w44.cell? ⟨gb178, 2, none⟩ = some (.int .i64 0) := bc BK178 2; have hcz45_3 : w44.cell? ⟨gb178, 3, none⟩ = some (.int .i64 0) := bc BK178 3; have hcz45_4 : w44.cell? ⟨gb178, 4, none⟩ = some (.int .i64 0) := bc BK178 4; have hcz45_5 : w44.cell? ⟨gb178, 5, none⟩ = some (.string (⟨#[]⟩ : ByteArray)) := bc BK178 5; have hcz45_6 : w44.cell? ⟨gb178, 6, none⟩ = some (.string (⟨#[]⟩ : ByteArray)) := bc BK178 6; have hfz45_0 := blk_frozen BK178.out 0; have hfz45_1 := blk_frozen BK178.out 1; have hfz45_2 := blk_frozen BK178.out 2; have hfz45_3 := blk_frozen BK178.out 3; have hfz45_4 := blk_frozen BK178.out 4; have hfz45_5 := blk_frozen BK178.out 5; have hfz45_6 := blk_frozen BK178.out 6))
         refine bodyPost_ret (results_ct rfl _ _ gb178 26 #[.int .i64 0, .int .i64 0, .int .i64 0, .int .i64 0, .int .i64 0, .string (⟨#[]⟩ : ByteArray), .string (⟨#[]⟩ : ByteArray)] (0, 0) _ rfl (kP BK178.out) Try.underlying26 rfl (by kernel_rfl)) rfl ?_
         exact ⟨by first | rfl | (simp [errW_none, errW_some] <;> rfl) | (simp [*, errW_none, errW_some] <;> rfl), by repeat (first | (with_reducible first | exact HB.out | apply below_alloc | apply pw_below_drewN | apply below_drew1 | refine below_set ?_ GE178.out | refine below_set ?_ GE181.out) | exact HB.out)⟩
       ·rw [if_neg c12] at H
        exact absurd H (by simp)
      ·rw [if_neg c11] at H
       exact absurd H (by simp)
     ·rw [if_neg c10] at H
      exact absurd H (by simp)
    ·rw [if_neg c9] at H
     exact absurd H (by simp)
   ·rw [if_neg c6] at H
    exact absurd H (by simp)
  ·rw [if_neg c4] at H
   exact absurd H (by simp)
 ·rw [if_neg c2] at H
  have c2b0 : ((a0.size : Int) == 40) = false := beq_eq_false_iff_ne.mpr c2
  have c2b1 : ((a0.size : Int) != 40) = true := bne_iff_ne.mpr c2
  simp only [Option.some.injEq, Prod.mk.injEq] at H
  obtain ⟨rfl, rfl, rfl, rfl, rfl, rfl, rfl, rfl⟩ := H
  go_enter Try.func11, Try.ntmps11
  go_wp2_with (first | ((with_reducible refine gate_dst (N := 2) rfl ?_); refine box_event ?hg (N := 2) ?hd (cs := #[.int .i64 0, .int .i64 0, .int .i64 0, .int .i64 0, .int .i64 0, .string (⟨#[]⟩ : ByteArray), .string (⟨#[]⟩ : ByteArray)]) (t := 26) ?hr ?_; (case hd => rfl); (case hg => rfl); (case hr => first | (go_simp; done) | (go_simp; rfl)); intro gb178 hg w46 hbox hb; have n0_ := m_ (below_step (bN HB.out) hb); have n1_ := m_ (hbox); have n2_ := m_ ((by rw [hg]; exact (below_size (bN HB.out)) : w.heap.size ≤ gb178)); have n3_ := m_ ((by rw [hg]; exact (below_size (bN HB.out)) : w.heap.size ≤ gb178)); clear HB; have HB := n0_; have BK178 := n1_; have GW178 := n2_; have GE178 := n3_; clear n0_ n1_ n2_ n3_; clear hb hbox hg; have hcz47_0 : w46.cell? ⟨gb178, 0, none⟩ = some (.int .i64 0) := bc BK178 0; have hcz47_1 : w46.cell? ⟨gb178, 1, none⟩ = some (.int .i64 0) := bc BK178 1; have hcz47_2 : w46.cell? ⟨gb178, 2, none⟩ = some (.int .i64 0) := bc BK178 2; have hcz47_3 : w46.cell? ⟨gb178, 3, none⟩ = some (.int .i64 0) := bc BK178 3; have hcz47_4 : w46.cell? ⟨gb178, 4, none⟩ = some (.int .i64 0) := bc BK178 4; have hcz47_5 : w46.cell? ⟨gb178, 5, none⟩ = some (.string (⟨#[]⟩ : ByteArray)) := bc BK178 5; have hcz47_6 : w46.cell? ⟨gb178, 6, none⟩ = some (.string (⟨#[]⟩ : ByteArray)) := bc BK178 6; have hfz47_0 := blk_frozen BK178.out 0; have hfz47_1 := blk_frozen BK178.out 1; have hfz47_2 := blk_frozen BK178.out 2; have hfz47_3 := blk_frozen BK178.out 3; have hfz47_4 := blk_frozen BK178.out 4; have hfz47_5 := blk_frozen BK178.out 5; have hfz47_6 := blk_frozen BK178.out 6))
  refine bodyPost_ret (results_ct rfl _ _ gb178 26 #[.int .i64 0, .int .i64 0, .int .i64 0, .int .i64 0, .int .i64 0, .string (⟨#[]⟩ : ByteArray), .string (⟨#[]⟩ : ByteArray)] (0, 0) _ rfl (kP BK178.out) Try.underlying26 rfl (by kernel_rfl)) rfl ?_
  exact ⟨by first | rfl | (simp [errW_none, errW_some] <;> rfl) | (simp [*, errW_none, errW_some] <;> rfl), by repeat (first | (with_reducible first | exact HB.out | apply below_alloc | apply pw_below_drewN | apply below_drew1 | refine below_set ?_ GE178.out) | exact HB.out)⟩

/-! ### spec_l14Spoil: function 41 -/
/-- '[]byte(s)': a new row, of which nothing else is. -/
theorem bytes_made {P : Program} (W0 : World) (src dst e : TypeId) (s : ByteArray) {u : TypeDesc} (hl : s.size ≤ 9223372036854775807) (hs : P.underlying src = some u) (hd : P.underlying dst = some (.slice e)) (he : P.underlying e = some (.int .u8)) :
    ∃ W c, (convert src dst (.string s)).run P W0 = .ok (.slice (some ⟨W0.heap.size, 0, none⟩) s.size c) W ∧ Aside0 (Below W0.heap.size W0 W) ∧ Aside0 (ReadsInt W .u8 (some ⟨W0.heap.size, 0, none⟩) s.size (bytesOf s)) ∧
      Aside0 (∀ j, j < s.size → W.frozen? ⟨W0.heap.size, j, none⟩ = false) := by
  refine ⟨_, _, Lib.run_convert_string_bytes W0 src dst e s hs hd he, ⟨bytes_below (Below.refl _ _) (Nat.le_refl _) e s⟩, ⟨bytes_reads W0 e s hl⟩, ⟨fun j hj => ?_⟩⟩
  have hz : s.size ≤ (Lib.bytesCells W0 e s).size := by simp [Lib.bytesCells]
  simp only [World.frozen?, Lib.bytesWorld_at_new, Bool.and_eq_false_iff, decide_eq_false_iff_not]
  left
  omega
def spoilK (s : ByteArray) (n : Int) : Nat := (n % 4096 % (s.size : Int)).toNat
def spoilV (s : ByteArray) (n : Int) : Int := Go.bits .xor .u8 ((bytesOf s).getD (spoilK s n) 0) (1 + n / 4096 % 127)
def spoilS (s : ByteArray) (n : Int) : ByteArray := strOfNums ((bytesOf s).set (spoilK s n) (spoilV s n))
def spec_l14Spoil.f (a0 : ByteArray) (a1 : Int) : Option (ByteArray × Bool) := if 0 < a0.size ∧ a0.size ≤ 9223372036854775807 ∧ 0 ≤ a1 ∧ a1 ≤ 9223372036854775807 then some (spoilS a0 a1, true) else none
theorem bytes_range (s : ByteArray) (k : Nat) : 0 ≤ (bytesOf s).getD k 0 ∧ (bytesOf s).getD k 0 ≤ 255 := by
  rw [List.getD_eq_getElem?_getD]
  cases e : (bytesOf s)[k]? with
  | none => simp
  | some x =>
    have := List.mem_of_getElem? e
    simp only [bytesOf, List.mem_map] at this
    obtain ⟨b, _, rfl⟩ := this
    have := b.toNat_lt
    simp
    omega
/-- A byte of a row that is read is written. -/
theorem reads_set {W : World} {g n k : Nat} {xs : List Int} {v : Int} (h : ReadsInt W .u8 (some ⟨g, 0, none⟩) n xs) (hk : k < n) : ReadsInt (W.setCell ⟨g, k, none⟩ (.int .u8 v)) .u8 (some ⟨g, 0, none⟩) n (xs.set k v) := by
  obtain ⟨h0, h1, h2⟩ := h
  refine ⟨by simpa using h0, h1, fun hn => ⟨_, rfl, fun j hj => ?_⟩⟩
  obtain ⟨ad, e, hc⟩ := h2 hn
  cases e
  have hj' := hc j hj
  have hk' := hc k hk
  rw [add_plain] at hj' hk' ⊢
  by_cases e : j = k
  · subst e
    rw [World.cell?_setCell_same _ _ _ hk']
    have : j < xs.length := by omega
    simp [List.getD_eq_getElem?_getD, this]
  · rw [World.cell?_setCell_other _ _ _ _ (by first | (simp; done) | (simp; exact fun h => e (Eq.symm h))), hj']
    have e2 : ¬ k = j := fun h => e (Eq.symm h)
    simp [List.getD_eq_getElem?_getD, e2]
set_option maxHeartbeats 8000000 in
set_option maxRecDepth 100000 in
theorem spec_l14Spoil.calls (a0 : ByteArray) (a1 : Int) (r1 : ByteArray) (r2 : Bool) (w : World) (h : spec_l14Spoil.f a0 a1 = some (r1, r2)) :
  Calls Try.prog 41 #[.string a0, .int .i64 a1] w fun e w' => e = .returned (.agg #[.string r1, .bool r2]) ∧ Below w.heap.size w w' := by
  unfold spec_l14Spoil.f at h
  split at h
  case isFalse => cases h
  rename_i hh
  obtain ⟨hp, hl, h0, h1⟩ := hh
  obtain ⟨rfl, rfl⟩ := Prod.mk.inj (Option.some.inj h)
  clear h
  obtain ⟨W, c, hrun, HB, HR, HF⟩ := bytes_made (P := Try.prog) (w.alloc (.cells #[.string ⟨#[]⟩, .bool false] 71)) 9 33 5 a0 hl Try.underlying9 Try.underlying33 Try.underlying5
  have hX : a1 % 4096 % (a0.size : Int) = (spoilK a0 a1 : Int) := by
    have := Int.emod_nonneg (a1 % 4096) (show (a0.size : Int) ≠ 0 by omega)
    unfold spoilK
    omega
  have hk : spoilK a0 a1 < a0.size := by
    have := Int.emod_lt_of_pos (a1 % 4096) (show (0 : Int) < a0.size by omega)
    omega
  obtain ⟨b0, b1⟩ := bytes_range a0 (spoilK a0 a1)
  have hcell : W.cell? ⟨w.heap.size + 1, spoilK a0 a1, none⟩ = some (.int .u8 ((bytesOf a0).getD (spoilK a0 a1) 0)) := by
    obtain ⟨ad, e, hc⟩ := HR.out.2.2 hp
    cases e
    have := hc _ hk
    rw [add_plain] at this
    simpa using this
  have hfz : W.frozen? ⟨w.heap.size + 1, spoilK a0 a1, none⟩ = false := by simpa using HF.out _ hk
  have hcv : ∀ v : Int, (convert 33 9 (.slice (some ⟨w.heap.size + 1, 0, none⟩) a0.size c)).run Try.prog (W.setCell ⟨w.heap.size + 1, spoilK a0 a1, none⟩ (.int .u8 v)) = .ok (.string (strOfNums ((bytesOf a0).set (spoilK a0 a1) v))) (W.setCell ⟨w.heap.size + 1, spoilK a0 a1, none⟩ (.int .u8 v)) := fun v =>
    string_of_reads Try.underlying33 Try.underlying5 Try.underlying9 (reads_set (by simpa using HR.out) hk)
  unfold spoilS spoilV
  generalize spoilK a0 a1 = k at hX hk hcell hfz hcv b0 b1 ⊢
  generalize (bytesOf a0).getD k 0 = b at hcell b0 b1 ⊢
  have hc0 : W.cell? ⟨w.heap.size, 0, none⟩ = some (.string ⟨#[]⟩) := by
    rw [HB.out.cell (p := ⟨w.heap.size, 0, none⟩) (by simp)]; simp
  have hc1 : W.cell? ⟨w.heap.size, 1, none⟩ = some (.bool false) := by
    rw [HB.out.cell (p := ⟨w.heap.size, 1, none⟩) (by simp)]; simp
  have hf0 : W.frozen? ⟨w.heap.size, 0, none⟩ = false := by
    rw [HB.out.frozen (p := ⟨w.heap.size, 0, none⟩) (by simp)]; simp
  have hf1 : W.frozen? ⟨w.heap.size, 1, none⟩ = false := by
    rw [HB.out.frozen (p := ⟨w.heap.size, 1, none⟩) (by simp)]; simp
  have hz : (w.alloc (.cells #[.string ⟨#[]⟩, .bool false] 71)).heap.size = w.heap.size + 1 := by simp
  rw [hz] at hrun
  go_enter Try.func41, Try.ntmps41
  go_wp2
  refine bodyPost_ret (v := .agg #[.string (strOfNums ((bytesOf a0).set k (Go.bits .xor .u8 b (1 + a1 / 4096 % 127)))), .bool true]) (by simp [results, Try.results41, go_sem, hc0, hc1]) rfl ⟨rfl, ?_⟩
  exact ((((((Below.refl _ _).alloc (Nat.le_refl _) _).trans (HB.out.mono (by simp))).setCell (by simp) _).setCell (by simp) _).setCell (by simp) _)

/-! ### spec_l15Turn: function 28 -/
def spec_l15Turn.f (k : Nat) (s0_0 : List Int) (s0_1 : Int) (a1 : ByteArray) : Option (ByteArray × Int) := if a1.toList = ([] : List UInt8) then (some (a1, s0_1)) else ((spec_l1Rd_pick.f k s0_0 s0_1 256).bind fun bt286 => ((spec_l1Rd_pick.f k s0_0 bt286.2 16).bind fun bt288 => ((spec_l1Rd_pick.f k s0_0 bt288.2 127).bind fun bt290 => ((spec_l14Spoil.f a1 (wrap64 ((wrap64 (bt286.1 + (wrap64 (bt288.1 * 256)))) + (wrap64 (bt290.1 * 4096))))).bind fun bt292 => (some (bt292.1, bt290.2))))))
theorem spec_l15Turn.mono : ∀ a0 a1 a2 k, LeO (spec_l15Turn.f k a0 a1 a2) (spec_l15Turn.f (k + 1) a0 a1 a2) := by
 intro a0 a1 a2 k
 unfold spec_l15Turn.f
 repeat' first
   | (with_reducible exact spec_l1Rd_pick.mono _ _ _ _)
   | (with_reducible exact LeO.refl _)
   | (with_reducible exact LeO.none _)
   | (with_reducible refine LeO.ite ?_ ?_)
   | (with_reducible refine LeO.bind ?_ (fun _ => ?_))
   | exact spec_l1Rd_pick.mono _ _ _ _
   | exact LeO.none _
   | refine LeO.ite ?_ ?_
   | refine LeO.bind ?_ (fun _ => ?_)
set_option maxHeartbeats 8000000 in
set_option maxRecDepth 100000 in
theorem spec_l15Turn.calls (k : Nat) (g : Nat) (s0_0 : List Int) (s0_1 : Int) (a1 : ByteArray) (r1 : ByteArray) (r2 : Int) (w0 w : World) (hI : IsS65 w0 w g s0_0 s0_1) (hB : Below w0.heap.size w0 w) (h : spec_l15Turn.f k s0_0 s0_1 a1 = some (r1, r2)) :
  Calls Try.prog 28 #[.pointer (some ⟨g, 0, none⟩), .string a1] w fun e w' => e = .returned (.string r1) ∧ IsS65 w0 w' g s0_0 r2 ∧ Below w0.heap.size w0 w' ∧ KeepBut w w' g none := by
 have hu71 := Try.underlying71
 have hf71_0 : ∀ (x0 : ByteArray) (x1 : Bool) (W : World), (Instr.field 71 (.agg #[.string x0, .bool x1]) 0).run Try.prog W = .ok (.string x0) W := fun _ _ _  => by rfl
 have HI0 := Aside0.mk hI
 have HK := m_ (KeepBut.refl w g none)
 have HL := Aside0.mk hB.size
 clear hI
 have HW0 := Aside0.mk hB.size
 have HB := Aside0.mk hB
 clear hB
 have H : (if a1.toList = ([] : List UInt8) then (some (a1, s0_1)) else ((spec_l1Rd_pick.f k s0_0 s0_1 256).bind fun bt286 => ((spec_l1Rd_pick.f k s0_0 bt286.2 16).bind fun bt288 => ((spec_l1Rd_pick.f k s0_0 bt288.2 127).bind fun bt290 => ((spec_l14Spoil.f a1 (wrap64 ((wrap64 (bt286.1 + (wrap64 (bt288.1 * 256)))) + (wrap64 (bt290.1 * 4096))))).bind fun bt292 => (some (bt292.1, bt290.2))))))) = some (r1, r2) := h
 clear h
 by_cases c3 : a1.toList = ([] : List UInt8)
 ·rw [if_pos c3] at H
  have c3b0 : (a1.toList == ([] : List UInt8)) = true := beq_iff_eq.mpr c3
  try have c3b7 : a1.toList.isEmpty = true := (by rw [← c3b0]; cases a1.toList <;> rfl)
  have c3b1 : (a1.toList != ([] : List UInt8)) = false := bne_eq_false_iff_eq.mpr c3
  clear c3
  simp only [Option.some.injEq, Prod.mk.injEq] at H
  obtain ⟨rfl, rfl⟩ := H
  go_enter Try.func28, Try.ntmps28
  go_wp2
  go_ret
  exact ⟨by first | rfl | (simp [errW_none, errW_some] <;> rfl) | (simp [*, errW_none, errW_some] <;> rfl), by repeat (first | (with_reducible first | exact HI0.out | apply IsS65.alloc | apply IsS65.drewN | apply IsS65.drew | apply IsS65.set_1) | exact HI0.out), by repeat (first | (with_reducible first | exact HB.out | apply below_alloc | apply pw_below_drewN | apply below_drew1 | refine below_set ?_ (IsS65.ge HI0.out)) | exact HB.out), by repeat (first | (with_reducible first | exact HK.out | apply KeepBut.set_ | apply keep_drewN | apply keep_drew | apply keep_alloc) | exact HK.out)⟩
 ·rw [if_neg c3] at H
  have c3b0 : (a1.toList == ([] : List UInt8)) = false := beq_eq_false_iff_ne.mpr c3
  try have c3b7 : a1.toList.isEmpty = false := (by rw [← c3b0]; cases a1.toList <;> rfl)
  have c3b1 : (a1.toList != ([] : List UInt8)) = true := bne_iff_ne.mpr c3
  replace H := Option.bind_eq_some_iff.mp H
  obtain ⟨⟨t286, t287⟩, A40, H⟩ := H
  replace H : ((spec_l1Rd_pick.f k s0_0 t287 16).bind fun bt288 => ((spec_l1Rd_pick.f k s0_0 bt288.2 127).bind fun bt290 => ((spec_l14Spoil.f a1 (wrap64 ((wrap64 (t286 + (wrap64 (bt288.1 * 256)))) + (wrap64 (bt290.1 * 4096))))).bind fun bt292 => (some (bt292.1, bt290.2))))) = some (r1, r2) := H
  have A4 := Aside0.mk A40
  clear A40
  replace H := Option.bind_eq_some_iff.mp H
  obtain ⟨⟨t288, t289⟩, A50, H⟩ := H
  replace H : ((spec_l1Rd_pick.f k s0_0 t289 127).bind fun bt290 => ((spec_l14Spoil.f a1 (wrap64 ((wrap64 (t286 + (wrap64 (t288 * 256)))) + (wrap64 (bt290.1 * 4096))))).bind fun bt292 => (some (bt292.1, bt290.2)))) = some (r1, r2) := H
  have A5 := Aside0.mk A50
  clear A50
  replace H := Option.bind_eq_some_iff.mp H
  obtain ⟨⟨t290, t291⟩, A60, H⟩ := H
  replace H : ((spec_l14Spoil.f a1 (wrap64 ((wrap64 (t286 + (wrap64 (t288 * 256)))) + (wrap64 (t290 * 4096))))).bind fun bt292 => (some (bt292.1, t291))) = some (r1, r2) := H
  have A6 := Aside0.mk A60
  clear A60
  replace H := Option.bind_eq_some_iff.mp H
  obtain ⟨⟨t292, t293⟩, A70, H⟩ := H
  replace H : (some (t292, t291)) = some (r1, r2) := H
  have A7 := Aside0.mk A70
  clear A70
  simp only [Option.some.injEq, Prod.mk.injEq] at H
  obtain ⟨rfl, rfl⟩ := H
  go_enter Try.func28, Try.ntmps28
  go_wp2_with (first | ((with_reducible refine gate_callee (f := 26) rfl ?_); refine goesL_ (some 10) rfl rfl Try.func26 (by kernel_rfl) rfl #[.pointer (some ⟨g, 0, none⟩), .int .i64 256] rfl gl_ ?_; (with_reducible refine (spec_l1Rd_pick.calls k g s0_0 s0_1 256 t286 t287 w0 _ ?side1 ?side2 A4.out).mono ?_); (case side1 => repeat (first | (with_reducible first | exact HI0.out | apply IsS65.alloc | apply IsS65.drewN | apply IsS65.drew | apply IsS65.set_1) | exact HI0.out)); (case side2 => repeat (first | (with_reducible first | exact HB.out | apply below_alloc | apply pw_below_drewN | apply below_drew1 | refine below_set ?_ (IsS65.ge HI0.out)) | exact HB.out)); rintro e w8 ⟨rfl, hi, hb, hk⟩; refine ⟨_, rfl, ?_⟩; have n0_ := m_ (KeepBut.trans (by repeat (first | (with_reducible first | exact HK.out | apply KeepBut.set_ | apply keep_drewN | apply keep_drew | apply keep_alloc) | exact HK.out)) hk (.inl rfl)); have n1_ := m_ (hb); have n2_ := m_ (hi); clear HK; clear HB; clear HI0; have HK := n0_; have HB := n1_; have HI0 := n2_; clear n0_ n1_ n2_; (try clear hb); (try clear hb2); (try clear hk); (try clear hi)) | ((with_reducible refine gate_callee (f := 26) rfl ?_); refine goesL_ (some 12) rfl rfl Try.func26 (by kernel_rfl) rfl #[.pointer (some ⟨g, 0, none⟩), .int .i64 16] rfl gl_ ?_; (with_reducible refine (spec_l1Rd_pick.calls k g s0_0 t287 16 t288 t289 w0 _ ?side1 ?side2 A5.out).mono ?_); (case side1 => repeat (first | (with_reducible first | exact HI0.out | apply IsS65.alloc | apply IsS65.drewN | apply IsS65.drew | apply IsS65.set_1) | exact HI0.out)); (case side2 => repeat (first | (with_reducible first | exact HB.out | apply below_alloc | apply pw_below_drewN | apply below_drew1 | refine below_set ?_ (IsS65.ge HI0.out)) | exact HB.out)); rintro e w9 ⟨rfl, hi, hb, hk⟩; refine ⟨_, rfl, ?_⟩; have n0_ := m_ (KeepBut.trans (by repeat (first | (with_reducible first | exact HK.out | apply KeepBut.set_ | apply keep_drewN | apply keep_drew | apply keep_alloc) | exact HK.out)) hk (.inl rfl)); have n1_ := m_ (hb); have n2_ := m_ (hi); clear HK; clear HB; clear HI0; have HK := n0_; have HB := n1_; have HI0 := n2_; clear n0_ n1_ n2_; (try clear hb); (try clear hb2); (try clear hk); (try clear hi)) | ((with_reducible refine gate_callee (f := 26) rfl ?_); refine goesL_ (some 16) rfl rfl Try.func26 (by kernel_rfl) rfl #[.pointer (some ⟨g, 0, none⟩), .int .i64 127] rfl gl_ ?_; (with_reducible refine (spec_l1Rd_pick.calls k g s0_0 t289 127 t290 t291 w0 _ ?side1 ?side2 A6.out).mono ?_); (case side1 => repeat (first | (with_reducible first | exact HI0.out | apply IsS65.alloc | apply IsS65.drewN | apply IsS65.drew | apply IsS65.set_1) | exact HI0.out)); (case side2 => repeat (first | (with_reducible first | exact HB.out | apply below_alloc | apply pw_below_drewN | apply below_drew1 | refine below_set ?_ (IsS65.ge HI0.out)) | exact HB.out)); rintro e w10 ⟨rfl, hi, hb, hk⟩; refine ⟨_, rfl, ?_⟩; have n0_ := m_ (KeepBut.trans (by repeat (first | (with_reducible first | exact HK.out | apply KeepBut.set_ | apply keep_drewN | apply keep_drew | apply keep_alloc) | exact HK.out)) hk (.inl rfl)); have n1_ := m_ (hb); have n2_ := m_ (hi); clear HK; clear HB; clear HI0; have HK := n0_; have HB := n1_; have HI0 := n2_; clear n0_ n1_ n2_; (try clear hb); (try clear hb2); (try clear hk); (try clear hi)) | ((with_reducible refine gate_callee (f := 41) rfl ?_); refine goesL_ (some 19) rfl rfl Try.func41 (by kernel_rfl) rfl #[.string a1, .int .i64 (wrap64 ((wrap64 (t286 + (wrap64 (t288 * 256)))) + (wrap64 (t290 * 4096))))] rfl gl_ ?_; (with_reducible refine (spec_l14Spoil.calls a1 (wrap64 ((wrap64 (t286 + (wrap64 (t288 * 256)))) + (wrap64 (t290 * 4096)))) t292 t293 _ A7.out).mono ?_); rintro e w11 ⟨rfl, hb⟩; refine ⟨_, rfl, ?_⟩; have n0_ := m_ (IsS65.below (by repeat (first | (with_reducible first | exact HI0.out | apply IsS65.alloc | apply IsS65.drewN | apply IsS65.drew | apply IsS65.set_1) | exact HI0.out)) hb); have n1_ := m_ (KeepBut.trans (by repeat (first | (with_reducible first | exact HK.out | apply KeepBut.set_ | apply keep_drewN | apply keep_drew | apply keep_alloc) | exact HK.out)) (KeepBut.of_below hb g none) (.inl rfl)); have n2_ := m_ (below_step (by repeat (first | (with_reducible first | exact HB.out | apply below_alloc | apply pw_below_drewN | apply below_drew1 | refine below_set ?_ (IsS65.ge HI0.out)) | exact HB.out)) hb); clear HI0; clear HK; clear HB; have HI0 := n0_; have HK := n1_; have HB := n2_; clear n0_ n1_ n2_; (try clear hb); (try clear hb2); (try clear hk); (try clear hi)))
  go_ret
  exact ⟨by first | rfl | (simp [errW_none, errW_some] <;> rfl) | (simp [*, errW_none, errW_some] <;> rfl), by repeat (first | (with_reducible first | exact HI0.out | apply IsS65.alloc | apply IsS65.drewN | apply IsS65.drew | apply IsS65.set_1) | exact HI0.out), by repeat (first | (with_reducible first | exact HB.out | apply below_alloc | apply pw_below_drewN | apply below_drew1 | refine below_set ?_ (IsS65.ge HI0.out)) | exact HB.out), by repeat (first | (with_reducible first | exact HK.out | apply KeepBut.set_ | apply keep_drewN | apply keep_drew | apply keep_alloc) | exact HK.out)⟩

/-! ### spec_DrawDownGet: function 15 -/
def spec_DrawDownGet.f (k : Nat) (l0 : List Int) : Option (ByteArray) := (spec_l1Open.f l0).bind fun bt294 => ((spec_l15Down.f k bt294.1 bt294.2).bind fun bt297 => ((spec_l12Put.f k bt297.1 bt297.2.1 bt297.2.2.1 bt297.2.2.2.1 bt297.2.2.2.2.1 bt297.2.2.2.2.2.1 bt297.2.2.2.2.2.2.1).bind fun t305 => ((spec_l1Rd_pick.f k bt294.1 bt297.2.2.2.2.2.2.2 4).bind fun bt306 => (if bt306.1 = 0 then ((spec_l15Turn.f k bt294.1 bt306.2 t305).bind fun bt308 => (some bt308.1)) else (if bt306.1 = 1 then (if 1 ≤ (t305.size : Int) then (some (t305.extract 1 t305.size)) else (none)) else (some t305))))))
theorem spec_DrawDownGet.mono : ∀ a0 k, LeO (spec_DrawDownGet.f k a0) (spec_DrawDownGet.f (k + 1) a0) := by
 intro a0 k
 unfold spec_DrawDownGet.f
 repeat' first
   | (with_reducible exact spec_l12Put.mono _ _ _ _ _ _ _ _)
   | (with_reducible exact spec_l15Down.mono _ _ _)
   | (with_reducible exact spec_l15Turn.mono _ _ _ _)
   | (with_reducible exact spec_l1Rd_pick.mono _ _ _ _)
   | (with_reducible exact LeO.refl _)
   | (with_reducible exact LeO.none _)
   | (with_reducible refine LeO.ite ?_ ?_)
   | (with_reducible refine LeO.bind ?_ (fun _ => ?_))
   | exact spec_l12Put.mono _ _ _ _ _ _ _ _
   | exact spec_l15Down.mono _ _ _
   | exact spec_l15Turn.mono _ _ _ _
   | exact spec_l1Rd_pick.mono _ _ _ _
   | exact LeO.none _
   | refine LeO.ite ?_ ?_
   | refine LeO.bind ?_ (fun _ => ?_)
set_option maxHeartbeats 8000000 in
set_option maxRecDepth 100000 in
theorem spec_DrawDownGet.calls (k : Nat) (A0 : Option Addr) (c0 : Nat) (l0 : List Int) (r : ByteArray) (w : World) (hr0 : Kd.C (Kd.int .u8) w A0 l0.length l0) (hc0 : l0.length ≤ c0) (h : spec_DrawDownGet.f k l0 = some r) :
  Calls Try.prog 15 #[.slice A0 l0.length c0] w fun e w' => e = .returned (.string r) ∧ Below w.heap.size w w' := by
 have HR0 := Aside0.mk hr0
 have HC0 := Aside0.mk hc0
 clear hr0 hc0
 have HB := m_ (Below.refl w.heap.size w)
 have H : ((spec_l1Open.f l0).bind fun bt294 => ((spec_l15Down.f k bt294.1 bt294.2).bind fun bt297 => ((spec_l12Put.f k bt297.1 bt297.2.1 bt297.2.2.1 bt297.2.2.2.1 bt297.2.2.2.2.1 bt297.2.2.2.2.2.1 bt297.2.2.2.2.2.2.1).bind fun t305 => ((spec_l1Rd_pick.f k bt294.1 bt297.2.2.2.2.2.2.2 4).bind fun bt306 => (if bt306.1 = 0 then ((spec_l15Turn.f k bt294.1 bt306.2 t305).bind fun bt308 => (some bt308.1)) else (if bt306.1 = 1 then (if 1 ≤ (t305.size : Int) then (some (t305.extract 1 t305.size)) else (none)) else (some t305))))))) = some r := h
 clear h
 replace H := Option.bind_eq_some_iff.mp H
 obtain ⟨⟨t294, t295⟩, A20, H⟩ := H
 replace H : ((spec_l15Down.f k t294 t295).bind fun bt297 => ((spec_l12Put.f k bt297.1 bt297.2.1 bt297.2.2.1 bt297.2.2.2.1 bt297.2.2.2.2.1 bt297.2.2.2.2.2.1 bt297.2.2.2.2.2.2.1).bind fun t305 => ((spec_l1Rd_pick.f k t294 bt297.2.2.2.2.2.2.2 4).bind fun bt306 => (if bt306.1 = 0 then ((spec_l15Turn.f k t294 bt306.2 t305).bind fun bt308 => (some bt308.1)) else (if bt306.1 = 1 then (if 1 ≤ (t305.size : Int) then (some (t305.extract 1 t305.size)) else (none)) else (some t305)))))) = some r := H
 have A2 := Aside0.mk A20
 clear A20
 replace H := Option.bind_eq_some_iff.mp H
 obtain ⟨⟨t297, t298, t299, t300, t301, t302, t303, t304⟩, A30, H⟩ := H
 replace H : ((spec_l12Put.f k t297 t298 t299 t300 t301 t302 t303).bind fun t305 => ((spec_l1Rd_pick.f k t294 t304 4).bind fun bt306 => (if bt306.1 = 0 then ((spec_l15Turn.f k t294 bt306.2 t305).bind fun bt308 => (some bt308.1)) else (if bt306.1 = 1 then (if 1 ≤ (t305.size : Int) then (some (t305.extract 1 t305.size)) else (none)) else (some t305))))) = some r := H
 have A3 := Aside0.mk A30
 clear A30
 replace H := Option.bind_eq_some_iff.mp H
 obtain ⟨t305, A40, H⟩ := H
 replace H : ((spec_l1Rd_pick.f k t294 t304 4).bind fun bt306 => (if bt306.1 = 0 then ((spec_l15Turn.f k t294 bt306.2 t305).bind fun bt308 => (some bt308.1)) else (if bt306.1 = 1 then (if 1 ≤ (t305.size : Int) then (some (t305.extract 1 t305.size)) else (none)) else (some t305)))) = some r := H
 have A4 := Aside0.mk A40
 clear A40
 replace H := Option.bind_eq_some_iff.mp H
 obtain ⟨⟨t306, t307⟩, A50, H⟩ := H
 replace H : (if t306 = 0 then ((spec_l15Turn.f k t294 t307 t305).bind fun bt308 => (some bt308.1)) else (if t306 = 1 then (if 1 ≤ (t305.size : Int) then (some (t305.extract 1 t305.size)) else (none)) else (some t305))) = some r := H
 have A5 := Aside0.mk A50
 clear A50
 by_cases c6 : t306 = 0
 ·rw [if_pos c6] at H
  have c6b0 : (t306 == 0) = true := beq_iff_eq.mpr c6
  have c6b1 : (t306 != 0) = false := bne_eq_false_iff_eq.mpr c6
  clear c6
  replace H := Option.bind_eq_some_iff.mp H
  obtain ⟨⟨t308, t309⟩, A70, H⟩ := H
  replace H : (some t308) = some r := H
  have A7 := Aside0.mk A70
  clear A70
  obtain rfl := Option.some.inj H
  go_enter Try.func15, Try.ntmps15
  go_wp2_with (first | ((with_reducible refine gate_callee (f := 24) rfl ?_); refine goesL_ (some 6) rfl rfl Try.func24 (by kernel_rfl) rfl #[.slice A0 l0.length c0] rfl gl_ ?_; (with_reducible refine (spec_l1Open.calls _ _ l0 t294 t295 w _ ?side1 ?side2 ?side3 A2.out).mono ?_); (case side1 => repeat (first | (with_reducible first | exact HB.out | apply below_alloc | apply pw_below_drewN | apply below_drew1) | exact HB.out)); (case side2 => exact HR0.out); (case side3 => exact HC0.out); rintro e w8 ⟨g296, rfl, hi, hb, hb2⟩; refine ⟨_, rfl, ?_⟩; have n0_ := m_ (hb); have n1_ := m_ (hi); clear HB; have HB := n0_; have HI296 := n1_; clear n0_ n1_; (try clear hb); (try clear hb2); (try clear hk); (try clear hi)) | ((with_reducible refine gate_callee (f := 25) rfl ?_); refine goesL_ (some 8) rfl rfl Try.func25 (by kernel_rfl) rfl #[.pointer (some ⟨g296, 0, none⟩)] rfl gl_ ?_; (with_reducible refine (spec_l15Down.calls k g296 t294 t295 t297 t298 t299 t300 t301 t302 t303 t304 w _ ?side1 ?side2 A3.out).mono ?_); (case side1 => repeat (first | (with_reducible first | exact HI296.out | apply IsS65.alloc | apply IsS65.drewN | apply IsS65.drew | apply IsS65.set_1) | exact HI296.out)); (case side2 => repeat (first | (with_reducible first | exact HB.out | apply below_alloc | apply pw_below_drewN | apply below_drew1 | refine below_set ?_ (IsS65.ge HI296.out)) | exact HB.out)); rintro e w9 ⟨rfl, hi, hb, hk⟩; refine ⟨_, rfl, ?_⟩; have n0_ := m_ (hb); have n1_ := m_ (hi); clear HB; clear HI296; have HB := n0_; have HI296 := n1_; clear n0_ n1_; (try clear hb); (try clear hb2); (try clear hk); (try clear hi)) | ((with_reducible refine gate_callee (f := 17) rfl ?_); refine goesL_ (some 9) rfl rfl Try.func17 (by kernel_rfl) rfl #[.agg #[.int .i64 t297, .int .i64 t298, .int .i64 t299, .int .i64 t300, .int .i64 t301, .string t302, .string t303]] rfl gl_ ?_; (with_reducible refine (spec_l12Put.calls k t297 t298 t299 t300 t301 t302 t303 t305 _ A4.out).mono ?_); rintro e w10 ⟨rfl, hb⟩; refine ⟨_, rfl, ?_⟩; have n0_ := m_ (IsS65.below (by repeat (first | (with_reducible first | exact HI296.out | apply IsS65.alloc | apply IsS65.drewN | apply IsS65.drew | apply IsS65.set_1) | exact HI296.out)) hb); have n1_ := m_ (below_step (by repeat (first | (with_reducible first | exact HB.out | apply below_alloc | apply pw_below_drewN | apply below_drew1 | refine below_set ?_ (IsS65.ge HI296.out)) | exact HB.out)) hb); clear HI296; clear HB; have HI296 := n0_; have HB := n1_; clear n0_ n1_; (try clear hb); (try clear hb2); (try clear hk); (try clear hi)) | ((with_reducible refine gate_callee (f := 26) rfl ?_); refine goesL_ (some 11) rfl rfl Try.func26 (by kernel_rfl) rfl #[.pointer (some ⟨g296, 0, none⟩), .int .i64 4] rfl gl_ ?_; (with_reducible refine (spec_l1Rd_pick.calls k g296 t294 t304 4 t306 t307 w _ ?side1 ?side2 A5.out).mono ?_); (case side1 => repeat (first | (with_reducible first | exact HI296.out | apply IsS65.alloc | apply IsS65.drewN | apply IsS65.drew | apply IsS65.set_1) | exact HI296.out)); (case side2 => repeat (first | (with_reducible first | exact HB.out | apply below_alloc | apply pw_below_drewN | apply below_drew1 | refine below_set ?_ (IsS65.ge HI296.out)) | exact HB.out)); rintro e w11 ⟨rfl, hi, hb, hk⟩; refine ⟨_, rfl, ?_⟩; have n0_ := m_ (hb); have n1_ := m_ (hi); clear HB; clear HI296; have HB := n0_; have HI296 := n1_; clear n0_ n1_; (try clear hb); (try clear hb2); (try clear hk); (try clear hi)) | ((with_reducible refine gate_callee (f := 28) rfl ?_); refine goesL_ (some 16) rfl rfl Try.func28 (by kernel_rfl) rfl #[.pointer (some ⟨g296, 0, none⟩), .string t305] rfl gl_ ?_; (with_reducible refine (spec_l15Turn.calls k g296 t294 t307 t305 t308 t309 w _ ?side1 ?side2 A7.out).mono ?_); (case side1 => repeat (first | (with_reducible first | exact HI296.out | apply IsS65.alloc | apply IsS65.drewN | apply IsS65.drew | apply IsS65.set_1) | exact HI296.out)); (case side2 => repeat (first | (with_reducible first | exact HB.out | apply below_alloc | apply pw_below_drewN | apply below_drew1 | refine below_set ?_ (IsS65.ge HI296.out)) | exact HB.out)); rintro e w12 ⟨rfl, hi, hb, hk⟩; refine ⟨_, rfl, ?_⟩; have n0_ := m_ (hb); have n1_ := m_ (hi); clear HB; clear HI296; have HB := n0_; have HI296 := n1_; clear n0_ n1_; (try clear hb); (try clear hb2); (try clear hk); (try clear hi)))
  go_ret
  exact ⟨by first | rfl | (simp [errW_none, errW_some] <;> rfl) | (simp [*, errW_none, errW_some] <;> rfl), by repeat (first | (with_reducible first | exact HB.out | apply below_alloc | apply pw_below_drewN | apply below_drew1 | refine below_set ?_ (IsS65.ge HI296.out)) | exact HB.out)⟩
 ·rw [if_neg c6] at H
  have c6b0 : (t306 == 0) = false := beq_eq_false_iff_ne.mpr c6
  have c6b1 : (t306 != 0) = true := bne_iff_ne.mpr c6
  by_cases c13 : t306 = 1
  ·rw [if_pos c13] at H
   have c13b0 : (t306 == 1) = true := beq_iff_eq.mpr c13
   have c13b1 : (t306 != 1) = false := bne_eq_false_iff_eq.mpr c13
   clear c13
   by_cases c14 : 1 ≤ (t305.size : Int)
   ·rw [if_pos c14] at H
    have c14b0 := eq_true c14
    have c14b1 : decide (1 ≤ (t305.size : Int)) = true := decide_eq_true c14
    clear c14
    obtain rfl := Option.some.inj H
    go_enter Try.func15, Try.ntmps15
    go_wp2_with (first | ((with_reducible refine gate_callee (f := 24) rfl ?_); refine goesL_ (some 6) rfl rfl Try.func24 (by kernel_rfl) rfl #[.slice A0 l0.length c0] rfl gl_ ?_; (with_reducible refine (spec_l1Open.calls _ _ l0 t294 t295 w _ ?side1 ?side2 ?side3 A2.out).mono ?_); (case side1 => repeat (first | (with_reducible first | exact HB.out | apply below_alloc | apply pw_below_drewN | apply below_drew1) | exact HB.out)); (case side2 => exact HR0.out); (case side3 => exact HC0.out); rintro e w15 ⟨g296, rfl, hi, hb, hb2⟩; refine ⟨_, rfl, ?_⟩; have n0_ := m_ (hb); have n1_ := m_ (hi); clear HB; have HB := n0_; have HI296 := n1_; clear n0_ n1_; (try clear hb); (try clear hb2); (try clear hk); (try clear hi)) | ((with_reducible refine gate_callee (f := 25) rfl ?_); refine goesL_ (some 8) rfl rfl Try.func25 (by kernel_rfl) rfl #[.pointer (some ⟨g296, 0, none⟩)] rfl gl_ ?_; (with_reducible refine (spec_l15Down.calls k g296 t294 t295 t297 t298 t299 t300 t301 t302 t303 t304 w _ ?side1 ?side2 A3.out).mono ?_); (case side1 => repeat (first | (with_reducible first | exact HI296.out | apply IsS65.alloc | apply IsS65.drewN | apply IsS65.drew | apply IsS65.set_1) | exact HI296.out)); (case side2 => repeat (first | (with_reducible first | exact HB.out | apply below_alloc | apply pw_below_drewN | apply below_drew1 | refine below_set ?_ (IsS65.ge HI296.out)) | exact HB.out)); rintro e w16 ⟨rfl, hi, hb, hk⟩; refine ⟨_, rfl, ?_⟩; have n0_ := m_ (hb); have n1_ := m_ (hi); clear HB; clear HI296; have HB := n0_; have HI296 := n1_; clear n0_ n1_; (try clear hb); (try clear hb2); (try clear hk); (try clear hi)) | ((with_reducible refine gate_callee (f := 17) rfl ?_); refine goesL_ (some 9) rfl rfl Try.func17 (by kernel_rfl) rfl #[.agg #[.int .i64 t297, .int .i64 t298, .int .i64 t299, .int .i64 t300, .int .i64 t301, .string t302, .string t303]] rfl gl_ ?_; (with_reducible refine (spec_l12Put.calls k t297 t298 t299 t300 t301 t302 t303 t305 _ A4.out).mono ?_); rintro e w17 ⟨rfl, hb⟩; refine ⟨_, rfl, ?_⟩; have n0_ := m_ (IsS65.below (by repeat (first | (with_reducible first | exact HI296.out | apply IsS65.alloc | apply IsS65.drewN | apply IsS65.drew | apply IsS65.set_1) | exact HI296.out)) hb); have n1_ := m_ (below_step (by repeat (first | (with_reducible first | exact HB.out | apply below_alloc | apply pw_below_drewN | apply below_drew1 | refine below_set ?_ (IsS65.ge HI296.out)) | exact HB.out)) hb); clear HI296; clear HB; have HI296 := n0_; have HB := n1_; clear n0_ n1_; (try clear hb); (try clear hb2); (try clear hk); (try clear hi)) | ((with_reducible refine gate_callee (f := 26) rfl ?_); refine goesL_ (some 11) rfl rfl Try.func26 (by kernel_rfl) rfl #[.pointer (some ⟨g296, 0, none⟩), .int .i64 4] rfl gl_ ?_; (with_reducible refine (spec_l1Rd_pick.calls k g296 t294 t304 4 t306 t307 w _ ?side1 ?side2 A5.out).mono ?_); (case side1 => repeat (first | (with_reducible first | exact HI296.out | apply IsS65.alloc | apply IsS65.drewN | apply IsS65.drew | apply IsS65.set_1) | exact HI296.out)); (case side2 => repeat (first | (with_reducible first | exact HB.out | apply below_alloc | apply pw_below_drewN | apply below_drew1 | refine below_set ?_ (IsS65.ge HI296.out)) | exact HB.out)); rintro e w18 ⟨rfl, hi, hb, hk⟩; refine ⟨_, rfl, ?_⟩; have n0_ := m_ (hb); have n1_ := m_ (hi); clear HB; clear HI296; have HB := n0_; have HI296 := n1_; clear n0_ n1_; (try clear hb); (try clear hb2); (try clear hk); (try clear hi)))
    go_ret
    exact ⟨by first | rfl | (simp [errW_none, errW_some] <;> rfl) | (simp [*, errW_none, errW_some] <;> rfl), by repeat (first | (with_reducible first | exact HB.out | apply below_alloc | apply pw_below_drewN | apply below_drew1 | refine below_set ?_ (IsS65.ge HI296.out)) | exact HB.out)⟩
   ·rw [if_neg c14] at H
    exact absurd H (by simp)
  ·rw [if_neg c13] at H
   have c13b0 : (t306 == 1) = false := beq_eq_false_iff_ne.mpr c13
   have c13b1 : (t306 != 1) = true := bne_iff_ne.mpr c13
   obtain rfl := Option.some.inj H
   go_enter Try.func15, Try.ntmps15
   go_wp2_with (first | ((with_reducible refine gate_callee (f := 24) rfl ?_); refine goesL_ (some 6) rfl rfl Try.func24 (by kernel_rfl) rfl #[.slice A0 l0.length c0] rfl gl_ ?_; (with_reducible refine (spec_l1Open.calls _ _ l0 t294 t295 w _ ?side1 ?side2 ?side3 A2.out).mono ?_); (case side1 => repeat (first | (with_reducible first | exact HB.out | apply below_alloc | apply pw_below_drewN | apply below_drew1) | exact HB.out)); (case side2 => exact HR0.out); (case side3 => exact HC0.out); rintro e w19 ⟨g296, rfl, hi, hb, hb2⟩; refine ⟨_, rfl, ?_⟩; have n0_ := m_ (hb); have n1_ := m_ (hi); clear HB; have HB := n0_; have HI296 := n1_; clear n0_ n1_; (try clear hb); (try clear hb2); (try clear hk); (try clear hi)) | ((with_reducible refine gate_callee (f := 25) rfl ?_); refine goesL_ (some 8) rfl rfl Try.func25 (by kernel_rfl) rfl #[.pointer (some ⟨g296, 0, none⟩)] rfl gl_ ?_; (with_reducible refine (spec_l15Down.calls k g296 t294 t295 t297 t298 t299 t300 t301 t302 t303 t304 w _ ?side1 ?side2 A3.out).mono ?_); (case side1 => repeat (first | (with_reducible first | exact HI296.out | apply IsS65.alloc | apply IsS65.drewN | apply IsS65.drew | apply IsS65.set_1) | exact HI296.out)); (case side2 => repeat (first | (with_reducible first | exact HB.out | apply below_alloc | apply pw_below_drewN | apply below_drew1 | refine below_set ?_ (IsS65.ge HI296.out)) | exact HB.out)); rintro e w20 ⟨rfl, hi, hb, hk⟩; refine ⟨_, rfl, ?_⟩; have n0_ := m_ (hb); have n1_ := m_ (hi); clear HB; clear HI296; have HB := n0_; have HI296 := n1_; clear n0_ n1_; (try clear hb); (try clear hb2); (try clear hk); (try clear hi)) | ((with_reducible refine gate_callee (f := 17) rfl ?_); refine goesL_ (some 9) rfl rfl Try.func17 (by kernel_rfl) rfl #[.agg #[.int .i64 t297, .int .i64 t298, .int .i64 t299, .int .i64 t300, .int .i64 t301, .string t302, .string t303]] rfl gl_ ?_; (with_reducible refine (spec_l12Put.calls k t297 t298 t299 t300 t301 t302 t303 t305 _ A4.out).mono ?_); rintro e w21 ⟨rfl, hb⟩; refine ⟨_, rfl, ?_⟩; have n0_ := m_ (IsS65.below (by repeat (first | (with_reducible first | exact HI296.out | apply IsS65.alloc | apply IsS65.drewN | apply IsS65.drew | apply IsS65.set_1) | exact HI296.out)) hb); have n1_ := m_ (below_step (by repeat (first | (with_reducible first | exact HB.out | apply below_alloc | apply pw_below_drewN | apply below_drew1 | refine below_set ?_ (IsS65.ge HI296.out)) | exact HB.out)) hb); clear HI296; clear HB; have HI296 := n0_; have HB := n1_; clear n0_ n1_; (try clear hb); (try clear hb2); (try clear hk); (try clear hi)) | ((with_reducible refine gate_callee (f := 26) rfl ?_); refine goesL_ (some 11) rfl rfl Try.func26 (by kernel_rfl) rfl #[.pointer (some ⟨g296, 0, none⟩), .int .i64 4] rfl gl_ ?_; (with_reducible refine (spec_l1Rd_pick.calls k g296 t294 t304 4 t306 t307 w _ ?side1 ?side2 A5.out).mono ?_); (case side1 => repeat (first | (with_reducible first | exact HI296.out | apply IsS65.alloc | apply IsS65.drewN | apply IsS65.drew | apply IsS65.set_1) | exact HI296.out)); (case side2 => repeat (first | (with_reducible first | exact HB.out | apply below_alloc | apply pw_below_drewN | apply below_drew1 | refine below_set ?_ (IsS65.ge HI296.out)) | exact HB.out)); rintro e w22 ⟨rfl, hi, hb, hk⟩; refine ⟨_, rfl, ?_⟩; have n0_ := m_ (hb); have n1_ := m_ (hi); clear HB; clear HI296; have HB := n0_; have HI296 := n1_; clear n0_ n1_; (try clear hb); (try clear hb2); (try clear hk); (try clear hi)))
   go_ret
   exact ⟨by first | rfl | (simp [errW_none, errW_some] <;> rfl) | (simp [*, errW_none, errW_some] <;> rfl), by repeat (first | (with_reducible first | exact HB.out | apply below_alloc | apply pw_below_drewN | apply below_drew1 | refine below_set ?_ (IsS65.ge HI296.out)) | exact HB.out)⟩

end Go.Proofs.Ytlfhbpofboicbaa.P
