/- The machine side of these statements, function by function: what each Go function answers (as a Lean function), and that it does. Written by a program (mp.py) for this claim. -/
import Derived.Test.YtlfhbpofboicbaaPx0
import Derived.Test.YtlfhbpofboicbaaPx4
import Derived.Test.YtlfhbpofboicbaaPx6
namespace Go.Proofs.Ytlfhbpofboicbaa.P
open Go.RowKit Go.Proofs.YtlfhbpofboicbaaW.PrintWords Go.Proofs.YtlfhbpofboicbaaW.PrintLast Go.Proofs.YtlfhbpofboicbaaW.PrintMore
attribute [local go_sem] max2_int min2_int max_two min_two max_three min_three max_four min_four   -- for this text's walks alone
set_option linter.unusedVariables false
set_option linter.unusedSimpArgs false

/-! ### impl_DownPut: function 10 -/
def impl_DownPut.f (k : Nat) (a0_0 : Int) (a0_1 : Int) (a0_2 : Int) (a0_3 : Int) (a0_4 : Int) (a0_5 : ByteArray) (a0_6 : ByteArray) : Option (ByteArray) := (impl_downOk.f k a0_0 a0_1 a0_2 a0_3 a0_4 a0_5 a0_6).bind fun t175 => (if t175 = true then ((impl_NumPut.f k (wrap64 ((wrap64 ((wrap64 (a0_0 * 16)) + (wrap64 (a0_1 * 2)))) + 1)) 2).bind fun t176 => ((impl_NumPut.f k a0_2 1).bind fun t177 => (if t176.size + t177.size ≤ 9223372036854775807 then ((impl_NumPut.f k a0_3 1).bind fun t178 => (if t176.size + t177.size + t178.size ≤ 9223372036854775807 then ((impl_NumPut.f k (wrap64 (6144 + a0_4)) 2).bind fun t179 => (if t176.size + t177.size + t178.size + t179.size ≤ 9223372036854775807 then (if t176.size + t177.size + t178.size + t179.size + a0_5.size ≤ 9223372036854775807 then (if t176.size + t177.size + t178.size + t179.size + a0_5.size + a0_6.size ≤ 9223372036854775807 then ((impl_Crc16.f (((((t176 ++ t177) ++ t178) ++ t179) ++ a0_5) ++ a0_6)).bind fun t180 => ((impl_NumPut.f k t180 2).bind fun t181 => (if t176.size + t177.size + t178.size + t179.size + a0_5.size + a0_6.size + t181.size ≤ 9223372036854775807 then (some ((((((t176 ++ t177) ++ t178) ++ t179) ++ a0_5) ++ a0_6) ++ t181)) else (none)))) else (none)) else (none)) else (none))) else (none))) else (none)))) else (some (⟨#[]⟩ : ByteArray)))
theorem impl_DownPut.mono : ∀ a0 a1 a2 a3 a4 a5 a6 k, LeO (impl_DownPut.f k a0 a1 a2 a3 a4 a5 a6) (impl_DownPut.f (k + 1) a0 a1 a2 a3 a4 a5 a6) := by
 intro a0 a1 a2 a3 a4 a5 a6 k
 unfold impl_DownPut.f
 repeat' first
   | (with_reducible exact impl_NumPut.mono _ _ _)
   | (with_reducible exact impl_downOk.mono _ _ _ _ _ _ _ _)
   | (with_reducible exact LeO.refl _)
   | (with_reducible exact LeO.none _)
   | (with_reducible refine LeO.ite ?_ ?_)
   | (with_reducible refine LeO.bind ?_ (fun _ => ?_))
   | exact impl_NumPut.mono _ _ _
   | exact impl_downOk.mono _ _ _ _ _ _ _ _
   | exact LeO.none _
   | refine LeO.ite ?_ ?_
   | refine LeO.bind ?_ (fun _ => ?_)
def impl_DownPut.T3 : Bool × List (List Nat × List Nat) := (true, [([], []), ([0], [0]), ([1], [1]), ([], []), ([3], [3]), ([4], [4]), ([2, 5], [2, 5]), ([6], [6]), ([7], [7]), ([], []), ([9], [9]), ([10, 8], [10]), ([8, 11], [8, 11]), ([], []), ([13], [13]), ([14, 11], [14]), ([12, 15], [12, 15]), ([], []), ([17], [17]), ([18], [18]), ([19, 15], [19]), ([16, 20], [16, 20]), ([], []), ([22], [22]), ([21, 23], [21, 23]), ([], []), ([25], [25]), ([24, 26], [24, 26]), ([27, 20, 0, 1, 2, 3, 4, 5, 6, 7, 8, 9, 10, 11, 12, 13, 14, 15, 16, 17, 18, 19, 20, 21, 22, 23, 24, 25, 26, 27], [27])])
def impl_DownPut.B3 : List Nat := [0, 1, 3, 0, 8, 24, 63, 127, 255, 0, 512, 2047, 4095, 0, 8192, 28671, 65535, 0, 131072, 393216, 978943, 2097151, 0, 4194304, 16777215, 0, 33554432, 134217727, 268435455]
theorem impl_DownPut.tab3 : rtab .any (opsOf Try.f10 3) = impl_DownPut.T3 := by kernel_rfl
theorem impl_DownPut.bits3 : waitsOk impl_DownPut.T3.2 impl_DownPut.B3 = true := by kernel_rfl
set_option maxHeartbeats 8000000 in
set_option maxRecDepth 100000 in
theorem impl_DownPut.calls (k : Nat) (a0_0 : Int) (a0_1 : Int) (a0_2 : Int) (a0_3 : Int) (a0_4 : Int) (a0_5 : ByteArray) (a0_6 : ByteArray) (r : ByteArray) (w : World) (h : impl_DownPut.f k a0_0 a0_1 a0_2 a0_3 a0_4 a0_5 a0_6 = some r) :
  Calls Try.prog 10 #[.agg #[.int .i64 a0_0, .int .i64 a0_1, .int .i64 a0_2, .int .i64 a0_3, .int .i64 a0_4, .string a0_5, .string a0_6]] w fun e w' => e = .returned (.string r) ∧ Below w.heap.size w w' := by
 have hu26 := Try.underlying26
 have HB := m_ (Below.refl w.heap.size w)
 have H : ((impl_downOk.f k a0_0 a0_1 a0_2 a0_3 a0_4 a0_5 a0_6).bind fun t175 => (if t175 = true then ((impl_NumPut.f k (wrap64 ((wrap64 ((wrap64 (a0_0 * 16)) + (wrap64 (a0_1 * 2)))) + 1)) 2).bind fun t176 => ((impl_NumPut.f k a0_2 1).bind fun t177 => (if t176.size + t177.size ≤ 9223372036854775807 then ((impl_NumPut.f k a0_3 1).bind fun t178 => (if t176.size + t177.size + t178.size ≤ 9223372036854775807 then ((impl_NumPut.f k (wrap64 (6144 + a0_4)) 2).bind fun t179 => (if t176.size + t177.size + t178.size + t179.size ≤ 9223372036854775807 then (if t176.size + t177.size + t178.size + t179.size + a0_5.size ≤ 9223372036854775807 then (if t176.size + t177.size + t178.size + t179.size + a0_5.size + a0_6.size ≤ 9223372036854775807 then ((impl_Crc16.f (((((t176 ++ t177) ++ t178) ++ t179) ++ a0_5) ++ a0_6)).bind fun t180 => ((impl_NumPut.f k t180 2).bind fun t181 => (if t176.size + t177.size + t178.size + t179.size + a0_5.size + a0_6.size + t181.size ≤ 9223372036854775807 then (some ((((((t176 ++ t177) ++ t178) ++ t179) ++ a0_5) ++ a0_6) ++ t181)) else (none)))) else (none)) else (none)) else (none))) else (none))) else (none)))) else (some (⟨#[]⟩ : ByteArray)))) = some r := h
 clear h
 replace H := Option.bind_eq_some_iff.mp H
 obtain ⟨t175, A20, H⟩ := H
 replace H : (if t175 = true then ((impl_NumPut.f k (wrap64 ((wrap64 ((wrap64 (a0_0 * 16)) + (wrap64 (a0_1 * 2)))) + 1)) 2).bind fun t176 => ((impl_NumPut.f k a0_2 1).bind fun t177 => (if t176.size + t177.size ≤ 9223372036854775807 then ((impl_NumPut.f k a0_3 1).bind fun t178 => (if t176.size + t177.size + t178.size ≤ 9223372036854775807 then ((impl_NumPut.f k (wrap64 (6144 + a0_4)) 2).bind fun t179 => (if t176.size + t177.size + t178.size + t179.size ≤ 9223372036854775807 then (if t176.size + t177.size + t178.size + t179.size + a0_5.size ≤ 9223372036854775807 then (if t176.size + t177.size + t178.size + t179.size + a0_5.size + a0_6.size ≤ 9223372036854775807 then ((impl_Crc16.f (((((t176 ++ t177) ++ t178) ++ t179) ++ a0_5) ++ a0_6)).bind fun t180 => ((impl_NumPut.f k t180 2).bind fun t181 => (if t176.size + t177.size + t178.size + t179.size + a0_5.size + a0_6.size + t181.size ≤ 9223372036854775807 then (some ((((((t176 ++ t177) ++ t178) ++ t179) ++ a0_5) ++ a0_6) ++ t181)) else (none)))) else (none)) else (none)) else (none))) else (none))) else (none)))) else (some (⟨#[]⟩ : ByteArray))) = some r := H
 have A2 := Aside0.mk A20
 clear A20
 by_cases c3 : t175 = true
 ·subst c3
  have H1 : ((impl_NumPut.f k (wrap64 ((wrap64 ((wrap64 (a0_0 * 16)) + (wrap64 (a0_1 * 2)))) + 1)) 2).bind fun t176 => ((impl_NumPut.f k a0_2 1).bind fun t177 => (if t176.size + t177.size ≤ 9223372036854775807 then ((impl_NumPut.f k a0_3 1).bind fun t178 => (if t176.size + t177.size + t178.size ≤ 9223372036854775807 then ((impl_NumPut.f k (wrap64 (6144 + a0_4)) 2).bind fun t179 => (if t176.size + t177.size + t178.size + t179.size ≤ 9223372036854775807 then (if t176.size + t177.size + t178.size + t179.size + a0_5.size ≤ 9223372036854775807 then (if t176.size + t177.size + t178.size + t179.size + a0_5.size + a0_6.size ≤ 9223372036854775807 then ((impl_Crc16.f (((((t176 ++ t177) ++ t178) ++ t179) ++ a0_5) ++ a0_6)).bind fun t180 => ((impl_NumPut.f k t180 2).bind fun t181 => (if t176.size + t177.size + t178.size + t179.size + a0_5.size + a0_6.size + t181.size ≤ 9223372036854775807 then (some ((((((t176 ++ t177) ++ t178) ++ t179) ++ a0_5) ++ a0_6) ++ t181)) else (none)))) else (none)) else (none)) else (none))) else (none))) else (none)))) = some r := by rw [if_pos rfl] at H; exact H
  clear H
  have H := H1
  clear H1
  replace H := Option.bind_eq_some_iff.mp H
  obtain ⟨t176, A40, H⟩ := H
  replace H : ((impl_NumPut.f k a0_2 1).bind fun t177 => (if t176.size + t177.size ≤ 9223372036854775807 then ((impl_NumPut.f k a0_3 1).bind fun t178 => (if t176.size + t177.size + t178.size ≤ 9223372036854775807 then ((impl_NumPut.f k (wrap64 (6144 + a0_4)) 2).bind fun t179 => (if t176.size + t177.size + t178.size + t179.size ≤ 9223372036854775807 then (if t176.size + t177.size + t178.size + t179.size + a0_5.size ≤ 9223372036854775807 then (if t176.size + t177.size + t178.size + t179.size + a0_5.size + a0_6.size ≤ 9223372036854775807 then ((impl_Crc16.f (((((t176 ++ t177) ++ t178) ++ t179) ++ a0_5) ++ a0_6)).bind fun t180 => ((impl_NumPut.f k t180 2).bind fun t181 => (if t176.size + t177.size + t178.size + t179.size + a0_5.size + a0_6.size + t181.size ≤ 9223372036854775807 then (some ((((((t176 ++ t177) ++ t178) ++ t179) ++ a0_5) ++ a0_6) ++ t181)) else (none)))) else (none)) else (none)) else (none))) else (none))) else (none))) = some r := H
  have A4 := Aside0.mk A40
  clear A40
  replace H := Option.bind_eq_some_iff.mp H
  obtain ⟨t177, A50, H⟩ := H
  replace H : (if t176.size + t177.size ≤ 9223372036854775807 then ((impl_NumPut.f k a0_3 1).bind fun t178 => (if t176.size + t177.size + t178.size ≤ 9223372036854775807 then ((impl_NumPut.f k (wrap64 (6144 + a0_4)) 2).bind fun t179 => (if t176.size + t177.size + t178.size + t179.size ≤ 9223372036854775807 then (if t176.size + t177.size + t178.size + t179.size + a0_5.size ≤ 9223372036854775807 then (if t176.size + t177.size + t178.size + t179.size + a0_5.size + a0_6.size ≤ 9223372036854775807 then ((impl_Crc16.f (((((t176 ++ t177) ++ t178) ++ t179) ++ a0_5) ++ a0_6)).bind fun t180 => ((impl_NumPut.f k t180 2).bind fun t181 => (if t176.size + t177.size + t178.size + t179.size + a0_5.size + a0_6.size + t181.size ≤ 9223372036854775807 then (some ((((((t176 ++ t177) ++ t178) ++ t179) ++ a0_5) ++ a0_6) ++ t181)) else (none)))) else (none)) else (none)) else (none))) else (none))) else (none)) = some r := H
  have A5 := Aside0.mk A50
  clear A50
  by_cases c6 : t176.size + t177.size ≤ 9223372036854775807
  ·rw [if_pos c6] at H
   have c6b0 := eq_true c6
   have c6b1 : decide (t176.size + t177.size ≤ 9223372036854775807) = true := decide_eq_true c6
   try have c6b2 : (9223372036854775807 < t176.size + t177.size) = False := eq_false (Nat.not_lt.2 c6)
   replace H := Option.bind_eq_some_iff.mp H
   obtain ⟨t178, A70, H⟩ := H
   replace H : (if t176.size + t177.size + t178.size ≤ 9223372036854775807 then ((impl_NumPut.f k (wrap64 (6144 + a0_4)) 2).bind fun t179 => (if t176.size + t177.size + t178.size + t179.size ≤ 9223372036854775807 then (if t176.size + t177.size + t178.size + t179.size + a0_5.size ≤ 9223372036854775807 then (if t176.size + t177.size + t178.size + t179.size + a0_5.size + a0_6.size ≤ 9223372036854775807 then ((impl_Crc16.f (((((t176 ++ t177) ++ t178) ++ t179) ++ a0_5) ++ a0_6)).bind fun t180 => ((impl_NumPut.f k t180 2).bind fun t181 => (if t176.size + t177.size + t178.size + t179.size + a0_5.size + a0_6.size + t181.size ≤ 9223372036854775807 then (some ((((((t176 ++ t177) ++ t178) ++ t179) ++ a0_5) ++ a0_6) ++ t181)) else (none)))) else (none)) else (none)) else (none))) else (none)) = some r := H
   have A7 := Aside0.mk A70
   clear A70
   by_cases c8 : t176.size + t177.size + t178.size ≤ 9223372036854775807
   ·rw [if_pos c8] at H
    have c8b0 := eq_true c8
    have c8b1 : decide (t176.size + t177.size + t178.size ≤ 9223372036854775807) = true := decide_eq_true c8
    try have c8b2 : (9223372036854775807 < t176.size + t177.size + t178.size) = False := eq_false (Nat.not_lt.2 c8)
    replace H := Option.bind_eq_some_iff.mp H
    obtain ⟨t179, A90, H⟩ := H
    replace H : (if t176.size + t177.size + t178.size + t179.size ≤ 9223372036854775807 then (if t176.size + t177.size + t178.size + t179.size + a0_5.size ≤ 9223372036854775807 then (if t176.size + t177.size + t178.size + t179.size + a0_5.size + a0_6.size ≤ 9223372036854775807 then ((impl_Crc16.f (((((t176 ++ t177) ++ t178) ++ t179) ++ a0_5) ++ a0_6)).bind fun t180 => ((impl_NumPut.f k t180 2).bind fun t181 => (if t176.size + t177.size + t178.size + t179.size + a0_5.size + a0_6.size + t181.size ≤ 9223372036854775807 then (some ((((((t176 ++ t177) ++ t178) ++ t179) ++ a0_5) ++ a0_6) ++ t181)) else (none)))) else (none)) else (none)) else (none)) = some r := H
    have A9 := Aside0.mk A90
    clear A90
    by_cases c10 : t176.size + t177.size + t178.size + t179.size ≤ 9223372036854775807
    ·rw [if_pos c10] at H
     have c10b0 := eq_true c10
     have c10b1 : decide (t176.size + t177.size + t178.size + t179.size ≤ 9223372036854775807) = true := decide_eq_true c10
     try have c10b2 : (9223372036854775807 < t176.size + t177.size + t178.size + t179.size) = False := eq_false (Nat.not_lt.2 c10)
     by_cases c11 : t176.size + t177.size + t178.size + t179.size + a0_5.size ≤ 9223372036854775807
     ·rw [if_pos c11] at H
      have c11b0 := eq_true c11
      have c11b1 : decide (t176.size + t177.size + t178.size + t179.size + a0_5.size ≤ 9223372036854775807) = true := decide_eq_true c11
      try have c11b2 : (9223372036854775807 < t176.size + t177.size + t178.size + t179.size + a0_5.size) = False := eq_false (Nat.not_lt.2 c11)
      by_cases c12 : t176.size + t177.size + t178.size + t179.size + a0_5.size + a0_6.size ≤ 9223372036854775807
      ·rw [if_pos c12] at H
       have c12b0 := eq_true c12
       have c12b1 : decide (t176.size + t177.size + t178.size + t179.size + a0_5.size + a0_6.size ≤ 9223372036854775807) = true := decide_eq_true c12
       try have c12b2 : (9223372036854775807 < t176.size + t177.size + t178.size + t179.size + a0_5.size + a0_6.size) = False := eq_false (Nat.not_lt.2 c12)
       replace H := Option.bind_eq_some_iff.mp H
       obtain ⟨t180, A130, H⟩ := H
       replace H : ((impl_NumPut.f k t180 2).bind fun t181 => (if t176.size + t177.size + t178.size + t179.size + a0_5.size + a0_6.size + t181.size ≤ 9223372036854775807 then (some ((((((t176 ++ t177) ++ t178) ++ t179) ++ a0_5) ++ a0_6) ++ t181)) else (none))) = some r := H
       have A13 := Aside0.mk A130
       clear A130
       replace H := Option.bind_eq_some_iff.mp H
       obtain ⟨t181, A140, H⟩ := H
       replace H : (if t176.size + t177.size + t178.size + t179.size + a0_5.size + a0_6.size + t181.size ≤ 9223372036854775807 then (some ((((((t176 ++ t177) ++ t178) ++ t179) ++ a0_5) ++ a0_6) ++ t181)) else (none)) = some r := H
       have A14 := Aside0.mk A140
       clear A140
       by_cases c15 : t176.size + t177.size + t178.size + t179.size + a0_5.size + a0_6.size + t181.size ≤ 9223372036854775807
       ·rw [if_pos c15] at H
        have c15b0 := eq_true c15
        have c15b1 : decide (t176.size + t177.size + t178.size + t179.size + a0_5.size + a0_6.size + t181.size ≤ 9223372036854775807) = true := decide_eq_true c15
        try have c15b2 : (9223372036854775807 < t176.size + t177.size + t178.size + t179.size + a0_5.size + a0_6.size + t181.size) = False := eq_false (Nat.not_lt.2 c15)
        obtain rfl := Option.some.inj H
        go_enter Try.func10, Try.ntmps10
        try go_wp2_with (first | ((with_reducible refine gate_dst (N := 1) rfl ?_); refine box_event ?hg (N := 1) ?hd (cs := #[.int .i64 a0_0, .int .i64 a0_1, .int .i64 a0_2, .int .i64 a0_3, .int .i64 a0_4, .string a0_5, .string a0_6]) (t := 26) ?hr ?_; (case hd => rfl); (case hg => rfl); (case hr => first | (go_simp; done) | (go_simp; rfl)); intro gb174 hg w16 hbox hb; have n0_ := m_ (below_step (bN HB.out) hb); have n1_ := m_ (hbox); have n2_ := m_ ((by rw [hg]; exact (below_size (bN HB.out)) : w.heap.size ≤ gb174)); have n3_ := m_ ((by rw [hg]; exact (below_size (bN HB.out)) : w.heap.size ≤ gb174)); clear HB; have HB := n0_; have BK174 := n1_; have GW174 := n2_; have GE174 := n3_; clear n0_ n1_ n2_ n3_; clear hb hbox hg; have hcz17_0 : w16.cell? ⟨gb174, 0, none⟩ = some (.int .i64 a0_0) := (blk_cell BK174.out 0).trans rfl; have hcz17_1 : w16.cell? ⟨gb174, 1, none⟩ = some (.int .i64 a0_1) := (blk_cell BK174.out 1).trans rfl; have hcz17_2 : w16.cell? ⟨gb174, 2, none⟩ = some (.int .i64 a0_2) := (blk_cell BK174.out 2).trans rfl; have hcz17_3 : w16.cell? ⟨gb174, 3, none⟩ = some (.int .i64 a0_3) := (blk_cell BK174.out 3).trans rfl; have hcz17_4 : w16.cell? ⟨gb174, 4, none⟩ = some (.int .i64 a0_4) := (blk_cell BK174.out 4).trans rfl; have hcz17_5 : w16.cell? ⟨gb174, 5, none⟩ = some (.string a0_5) := (blk_cell BK174.out 5).trans rfl; have hcz17_6 : w16.cell? ⟨gb174, 6, none⟩ = some (.string a0_6) := (blk_cell BK174.out 6).trans rfl; have hfz17_0 := blk_frozen BK174.out 0; have hfz17_1 := blk_frozen BK174.out 1; have hfz17_2 := blk_frozen BK174.out 2; have hfz17_3 := blk_frozen BK174.out 3; have hfz17_4 := blk_frozen BK174.out 4; have hfz17_5 := blk_frozen BK174.out 5; have hfz17_6 := blk_frozen BK174.out 6) | ((with_reducible refine gate_callee (f := 18) rfl ?_); refine goesL_ (some 5) rfl rfl Try.func18 (by kernel_rfl) rfl #[.agg #[.int .i64 a0_0, .int .i64 a0_1, .int .i64 a0_2, .int .i64 a0_3, .int .i64 a0_4, .string a0_5, .string a0_6]] rfl gl_ ?_; (with_reducible refine (impl_downOk.calls k a0_0 a0_1 a0_2 a0_3 a0_4 a0_5 a0_6 true _ A2.out).mono ?_); rintro e w18 ⟨rfl, hb⟩; refine ⟨_, rfl, ?_⟩; have n0_ := m_ (blk_below (kN BK174.out) hb); have n1_ := m_ (below_step (bN HB.out) hb); clear BK174; clear HB; have BK174 := n0_; have HB := n1_; clear n0_ n1_; (try clear hb); (try clear hb2); (try clear hk); (try clear hi)))
        have n0_ := m_ (blk_drew BK174.out)
        have n1_ := m_ (below_drew1 HB.out)
        clear BK174
        clear HB
        have BK174 := n0_
        have HB := n1_
        clear n0_ n1_
        refine start_ (n := 29) (S := fun w' => w'.cell? ⟨gb174, 0, none⟩ = some (.int .i64 a0_0) ∧ w'.cell? ⟨gb174, 1, none⟩ = some (.int .i64 a0_1) ∧ w'.cell? ⟨gb174, 2, none⟩ = some (.int .i64 a0_2) ∧ w'.cell? ⟨gb174, 3, none⟩ = some (.int .i64 a0_3) ∧ w'.cell? ⟨gb174, 4, none⟩ = some (.int .i64 a0_4) ∧ w'.cell? ⟨gb174, 5, none⟩ = some (.string a0_5) ∧ w'.cell? ⟨gb174, 6, none⟩ = some (.string a0_6)) (ds := []) #[false, false, false, false, false, false, false, false, false, false, false, false, false, false, false, false, false, false, false, false, false, false, false, false, false, false, false, false, false] (by kernel_rfl) rfl rfl ⟨(blk_cell BK174.out 0).trans rfl, (blk_cell BK174.out 1).trans rfl, (blk_cell BK174.out 2).trans rfl, (blk_cell BK174.out 3).trans rfl, (blk_cell BK174.out 4).trans rfl, (blk_cell BK174.out 5).trans rfl, (blk_cell BK174.out 6).trans rfl⟩ (fun hHeld => ?_); refine with_tabW impl_DownPut.tab3 impl_DownPut.bits3 (fun HT_ HW_ => ?_)
        generalize w18.drew = w19 at BK174 HB hHeld ⊢
        refine pu 0 7 HT_ (h := ?_)
        refine pu 3 10 HT_ (h := ?_)
        refine pu 9 16 HT_ (h := ?_)
        refine pu 13 20 HT_ (h := ?_)
        refine pu 17 24 HT_ (h := ?_)
        refine pu 22 29 HT_ (h := ?_)
        refine pu 25 32 HT_ (h := ?_)
        refine take_ (i := 1) (N := some 8) (v := ?_) (a' := ?_) #[true, true, false, true, false, false, false, false, false, true, false, false, false, true, false, false, false, true, false, false, false, false, true, false, false, true, false, false, false] rfl rfl (take_ofW HT_.out HW_.out (by kernel_rfl)) (fun _ _ _ h => h) (Or.inl ⟨by rfl, ?_⟩) hHeld ?_ ?_
        rotate_left
        ·rintro w' ⟨s0, s1, s2, s3, s4, s5, s6⟩
         go_simp
         with_reducible rfl
        rotate_left
        ·simp only [Act.put, List.setIfInBounds_toArray, List.set_cons_zero, List.set_cons_succ, i64_w, i32_w]
         rfl
        refine pu 2 9 HT_ (h := ?_)
        refine take_ (i := 4) (N := some 11) (v := ?_) (a' := ?_) #[true, true, true, true, true, false, false, false, false, true, false, false, false, true, false, false, false, true, false, false, false, false, true, false, false, true, false, false, false] rfl rfl (take_ofW HT_.out HW_.out (by kernel_rfl)) (fun _ _ _ h => h) (Or.inl ⟨by rfl, ?_⟩) hHeld ?_ ?_
        rotate_left
        ·rintro w' ⟨s0, s1, s2, s3, s4, s5, s6⟩
         go_simp
         with_reducible rfl
        rotate_left
        ·simp only [Act.put, List.setIfInBounds_toArray, List.set_cons_zero, List.set_cons_succ, i64_w, i32_w]
         rfl
        refine pu 5 12 HT_ (h := ?_)
        refine pu 6 13 HT_ (h := ?_)
        refine pu 7 14 HT_ (h := ?_)
        refine take_ (i := 10) (N := some 17) (v := ?_) (a' := ?_) #[true, true, true, true, true, true, true, true, false, true, true, false, false, true, false, false, false, true, false, false, false, false, true, false, false, true, false, false, false] rfl rfl (take_ofW HT_.out HW_.out (by kernel_rfl)) (fun _ _ _ h => h) (Or.inl ⟨by rfl, ?_⟩) hHeld ?_ ?_
        rotate_left
        ·rintro w' ⟨s0, s1, s2, s3, s4, s5, s6⟩
         go_simp
         with_reducible rfl
        rotate_left
        ·simp only [Act.put, List.setIfInBounds_toArray, List.set_cons_zero, List.set_cons_succ, i64_w, i32_w]
         rfl
        refine take_ (i := 14) (N := some 21) (v := ?_) (a' := ?_) #[true, true, true, true, true, true, true, true, false, true, true, false, false, true, true, false, false, true, false, false, false, false, true, false, false, true, false, false, false] rfl rfl (take_ofW HT_.out HW_.out (by kernel_rfl)) (fun _ _ _ h => h) (Or.inl ⟨by rfl, ?_⟩) hHeld ?_ ?_
        rotate_left
        ·rintro w' ⟨s0, s1, s2, s3, s4, s5, s6⟩
         go_simp
         with_reducible rfl
        rotate_left
        ·simp only [Act.put, List.setIfInBounds_toArray, List.set_cons_zero, List.set_cons_succ, i64_w, i32_w]
         rfl
        refine take_ (i := 18) (N := some 25) (v := ?_) (a' := ?_) #[true, true, true, true, true, true, true, true, false, true, true, false, false, true, true, false, false, true, true, false, false, false, true, false, false, true, false, false, false] rfl rfl (take_ofW HT_.out HW_.out (by kernel_rfl)) (fun _ _ _ h => h) (Or.inl ⟨by rfl, ?_⟩) hHeld ?_ ?_
        rotate_left
        ·rintro w' ⟨s0, s1, s2, s3, s4, s5, s6⟩
         go_simp
         with_reducible rfl
        rotate_left
        ·simp only [Act.put, List.setIfInBounds_toArray, List.set_cons_zero, List.set_cons_succ, i64_w, i32_w]
         rfl
        refine pu 19 26 HT_ (h := ?_)
        refine take_ (i := 23) (N := some 30) (v := ?_) (a' := ?_) #[true, true, true, true, true, true, true, true, false, true, true, false, false, true, true, false, false, true, true, true, false, false, true, true, false, true, false, false, false] rfl rfl (take_ofW HT_.out HW_.out (by kernel_rfl)) (fun _ _ _ h => h) (Or.inl ⟨by rfl, ?_⟩) hHeld ?_ ?_
        rotate_left
        ·rintro w' ⟨s0, s1, s2, s3, s4, s5, s6⟩
         go_simp
         with_reducible rfl
        rotate_left
        ·simp only [Act.put, List.setIfInBounds_toArray, List.set_cons_zero, List.set_cons_succ, i64_w, i32_w]
         rfl
        refine take_ (i := 26) (N := some 33) (v := ?_) (a' := ?_) #[true, true, true, true, true, true, true, true, false, true, true, false, false, true, true, false, false, true, true, true, false, false, true, true, false, true, true, false, false] rfl rfl (take_ofW HT_.out HW_.out (by kernel_rfl)) (fun _ _ _ h => h) (Or.inl ⟨by rfl, ?_⟩) hHeld ?_ ?_
        rotate_left
        ·rintro w' ⟨s0, s1, s2, s3, s4, s5, s6⟩
         go_simp
         with_reducible rfl
        rotate_left
        ·simp only [Act.put, List.setIfInBounds_toArray, List.set_cons_zero, List.set_cons_succ, i64_w, i32_w]
         rfl
        refine one_ (i := 8) (N := some 15) #[true, true, true, true, true, true, true, true, true, true, true, false, false, true, true, false, false, true, true, true, false, false, true, true, false, true, true, false, false] rfl rfl (one_of HT_.out (by kernel_rfl)) (by decide) (fun K hK => ?_)
        refine goes_ Try.func19 (by kernel_rfl) rfl #[.int .i64 (wrap64 ((wrap64 ((wrap64 (a0_0 * 16)) + (wrap64 (a0_1 * 2)))) + 1)), .int .i64 2] (by rfl) rfl rfl gl_ ?_
        with_reducible refine (impl_NumPut.calls k (wrap64 ((wrap64 ((wrap64 (a0_0 * 16)) + (wrap64 (a0_1 * 2)))) + 1)) 2 t176 _ A4.out).mono ?_
        rintro e w20 ⟨rfl, hb⟩
        refine ⟨_, rfl, ?_⟩
        have n0_ := m_ (blk_below (kN BK174.out) hb)
        have n1_ := m_ (below_step (bN HB.out) hb)
        clear BK174
        clear HB
        have BK174 := n0_
        have HB := n1_
        clear n0_ n1_
        (try clear hb)
        (try clear hb2)
        (try clear hk)
        (try clear hi)
        refine hK.out _ _ ⟨(blk_cell BK174.out 0).trans rfl, (blk_cell BK174.out 1).trans rfl, (blk_cell BK174.out 2).trans rfl, (blk_cell BK174.out 3).trans rfl, (blk_cell BK174.out 4).trans rfl, (blk_cell BK174.out 5).trans rfl, (blk_cell BK174.out 6).trans rfl⟩ (fun hHeld => ?_)
        clear hK K
        refine norm_ (a' := ?_) ?_ ?_
        rotate_left
        ·show Act.put _ (some 15) _ = _
         simp only [Act.put, List.setIfInBounds_toArray, List.set_cons_zero, List.set_cons_succ, i64_w, i32_w]
         rfl
        refine one_ (i := 11) (N := some 18) #[true, true, true, true, true, true, true, true, true, true, true, true, false, true, true, false, false, true, true, true, false, false, true, true, false, true, true, false, false] rfl rfl (one_of HT_.out (by kernel_rfl)) (by decide) (fun K hK => ?_)
        refine goes_ Try.func19 (by kernel_rfl) rfl #[.int .i64 a0_2, .int .i64 1] (by rfl) rfl rfl gl_ ?_
        with_reducible refine (impl_NumPut.calls k a0_2 1 t177 _ A5.out).mono ?_
        rintro e w21 ⟨rfl, hb⟩
        refine ⟨_, rfl, ?_⟩
        have n0_ := m_ (blk_below (kN BK174.out) hb)
        have n1_ := m_ (below_step (bN HB.out) hb)
        clear BK174
        clear HB
        have BK174 := n0_
        have HB := n1_
        clear n0_ n1_
        (try clear hb)
        (try clear hb2)
        (try clear hk)
        (try clear hi)
        refine hK.out _ _ ⟨(blk_cell BK174.out 0).trans rfl, (blk_cell BK174.out 1).trans rfl, (blk_cell BK174.out 2).trans rfl, (blk_cell BK174.out 3).trans rfl, (blk_cell BK174.out 4).trans rfl, (blk_cell BK174.out 5).trans rfl, (blk_cell BK174.out 6).trans rfl⟩ (fun hHeld => ?_)
        clear hK K
        refine norm_ (a' := ?_) ?_ ?_
        rotate_left
        ·show Act.put _ (some 18) _ = _
         simp only [Act.put, List.setIfInBounds_toArray, List.set_cons_zero, List.set_cons_succ, i64_w, i32_w]
         rfl
        refine pu 12 19 HT_ (h := ?_)
        refine one_ (i := 15) (N := some 22) #[true, true, true, true, true, true, true, true, true, true, true, true, true, true, true, true, false, true, true, true, false, false, true, true, false, true, true, false, false] rfl rfl (one_of HT_.out (by kernel_rfl)) (by decide) (fun K hK => ?_)
        refine goes_ Try.func19 (by kernel_rfl) rfl #[.int .i64 a0_3, .int .i64 1] (by rfl) rfl rfl gl_ ?_
        with_reducible refine (impl_NumPut.calls k a0_3 1 t178 _ A7.out).mono ?_
        rintro e w22 ⟨rfl, hb⟩
        refine ⟨_, rfl, ?_⟩
        have n0_ := m_ (blk_below (kN BK174.out) hb)
        have n1_ := m_ (below_step (bN HB.out) hb)
        clear BK174
        clear HB
        have BK174 := n0_
        have HB := n1_
        clear n0_ n1_
        (try clear hb)
        (try clear hb2)
        (try clear hk)
        (try clear hi)
        refine hK.out _ _ ⟨(blk_cell BK174.out 0).trans rfl, (blk_cell BK174.out 1).trans rfl, (blk_cell BK174.out 2).trans rfl, (blk_cell BK174.out 3).trans rfl, (blk_cell BK174.out 4).trans rfl, (blk_cell BK174.out 5).trans rfl, (blk_cell BK174.out 6).trans rfl⟩ (fun hHeld => ?_)
        clear hK K
        refine norm_ (a' := ?_) ?_ ?_
        rotate_left
        ·show Act.put _ (some 22) _ = _
         simp only [Act.put, List.setIfInBounds_toArray, List.set_cons_zero, List.set_cons_succ, i64_w, i32_w]
         rfl
        refine pu 16 23 HT_ (h := ?_)
        refine one_ (i := 20) (N := some 27) #[true, true, true, true, true, true, true, true, true, true, true, true, true, true, true, true, true, true, true, true, true, false, true, true, false, true, true, false, false] rfl rfl (one_of HT_.out (by kernel_rfl)) (by decide) (fun K hK => ?_)
        refine goes_ Try.func19 (by kernel_rfl) rfl #[.int .i64 (wrap64 (6144 + a0_4)), .int .i64 2] (by rfl) rfl rfl gl_ ?_
        with_reducible refine (impl_NumPut.calls k (wrap64 (6144 + a0_4)) 2 t179 _ A9.out).mono ?_
        rintro e w23 ⟨rfl, hb⟩
        refine ⟨_, rfl, ?_⟩
        have n0_ := m_ (blk_below (kN BK174.out) hb)
        have n1_ := m_ (below_step (bN HB.out) hb)
        clear BK174
        clear HB
        have BK174 := n0_
        have HB := n1_
        clear n0_ n1_
        (try clear hb)
        (try clear hb2)
        (try clear hk)
        (try clear hi)
        refine hK.out _ _ ⟨(blk_cell BK174.out 0).trans rfl, (blk_cell BK174.out 1).trans rfl, (blk_cell BK174.out 2).trans rfl, (blk_cell BK174.out 3).trans rfl, (blk_cell BK174.out 4).trans rfl, (blk_cell BK174.out 5).trans rfl, (blk_cell BK174.out 6).trans rfl⟩ (fun hHeld => ?_)
        clear hK K
        refine norm_ (a' := ?_) ?_ ?_
        rotate_left
        ·show Act.put _ (some 27) _ = _
         simp only [Act.put, List.setIfInBounds_toArray, List.set_cons_zero, List.set_cons_succ, i64_w, i32_w]
         rfl
        refine pu 21 28 HT_ (h := ?_)
        refine pu 24 31 HT_ (h := ?_)
        refine pu 27 34 HT_ (h := ?_)
        refine pu 28 3 HT_ (h := ?_)
        refine done_ (done_of HT_.out (by kernel_rfl)) ?_
        try go_wp2_with (first | ((with_reducible refine gate_callee (f := 20) rfl ?_); refine goesL_ (some 37) rfl rfl Try.func20 (by kernel_rfl) rfl #[.string (((((t176 ++ t177) ++ t178) ++ t179) ++ a0_5) ++ a0_6)] rfl gl_ ?_; (with_reducible refine (impl_Crc16.calls (((((t176 ++ t177) ++ t178) ++ t179) ++ a0_5) ++ a0_6) t180 _ A13.out).mono ?_); rintro e w24 ⟨rfl, hb⟩; refine ⟨_, rfl, ?_⟩; have n0_ := m_ (blk_below (kN BK174.out) hb); have n1_ := m_ (below_step (bN HB.out) hb); clear BK174; clear HB; have BK174 := n0_; have HB := n1_; clear n0_ n1_; (try clear hb); (try clear hb2); (try clear hk); (try clear hi)) | ((with_reducible refine gate_callee (f := 19) rfl ?_); refine goesL_ (some 38) rfl rfl Try.func19 (by kernel_rfl) rfl #[.int .i64 t180, .int .i64 2] rfl gl_ ?_; (with_reducible refine (impl_NumPut.calls k t180 2 t181 _ A14.out).mono ?_); rintro e w25 ⟨rfl, hb⟩; refine ⟨_, rfl, ?_⟩; have n0_ := m_ (blk_below (kN BK174.out) hb); have n1_ := m_ (below_step (bN HB.out) hb); clear BK174; clear HB; have BK174 := n0_; have HB := n1_; clear n0_ n1_; (try clear hb); (try clear hb2); (try clear hk); (try clear hi)))
        go_ret
        exact ⟨by first | rfl | (simp [errW_none, errW_some] <;> rfl) | (simp [*, errW_none, errW_some] <;> rfl), by repeat (first | (with_reducible first | exact HB.out | apply below_alloc | apply pw_below_drewN | apply below_drew1 | refine below_set ?_ GE174.out) | exact HB.out)⟩
       ·rw [if_neg c15] at H
        exact absurd H (by simp)
      ·rw [if_neg c12] at H
       exact absurd H (by simp)
     ·rw [if_neg c11] at H
      exact absurd H (by simp)
    ·rw [if_neg c10] at H
     exact absurd H (by simp)
   ·rw [if_neg c8] at H
    exact absurd H (by simp)
  ·rw [if_neg c6] at H
   exact absurd H (by simp)
 ·replace c3 := Bool.eq_false_iff.mpr c3
  subst c3
  have H1 : (some (⟨#[]⟩ : ByteArray)) = some r := by rw [if_neg (show ¬ (false = true) by decide)] at H; exact H
  clear H
  have H := H1
  clear H1
  obtain rfl := Option.some.inj H
  go_enter Try.func10, Try.ntmps10
  go_wp2_with (first | ((with_reducible refine gate_dst (N := 1) rfl ?_); refine box_event ?hg (N := 1) ?hd (cs := #[.int .i64 a0_0, .int .i64 a0_1, .int .i64 a0_2, .int .i64 a0_3, .int .i64 a0_4, .string a0_5, .string a0_6]) (t := 26) ?hr ?_; (case hd => rfl); (case hg => rfl); (case hr => first | (go_simp; done) | (go_simp; rfl)); intro gb174 hg w26 hbox hb; have n0_ := m_ (below_step (bN HB.out) hb); have n1_ := m_ (hbox); have n2_ := m_ ((by rw [hg]; exact (below_size (bN HB.out)) : w.heap.size ≤ gb174)); have n3_ := m_ ((by rw [hg]; exact (below_size (bN HB.out)) : w.heap.size ≤ gb174)); clear HB; have HB := n0_; have BK174 := n1_; have GW174 := n2_; have GE174 := n3_; clear n0_ n1_ n2_ n3_; clear hb hbox hg; have hcz27_0 : w26.cell? ⟨gb174, 0, none⟩ = some (.int .i64 a0_0) := (blk_cell BK174.out 0).trans rfl; have hcz27_1 : w26.cell? ⟨gb174, 1, none⟩ = some (.int .i64 a0_1) := (blk_cell BK174.out 1).trans rfl; have hcz27_2 : w26.cell? ⟨gb174, 2, none⟩ = some (.int .i64 a0_2) := (blk_cell BK174.out 2).trans rfl; have hcz27_3 : w26.cell? ⟨gb174, 3, none⟩ = some (.int .i64 a0_3) := (blk_cell BK174.out 3).trans rfl; have hcz27_4 : w26.cell? ⟨gb174, 4, none⟩ = some (.int .i64 a0_4) := (blk_cell BK174.out 4).trans rfl; have hcz27_5 : w26.cell? ⟨gb174, 5, none⟩ = some (.string a0_5) := (blk_cell BK174.out 5).trans rfl; have hcz27_6 : w26.cell? ⟨gb174, 6, none⟩ = some (.string a0_6) := (blk_cell BK174.out 6).trans rfl; have hfz27_0 := blk_frozen BK174.out 0; have hfz27_1 := blk_frozen BK174.out 1; have hfz27_2 := blk_frozen BK174.out 2; have hfz27_3 := blk_frozen BK174.out 3; have hfz27_4 := blk_frozen BK174.out 4; have hfz27_5 := blk_frozen BK174.out 5; have hfz27_6 := blk_frozen BK174.out 6) | ((with_reducible refine gate_callee (f := 18) rfl ?_); refine goesL_ (some 5) rfl rfl Try.func18 (by kernel_rfl) rfl #[.agg #[.int .i64 a0_0, .int .i64 a0_1, .int .i64 a0_2, .int .i64 a0_3, .int .i64 a0_4, .string a0_5, .string a0_6]] rfl gl_ ?_; (with_reducible refine (impl_downOk.calls k a0_0 a0_1 a0_2 a0_3 a0_4 a0_5 a0_6 false _ A2.out).mono ?_); rintro e w28 ⟨rfl, hb⟩; refine ⟨_, rfl, ?_⟩; have n0_ := m_ (blk_below (kN BK174.out) hb); have n1_ := m_ (below_step (bN HB.out) hb); clear BK174; clear HB; have BK174 := n0_; have HB := n1_; clear n0_ n1_; (try clear hb); (try clear hb2); (try clear hk); (try clear hi)))
  go_ret
  exact ⟨by first | rfl | (simp [errW_none, errW_some] <;> rfl) | (simp [*, errW_none, errW_some] <;> rfl), by repeat (first | (with_reducible first | exact HB.out | apply below_alloc | apply pw_below_drewN | apply below_drew1 | refine below_set ?_ GE174.out) | exact HB.out)⟩

end Go.Proofs.Ytlfhbpofboicbaa.P
