/- The machine side of these statements, function by function: what each Go function answers (as a Lean function), and that it does. Written by a program (mp.py) for this claim. -/
import Derived.Test.YtaolcmhgbanacaaPx0
import Derived.Test.YtaolcmhgbanacaaPx2
import Derived.Test.YtaolcmhgbanacaaPx3
import Derived.Test.YtaolcmhgbanacaaPx4
import Derived.Test.YtaolcmhgbanacaaPx6
namespace Go.Proofs.Ytaolcmhgbanacaa.P
open Go.RowKit Go.Proofs.YtaolcmhgbanacaaW.PrintWords Go.Proofs.YtaolcmhgbanacaaW.PrintLast Go.Proofs.YtaolcmhgbanacaaW.PrintMore
attribute [local go_sem] max2_int min2_int max_two min_two max_three min_three max_four min_four   -- for this text's walks alone
set_option linter.unusedVariables false
set_option linter.unusedSimpArgs false

/-! ### impl_DownPut: function 5 -/
def impl_DownPut.f (k : Nat) (a0_0 : Int) (a0_1 : Int) (a0_2 : Int) (a0_3 : Int) (a0_4 : Int) (a0_5 : ByteArray) (a0_6 : ByteArray) : Option (ByteArray) := (impl_downOk.f k a0_0 a0_1 a0_2 a0_3 a0_4 a0_5 a0_6).bind fun t246 => (if t246 = true then ((impl_NumPut.f k (wrap64 ((wrap64 ((wrap64 (a0_0 * 16)) + (wrap64 (a0_1 * 2)))) + 1)) 2).bind fun t247 => ((impl_NumPut.f k a0_2 1).bind fun t248 => (if t247.size + t248.size ≤ 9223372036854775807 then ((impl_NumPut.f k a0_3 1).bind fun t249 => (if t247.size + t248.size + t249.size ≤ 9223372036854775807 then ((impl_NumPut.f k (wrap64 (6144 + a0_4)) 2).bind fun t250 => (if t247.size + t248.size + t249.size + t250.size ≤ 9223372036854775807 then (if t247.size + t248.size + t249.size + t250.size + a0_5.size ≤ 9223372036854775807 then (if t247.size + t248.size + t249.size + t250.size + a0_5.size + a0_6.size ≤ 9223372036854775807 then ((impl_Crc16.f (((((t247 ++ t248) ++ t249) ++ t250) ++ a0_5) ++ a0_6)).bind fun t251 => ((impl_NumPut.f k t251 2).bind fun t252 => (if t247.size + t248.size + t249.size + t250.size + a0_5.size + a0_6.size + t252.size ≤ 9223372036854775807 then (some ((((((t247 ++ t248) ++ t249) ++ t250) ++ a0_5) ++ a0_6) ++ t252)) else (none)))) else (none)) else (none)) else (none))) else (none))) else (none)))) else (some (⟨#[]⟩ : ByteArray)))
theorem impl_DownPut.mono : ∀ a0 a1 a2 a3 a4 a5 a6 k, LeO (impl_DownPut.f k a0 a1 a2 a3 a4 a5 a6) (impl_DownPut.f (k + 1) a0 a1 a2 a3 a4 a5 a6) := by
 intro a0 a1 a2 a3 a4 a5 a6 k
 unfold impl_DownPut.f
 repeat' first
   | (with_reducible exact impl_NumPut.mono _ _ _)
   | (with_reducible exact impl_downOk.mono _ _ _ _ _ _ _ _)
   | (with_reducible exact LeO.refl _)
   | (with_reducible exact LeO.none _)
   | (with_reducible refine LeO.ite ?_ ?_)
   | (with_reducible refine LeO.bind ?_ (fun _ => ?_))
   | exact impl_NumPut.mono _ _ _
   | exact impl_downOk.mono _ _ _ _ _ _ _ _
   | exact LeO.none _
   | refine LeO.ite ?_ ?_
   | refine LeO.bind ?_ (fun _ => ?_)
def impl_DownPut.T3 : Bool × List (List Nat × List Nat) := (true, [([], []), ([0], [0]), ([1], [1]), ([], []), ([3], [3]), ([4], [4]), ([2, 5], [2, 5]), ([6], [6]), ([7], [7]), ([], []), ([9], [9]), ([10, 8], [10]), ([8, 11], [8, 11]), ([], []), ([13], [13]), ([14, 11], [14]), ([12, 15], [12, 15]), ([], []), ([17], [17]), ([18], [18]), ([19, 15], [19]), ([16, 20], [16, 20]), ([], []), ([22], [22]), ([21, 23], [21, 23]), ([], []), ([25], [25]), ([24, 26], [24, 26]), ([27, 20, 0, 1, 2, 3, 4, 5, 6, 7, 8, 9, 10, 11, 12, 13, 14, 15, 16, 17, 18, 19, 20, 21, 22, 23, 24, 25, 26, 27], [27])])
def impl_DownPut.B3 : List Nat := [0, 1, 3, 0, 8, 24, 63, 127, 255, 0, 512, 2047, 4095, 0, 8192, 28671, 65535, 0, 131072, 393216, 978943, 2097151, 0, 4194304, 16777215, 0, 33554432, 134217727, 268435455]
theorem impl_DownPut.tab3 : rtab .any (opsOf Try.f5 3) = impl_DownPut.T3 := by kernel_rfl
theorem impl_DownPut.bits3 : waitsOk impl_DownPut.T3.2 impl_DownPut.B3 = true := by kernel_rfl
set_option maxHeartbeats 8000000 in
set_option maxRecDepth 100000 in
theorem impl_DownPut.calls (k : Nat) (a0_0 : Int) (a0_1 : Int) (a0_2 : Int) (a0_3 : Int) (a0_4 : Int) (a0_5 : ByteArray) (a0_6 : ByteArray) (r : ByteArray) (w : World) (h : impl_DownPut.f k a0_0 a0_1 a0_2 a0_3 a0_4 a0_5 a0_6 = some r) :
  Calls Try.prog 5 #[.agg #[.int .i64 a0_0, .int .i64 a0_1, .int .i64 a0_2, .int .i64 a0_3, .int .i64 a0_4, .string a0_5, .string a0_6]] w fun e w' => e = .returned (.string r) ∧ Below w.heap.size w w' := by
 have hu24 := Try.underlying24
 have HB := m_ (Below.refl w.heap.size w)
 have H : ((impl_downOk.f k a0_0 a0_1 a0_2 a0_3 a0_4 a0_5 a0_6).bind fun t246 => (if t246 = true then ((impl_NumPut.f k (wrap64 ((wrap64 ((wrap64 (a0_0 * 16)) + (wrap64 (a0_1 * 2)))) + 1)) 2).bind fun t247 => ((impl_NumPut.f k a0_2 1).bind fun t248 => (if t247.size + t248.size ≤ 9223372036854775807 then ((impl_NumPut.f k a0_3 1).bind fun t249 => (if t247.size + t248.size + t249.size ≤ 9223372036854775807 then ((impl_NumPut.f k (wrap64 (6144 + a0_4)) 2).bind fun t250 => (if t247.size + t248.size + t249.size + t250.size ≤ 9223372036854775807 then (if t247.size + t248.size + t249.size + t250.size + a0_5.size ≤ 9223372036854775807 then (if t247.size + t248.size + t249.size + t250.size + a0_5.size + a0_6.size ≤ 9223372036854775807 then ((impl_Crc16.f (((((t247 ++ t248) ++ t249) ++ t250) ++ a0_5) ++ a0_6)).bind fun t251 => ((impl_NumPut.f k t251 2).bind fun t252 => (if t247.size + t248.size + t249.size + t250.size + a0_5.size + a0_6.size + t252.size ≤ 9223372036854775807 then (some ((((((t247 ++ t248) ++ t249) ++ t250) ++ a0_5) ++ a0_6) ++ t252)) else (none)))) else (none)) else (none)) else (none))) else (none))) else (none)))) else (some (⟨#[]⟩ : ByteArray)))) = some r := h
 clear h
 replace H := Option.bind_eq_some_iff.mp H
 obtain ⟨t246, A20, H⟩ := H
 replace H : (if t246 = true then ((impl_NumPut.f k (wrap64 ((wrap64 ((wrap64 (a0_0 * 16)) + (wrap64 (a0_1 * 2)))) + 1)) 2).bind fun t247 => ((impl_NumPut.f k a0_2 1).bind fun t248 => (if t247.size + t248.size ≤ 9223372036854775807 then ((impl_NumPut.f k a0_3 1).bind fun t249 => (if t247.size + t248.size + t249.size ≤ 9223372036854775807 then ((impl_NumPut.f k (wrap64 (6144 + a0_4)) 2).bind fun t250 => (if t247.size + t248.size + t249.size + t250.size ≤ 9223372036854775807 then (if t247.size + t248.size + t249.size + t250.size + a0_5.size ≤ 9223372036854775807 then (if t247.size + t248.size + t249.size + t250.size + a0_5.size + a0_6.size ≤ 9223372036854775807 then ((impl_Crc16.f (((((t247 ++ t248) ++ t249) ++ t250) ++ a0_5) ++ a0_6)).bind fun t251 => ((impl_NumPut.f k t251 2).bind fun t252 => (if t247.size + t248.size + t249.size + t250.size + a0_5.size + a0_6.size + t252.size ≤ 9223372036854775807 then (some ((((((t247 ++ t248) ++ t249) ++ t250) ++ a0_5) ++ a0_6) ++ t252)) else (none)))) else (none)) else (none)) else (none))) else (none))) else (none)))) else (some (⟨#[]⟩ : ByteArray))) = some r := H
 have A2 := Aside0.mk A20
 clear A20
 by_cases c3 : t246 = true
 ·subst c3
  have H1 : ((impl_NumPut.f k (wrap64 ((wrap64 ((wrap64 (a0_0 * 16)) + (wrap64 (a0_1 * 2)))) + 1)) 2).bind fun t247 => ((impl_NumPut.f k a0_2 1).bind fun t248 => (if t247.size + t248.size ≤ 9223372036854775807 then ((impl_NumPut.f k a0_3 1).bind fun t249 => (if t247.size + t248.size + t249.size ≤ 9223372036854775807 then ((impl_NumPut.f k (wrap64 (6144 + a0_4)) 2).bind fun t250 => (if t247.size + t248.size + t249.size + t250.size ≤ 9223372036854775807 then (if t247.size + t248.size + t249.size + t250.size + a0_5.size ≤ 9223372036854775807 then (if t247.size + t248.size + t249.size + t250.size + a0_5.size + a0_6.size ≤ 9223372036854775807 then ((impl_Crc16.f (((((t247 ++ t248) ++ t249) ++ t250) ++ a0_5) ++ a0_6)).bind fun t251 => ((impl_NumPut.f k t251 2).bind fun t252 => (if t247.size + t248.size + t249.size + t250.size + a0_5.size + a0_6.size + t252.size ≤ 9223372036854775807 then (some ((((((t247 ++ t248) ++ t249) ++ t250) ++ a0_5) ++ a0_6) ++ t252)) else (none)))) else (none)) else (none)) else (none))) else (none))) else (none)))) = some r := by rw [if_pos rfl] at H; exact H
  clear H
  have H := H1
  clear H1
  replace H := Option.bind_eq_some_iff.mp H
  obtain ⟨t247, A40, H⟩ := H
  replace H : ((impl_NumPut.f k a0_2 1).bind fun t248 => (if t247.size + t248.size ≤ 9223372036854775807 then ((impl_NumPut.f k a0_3 1).bind fun t249 => (if t247.size + t248.size + t249.size ≤ 9223372036854775807 then ((impl_NumPut.f k (wrap64 (6144 + a0_4)) 2).bind fun t250 => (if t247.size + t248.size + t249.size + t250.size ≤ 9223372036854775807 then (if t247.size + t248.size + t249.size + t250.size + a0_5.size ≤ 9223372036854775807 then (if t247.size + t248.size + t249.size + t250.size + a0_5.size + a0_6.size ≤ 9223372036854775807 then ((impl_Crc16.f (((((t247 ++ t248) ++ t249) ++ t250) ++ a0_5) ++ a0_6)).bind fun t251 => ((impl_NumPut.f k t251 2).bind fun t252 => (if t247.size + t248.size + t249.size + t250.size + a0_5.size + a0_6.size + t252.size ≤ 9223372036854775807 then (some ((((((t247 ++ t248) ++ t249) ++ t250) ++ a0_5) ++ a0_6) ++ t252)) else (none)))) else (none)) else (none)) else (none))) else (none))) else (none))) = some r := H
  have A4 := Aside0.mk A40
  clear A40
  replace H := Option.bind_eq_some_iff.mp H
  obtain ⟨t248, A50, H⟩ := H
  replace H : (if t247.size + t248.size ≤ 9223372036854775807 then ((impl_NumPut.f k a0_3 1).bind fun t249 => (if t247.size + t248.size + t249.size ≤ 9223372036854775807 then ((impl_NumPut.f k (wrap64 (6144 + a0_4)) 2).bind fun t250 => (if t247.size + t248.size + t249.size + t250.size ≤ 9223372036854775807 then (if t247.size + t248.size + t249.size + t250.size + a0_5.size ≤ 9223372036854775807 then (if t247.size + t248.size + t249.size + t250.size + a0_5.size + a0_6.size ≤ 9223372036854775807 then ((impl_Crc16.f (((((t247 ++ t248) ++ t249) ++ t250) ++ a0_5) ++ a0_6)).bind fun t251 => ((impl_NumPut.f k t251 2).bind fun t252 => (if t247.size + t248.size + t249.size + t250.size + a0_5.size + a0_6.size + t252.size ≤ 9223372036854775807 then (some ((((((t247 ++ t248) ++ t249) ++ t250) ++ a0_5) ++ a0_6) ++ t252)) else (none)))) else (none)) else (none)) else (none))) else (none))) else (none)) = some r := H
  have A5 := Aside0.mk A50
  clear A50
  by_cases c6 : t247.size + t248.size ≤ 9223372036854775807
  ·rw [if_pos c6] at H
   have c6b0 := eq_true c6
   have c6b1 : decide (t247.size + t248.size ≤ 9223372036854775807) = true := decide_eq_true c6
   try have c6b2 : (9223372036854775807 < t247.size + t248.size) = False := eq_false (Nat.not_lt.2 c6)
   replace H := Option.bind_eq_some_iff.mp H
   obtain ⟨t249, A70, H⟩ := H
   replace H : (if t247.size + t248.size + t249.size ≤ 9223372036854775807 then ((impl_NumPut.f k (wrap64 (6144 + a0_4)) 2).bind fun t250 => (if t247.size + t248.size + t249.size + t250.size ≤ 9223372036854775807 then (if t247.size + t248.size + t249.size + t250.size + a0_5.size ≤ 9223372036854775807 then (if t247.size + t248.size + t249.size + t250.size + a0_5.size + a0_6.size ≤ 9223372036854775807 then ((impl_Crc16.f (((((t247 ++ t248) ++ t249) ++ t250) ++ a0_5) ++ a0_6)).bind fun t251 => ((impl_NumPut.f k t251 2).bind fun t252 => (if t247.size + t248.size + t249.size + t250.size + a0_5.size + a0_6.size + t252.size ≤ 9223372036854775807 then (some ((((((t247 ++ t248) ++ t249) ++ t250) ++ a0_5) ++ a0_6) ++ t252)) else (none)))) else (none)) else (none)) else (none))) else (none)) = some r := H
   have A7 := Aside0.mk A70
   clear A70
   by_cases c8 : t247.size + t248.size + t249.size ≤ 9223372036854775807
   ·rw [if_pos c8] at H
    have c8b0 := eq_true c8
    have c8b1 : decide (t247.size + t248.size + t249.size ≤ 9223372036854775807) = true := decide_eq_true c8
    try have c8b2 : (9223372036854775807 < t247.size + t248.size + t249.size) = False := eq_false (Nat.not_lt.2 c8)
    replace H := Option.bind_eq_some_iff.mp H
    obtain ⟨t250, A90, H⟩ := H
    replace H : (if t247.size + t248.size + t249.size + t250.size ≤ 9223372036854775807 then (if t247.size + t248.size + t249.size + t250.size + a0_5.size ≤ 9223372036854775807 then (if t247.size + t248.size + t249.size + t250.size + a0_5.size + a0_6.size ≤ 9223372036854775807 then ((impl_Crc16.f (((((t247 ++ t248) ++ t249) ++ t250) ++ a0_5) ++ a0_6)).bind fun t251 => ((impl_NumPut.f k t251 2).bind fun t252 => (if t247.size + t248.size + t249.size + t250.size + a0_5.size + a0_6.size + t252.size ≤ 9223372036854775807 then (some ((((((t247 ++ t248) ++ t249) ++ t250) ++ a0_5) ++ a0_6) ++ t252)) else (none)))) else (none)) else (none)) else (none)) = some r := H
    have A9 := Aside0.mk A90
    clear A90
    by_cases c10 : t247.size + t248.size + t249.size + t250.size ≤ 9223372036854775807
    ·rw [if_pos c10] at H
     have c10b0 := eq_true c10
     have c10b1 : decide (t247.size + t248.size + t249.size + t250.size ≤ 9223372036854775807) = true := decide_eq_true c10
     try have c10b2 : (9223372036854775807 < t247.size + t248.size + t249.size + t250.size) = False := eq_false (Nat.not_lt.2 c10)
     by_cases c11 : t247.size + t248.size + t249.size + t250.size + a0_5.size ≤ 9223372036854775807
     ·rw [if_pos c11] at H
      have c11b0 := eq_true c11
      have c11b1 : decide (t247.size + t248.size + t249.size + t250.size + a0_5.size ≤ 9223372036854775807) = true := decide_eq_true c11
      try have c11b2 : (9223372036854775807 < t247.size + t248.size + t249.size + t250.size + a0_5.size) = False := eq_false (Nat.not_lt.2 c11)
      by_cases c12 : t247.size + t248.size + t249.size + t250.size + a0_5.size + a0_6.size ≤ 9223372036854775807
      ·rw [if_pos c12] at H
       have c12b0 := eq_true c12
       have c12b1 : decide (t247.size + t248.size + t249.size + t250.size + a0_5.size + a0_6.size ≤ 9223372036854775807) = true := decide_eq_true c12
       try have c12b2 : (9223372036854775807 < t247.size + t248.size + t249.size + t250.size + a0_5.size + a0_6.size) = False := eq_false (Nat.not_lt.2 c12)
       replace H := Option.bind_eq_some_iff.mp H
       obtain ⟨t251, A130, H⟩ := H
       replace H : ((impl_NumPut.f k t251 2).bind fun t252 => (if t247.size + t248.size + t249.size + t250.size + a0_5.size + a0_6.size + t252.size ≤ 9223372036854775807 then (some ((((((t247 ++ t248) ++ t249) ++ t250) ++ a0_5) ++ a0_6) ++ t252)) else (none))) = some r := H
       have A13 := Aside0.mk A130
       clear A130
       replace H := Option.bind_eq_some_iff.mp H
       obtain ⟨t252, A140, H⟩ := H
       replace H : (if t247.size + t248.size + t249.size + t250.size + a0_5.size + a0_6.size + t252.size ≤ 9223372036854775807 then (some ((((((t247 ++ t248) ++ t249) ++ t250) ++ a0_5) ++ a0_6) ++ t252)) else (none)) = some r := H
       have A14 := Aside0.mk A140
       clear A140
       by_cases c15 : t247.size + t248.size + t249.size + t250.size + a0_5.size + a0_6.size + t252.size ≤ 9223372036854775807
       ·rw [if_pos c15] at H
        have c15b0 := eq_true c15
        have c15b1 : decide (t247.size + t248.size + t249.size + t250.size + a0_5.size + a0_6.size + t252.size ≤ 9223372036854775807) = true := decide_eq_true c15
        try have c15b2 : (9223372036854775807 < t247.size + t248.size + t249.size + t250.size + a0_5.size + a0_6.size + t252.size) = False := eq_false (Nat.not_lt.2 c15)
        obtain rfl := Option.some.inj H
        go_enter Try.func5, Try.ntmps5
        try go_wp2_with (first | ((with_reducible refine gate_dst (N := 1) rfl ?_); refine box_event ?hg (N := 1) ?hd (cs := #[.int .i64 a0_0, .int .i64 a0_1, .int .i64 a0_2, .int .i64 a0_3, .int .i64 a0_4, .string a0_5, .string a0_6]) (t := 24) ?hr ?_; (case hd => rfl); (case hg => rfl); (case hr => first | (go_simp; done) | (go_simp; rfl)); intro gb245 hg w16 hbox hb; have n0_ := m_ (below_step (bN HB.out) hb); have n1_ := m_ (hbox); have n2_ := m_ ((by rw [hg]; exact (below_size (bN HB.out)) : w.heap.size ≤ gb245)); have n3_ := m_ ((by rw [hg]; exact (below_size (bN HB.out)) : w.heap.size ≤ gb245)); clear HB; have HB := n0_; have BK245 := n1_; have GW245 := n2_; have GE245 := n3_; clear n0_ n1_ n2_ n3_; clear hb hbox hg; have hcz17_0 : w16.cell? ⟨gb245, 0, none⟩ = some (.int .i64 a0_0) := bc BK245 0; have hcz17_1 : w16.cell? ⟨gb245, 1, none⟩ = some (.int .i64 a0_1) := bc BK245 1; have hcz17_2 : w16.cell? ⟨gb245, 2, none⟩ = some (.int .i64 a0_2) := bc BK245 2; have hcz17_3 : w16.cell? ⟨gb245, 3, none⟩ = some (.int .i64 a0_3) := bc BK245 3; have hcz17_4 : w16.cell? ⟨gb245, 4, none⟩ = some (.int .i64 a0_4) := bc BK245 4; have hcz17_5 : w16.cell? ⟨gb245, 5, none⟩ = some (.string a0_5) := bc BK245 5; have hcz17_6 : w16.cell? ⟨gb245, 6, none⟩ = some (.string a0_6) := bc BK245 6; have hfz17_0 := blk_frozen BK245.out 0; have hfz17_1 := blk_frozen BK245.out 1; have hfz17_2 := blk_frozen BK245.out 2; have hfz17_3 := blk_frozen BK245.out 3; have hfz17_4 := blk_frozen BK245.out 4; have hfz17_5 := blk_frozen BK245.out 5; have hfz17_6 := blk_frozen BK245.out 6) | ((with_reducible refine gate_callee (f := 12) rfl ?_); refine goesL_ (some 5) rfl rfl Try.func12 (by kernel_rfl) rfl #[.agg #[.int .i64 a0_0, .int .i64 a0_1, .int .i64 a0_2, .int .i64 a0_3, .int .i64 a0_4, .string a0_5, .string a0_6]] rfl gl_ ?_; (with_reducible refine (impl_downOk.calls k a0_0 a0_1 a0_2 a0_3 a0_4 a0_5 a0_6 true _ A2.out).mono ?_); rintro e w18 ⟨rfl, hb⟩; refine ⟨_, rfl, ?_⟩; have n0_ := m_ (blk_below (kN BK245.out) hb); have n1_ := m_ (below_step (bN HB.out) hb); clear BK245; clear HB; have BK245 := n0_; have HB := n1_; clear n0_ n1_; (try clear hb); (try clear hb2); (try clear hk); (try clear hi)))
        have n0_ := m_ (blk_drew BK245.out)
        have n1_ := m_ (below_drew1 HB.out)
        clear BK245
        clear HB
        have BK245 := n0_
        have HB := n1_
        clear n0_ n1_
        refine start_ (n := 29) (S := fun w' => w'.cell? ⟨gb245, 0, none⟩ = some (.int .i64 a0_0) ∧ w'.cell? ⟨gb245, 1, none⟩ = some (.int .i64 a0_1) ∧ w'.cell? ⟨gb245, 2, none⟩ = some (.int .i64 a0_2) ∧ w'.cell? ⟨gb245, 3, none⟩ = some (.int .i64 a0_3) ∧ w'.cell? ⟨gb245, 4, none⟩ = some (.int .i64 a0_4) ∧ w'.cell? ⟨gb245, 5, none⟩ = some (.string a0_5) ∧ w'.cell? ⟨gb245, 6, none⟩ = some (.string a0_6)) (ds := []) #[false, false, false, false, false, false, false, false, false, false, false, false, false, false, false, false, false, false, false, false, false, false, false, false, false, false, false, false, false] (by kernel_rfl) rfl rfl ⟨bc BK245 0, bc BK245 1, bc BK245 2, bc BK245 3, bc BK245 4, bc BK245 5, bc BK245 6⟩ (fun hHeld => ?_); refine with_tabW impl_DownPut.tab3 impl_DownPut.bits3 (fun HT_ HW_ => ?_)
        generalize w18.drew = w19 at BK245 HB hHeld ⊢
        refine pu 0 7 HT_ (h := ?_)
        refine pu 3 10 HT_ (h := ?_)
        refine pu 9 16 HT_ (h := ?_)
        refine pu 13 20 HT_ (h := ?_)
        refine pu 17 24 HT_ (h := ?_)
        refine pu 22 29 HT_ (h := ?_)
        refine pu 25 32 HT_ (h := ?_)
        refine take_ (i := 1) (N := some 8) (v := ?_) (a' := ?_) #[true, true, false, true, false, false, false, false, false, true, false, false, false, true, false, false, false, true, false, false, false, false, true, false, false, true, false, false, false] rfl rfl (take_ofW HT_.out HW_.out (by kernel_rfl)) (fun _ _ _ h => h) (Or.inl ⟨by rfl, ?_⟩) hHeld ?_ ?_
        rotate_left
        ·rintro w' ⟨s0, s1, s2, s3, s4, s5, s6⟩
         go_simp
         with_reducible rfl
        rotate_left
        ·simp only [Act.put, List.setIfInBounds_toArray, List.set_cons_zero, List.set_cons_succ, i64_w, i32_w]
         rfl
        refine pu 2 9 HT_ (h := ?_)
        refine take_ (i := 4) (N := some 11) (v := ?_) (a' := ?_) #[true, true, true, true, true, false, false, false, false, true, false, false, false, true, false, false, false, true, false, false, false, false, true, false, false, true, false, false, false] rfl rfl (take_ofW HT_.out HW_.out (by kernel_rfl)) (fun _ _ _ h => h) (Or.inl ⟨by rfl, ?_⟩) hHeld ?_ ?_
        rotate_left
        ·rintro w' ⟨s0, s1, s2, s3, s4, s5, s6⟩
         go_simp
         with_reducible rfl
        rotate_left
        ·simp only [Act.put, List.setIfInBounds_toArray, List.set_cons_zero, List.set_cons_succ, i64_w, i32_w]
         rfl
        refine pu 5 12 HT_ (h := ?_)
        refine pu 6 13 HT_ (h := ?_)
        refine pu 7 14 HT_ (h := ?_)
        refine take_ (i := 10) (N := some 17) (v := ?_) (a' := ?_) #[true, true, true, true, true, true, true, true, false, true, true, false, false, true, false, false, false, true, false, false, false, false, true, false, false, true, false, false, false] rfl rfl (take_ofW HT_.out HW_.out (by kernel_rfl)) (fun _ _ _ h => h) (Or.inl ⟨by rfl, ?_⟩) hHeld ?_ ?_
        rotate_left
        ·rintro w' ⟨s0, s1, s2, s3, s4, s5, s6⟩
         go_simp
         with_reducible rfl
        rotate_left
        ·simp only [Act.put, List.setIfInBounds_toArray, List.set_cons_zero, List.set_cons_succ, i64_w, i32_w]
         rfl
        refine take_ (i := 14) (N := some 21) (v := ?_) (a' := ?_) #[true, true, true, true, true, true, true, true, false, true, true, false, false, true, true, false, false, true, false, false, false, false, true, false, false, true, false, false, false] rfl rfl (take_ofW HT_.out HW_.out (by kernel_rfl)) (fun _ _ _ h => h) (Or.inl ⟨by rfl, ?_⟩) hHeld ?_ ?_
        rotate_left
        ·rintro w' ⟨s0, s1, s2, s3, s4, s5, s6⟩
         go_simp
         with_reducible rfl
        rotate_left
        ·simp only [Act.put, List.setIfInBounds_toArray, List.set_cons_zero, List.set_cons_succ, i64_w, i32_w]
         rfl
        refine take_ (i := 18) (N := some 25) (v := ?_) (a' := ?_) #[true, true, true, true, true, true, true, true, false, true, true, false, false, true, true, false, false, true, true, false, false, false, true, false, false, true, false, false, false] rfl rfl (take_ofW HT_.out HW_.out (by kernel_rfl)) (fun _ _ _ h => h) (Or.inl ⟨by rfl, ?_⟩) hHeld ?_ ?_
        rotate_left
        ·rintro w' ⟨s0, s1, s2, s3, s4, s5, s6⟩
         go_simp
         with_reducible rfl
        rotate_left
        ·simp only [Act.put, List.setIfInBounds_toArray, List.set_cons_zero, List.set_cons_succ, i64_w, i32_w]
         rfl
        refine pu 19 26 HT_ (h := ?_)
        refine take_ (i := 23) (N := some 30) (v := ?_) (a' := ?_) #[true, true, true, true, true, true, true, true, false, true, true, false, false, true, true, false, false, true, true, true, false, false, true, true, false, true, false, false, false] rfl rfl (take_ofW HT_.out HW_.out (by kernel_rfl)) (fun _ _ _ h => h) (Or.inl ⟨by rfl, ?_⟩) hHeld ?_ ?_
        rotate_left
        ·rintro w' ⟨s0, s1, s2, s3, s4, s5, s6⟩
         go_simp
         with_reducible rfl
        rotate_left
        ·simp only [Act.put, List.setIfInBounds_toArray, List.set_cons_zero, List.set_cons_succ, i64_w, i32_w]
         rfl
        refine take_ (i := 26) (N := some 33) (v := ?_) (a' := ?_) #[true, true, true, true, true, true, true, true, false, true, true, false, false, true, true, false, false, true, true, true, false, false, true, true, false, true, true, false, false] rfl rfl (take_ofW HT_.out HW_.out (by kernel_rfl)) (fun _ _ _ h => h) (Or.inl ⟨by rfl, ?_⟩) hHeld ?_ ?_
        rotate_left
        ·rintro w' ⟨s0, s1, s2, s3, s4, s5, s6⟩
         go_simp
         with_reducible rfl
        rotate_left
        ·simp only [Act.put, List.setIfInBounds_toArray, List.set_cons_zero, List.set_cons_succ, i64_w, i32_w]
         rfl
        refine one_ (i := 8) (N := some 15) #[true, true, true, true, true, true, true, true, true, true, true, false, false, true, true, false, false, true, true, true, false, false, true, true, false, true, true, false, false] rfl rfl (one_of HT_.out (by kernel_rfl)) (by decide) (fun K hK => ?_)
        refine goes_ Try.func13 (by kernel_rfl) rfl #[.int .i64 (wrap64 ((wrap64 ((wrap64 (a0_0 * 16)) + (wrap64 (a0_1 * 2)))) + 1)), .int .i64 2] (by rfl) rfl rfl gl_ ?_
        with_reducible refine (impl_NumPut.calls k (wrap64 ((wrap64 ((wrap64 (a0_0 * 16)) + (wrap64 (a0_1 * 2)))) + 1)) 2 t247 _ A4.out).mono ?_
        rintro e w20 ⟨rfl, hb⟩
        refine ⟨_, rfl, ?_⟩
        have n0_ := m_ (blk_below (kN BK245.out) hb)
        have n1_ := m_ (below_step (bN HB.out) hb)
        clear BK245
        clear HB
        have BK245 := n0_
        have HB := n1_
        clear n0_ n1_
        (try clear hb)
        (try clear hb2)
        (try clear hk)
        (try clear hi)
        refine hK.out _ _ ⟨bc BK245 0, bc BK245 1, bc BK245 2, bc BK245 3, bc BK245 4, bc BK245 5, bc BK245 6⟩ (fun hHeld => ?_)
        clear hK K
        refine np (h := ?_)
        refine one_ (i := 11) (N := some 18) #[true, true, true, true, true, true, true, true, true, true, true, true, false, true, true, false, false, true, true, true, false, false, true, true, false, true, true, false, false] rfl rfl (one_of HT_.out (by kernel_rfl)) (by decide) (fun K hK => ?_)
        refine goes_ Try.func13 (by kernel_rfl) rfl #[.int .i64 a0_2, .int .i64 1] (by rfl) rfl rfl gl_ ?_
        with_reducible refine (impl_NumPut.calls k a0_2 1 t248 _ A5.out).mono ?_
        rintro e w21 ⟨rfl, hb⟩
        refine ⟨_, rfl, ?_⟩
        have n0_ := m_ (blk_below (kN BK245.out) hb)
        have n1_ := m_ (below_step (bN HB.out) hb)
        clear BK245
        clear HB
        have BK245 := n0_
        have HB := n1_
        clear n0_ n1_
        (try clear hb)
        (try clear hb2)
        (try clear hk)
        (try clear hi)
        refine hK.out _ _ ⟨bc BK245 0, bc BK245 1, bc BK245 2, bc BK245 3, bc BK245 4, bc BK245 5, bc BK245 6⟩ (fun hHeld => ?_)
        clear hK K
        refine np (h := ?_)
        refine pu 12 19 HT_ (h := ?_)
        refine one_ (i := 15) (N := some 22) #[true, true, true, true, true, true, true, true, true, true, true, true, true, true, true, true, false, true, true, true, false, false, true, true, false, true, true, false, false] rfl rfl (one_of HT_.out (by kernel_rfl)) (by decide) (fun K hK => ?_)
        refine goes_ Try.func13 (by kernel_rfl) rfl #[.int .i64 a0_3, .int .i64 1] (by rfl) rfl rfl gl_ ?_
        with_reducible refine (impl_NumPut.calls k a0_3 1 t249 _ A7.out).mono ?_
        rintro e w22 ⟨rfl, hb⟩
        refine ⟨_, rfl, ?_⟩
        have n0_ := m_ (blk_below (kN BK245.out) hb)
        have n1_ := m_ (below_step (bN HB.out) hb)
        clear BK245
        clear HB
        have BK245 := n0_
        have HB := n1_
        clear n0_ n1_
        (try clear hb)
        (try clear hb2)
        (try clear hk)
        (try clear hi)
        refine hK.out _ _ ⟨bc BK245 0, bc BK245 1, bc BK245 2, bc BK245 3, bc BK245 4, bc BK245 5, bc BK245 6⟩ (fun hHeld => ?_)
        clear hK K
        refine np (h := ?_)
        refine pu 16 23 HT_ (h := ?_)
        refine one_ (i := 20) (N := some 27) #[true, true, true, true, true, true, true, true, true, true, true, true, true, true, true, true, true, true, true, true, true, false, true, true, false, true, true, false, false] rfl rfl (one_of HT_.out (by kernel_rfl)) (by decide) (fun K hK => ?_)
        refine goes_ Try.func13 (by kernel_rfl) rfl #[.int .i64 (wrap64 (6144 + a0_4)), .int .i64 2] (by rfl) rfl rfl gl_ ?_
        with_reducible refine (impl_NumPut.calls k (wrap64 (6144 + a0_4)) 2 t250 _ A9.out).mono ?_
        rintro e w23 ⟨rfl, hb⟩
        refine ⟨_, rfl, ?_⟩
        have n0_ := m_ (blk_below (kN BK245.out) hb)
        have n1_ := m_ (below_step (bN HB.out) hb)
        clear BK245
        clear HB
        have BK245 := n0_
        have HB := n1_
        clear n0_ n1_
        (try clear hb)
        (try clear hb2)
        (try clear hk)
        (try clear hi)
        refine hK.out _ _ ⟨bc BK245 0, bc BK245 1, bc BK245 2, bc BK245 3, bc BK245 4, bc BK245 5, bc BK245 6⟩ (fun hHeld => ?_)
        clear hK K
        refine np (h := ?_)
        refine pu 21 28 HT_ (h := ?_)
        refine pu 24 31 HT_ (h := ?_)
        refine pu 27 34 HT_ (h := ?_)
        refine pu 28 3 HT_ (h := ?_)
        refine done_ (done_of HT_.out (by kernel_rfl)) ?_
        try go_wp2_with (first | ((with_reducible refine gate_callee (f := 14) rfl ?_); refine goesL_ (some 37) rfl rfl Try.func14 (by kernel_rfl) rfl #[.string (((((t247 ++ t248) ++ t249) ++ t250) ++ a0_5) ++ a0_6)] rfl gl_ ?_; (with_reducible refine (impl_Crc16.calls (((((t247 ++ t248) ++ t249) ++ t250) ++ a0_5) ++ a0_6) t251 _ A13.out).mono ?_); rintro e w24 ⟨rfl, hb⟩; refine ⟨_, rfl, ?_⟩; have n0_ := m_ (blk_below (kN BK245.out) hb); have n1_ := m_ (below_step (bN HB.out) hb); clear BK245; clear HB; have BK245 := n0_; have HB := n1_; clear n0_ n1_; (try clear hb); (try clear hb2); (try clear hk); (try clear hi)) | ((with_reducible refine gate_callee (f := 13) rfl ?_); refine goesL_ (some 38) rfl rfl Try.func13 (by kernel_rfl) rfl #[.int .i64 t251, .int .i64 2] rfl gl_ ?_; (with_reducible refine (impl_NumPut.calls k t251 2 t252 _ A14.out).mono ?_); rintro e w25 ⟨rfl, hb⟩; refine ⟨_, rfl, ?_⟩; have n0_ := m_ (blk_below (kN BK245.out) hb); have n1_ := m_ (below_step (bN HB.out) hb); clear BK245; clear HB; have BK245 := n0_; have HB := n1_; clear n0_ n1_; (try clear hb); (try clear hb2); (try clear hk); (try clear hi)))
        go_ret
        exact ⟨by first | rfl | (simp [errW_none, errW_some] <;> rfl) | (simp [*, errW_none, errW_some] <;> rfl), by repeat (first | (with_reducible first | exact HB.out | apply below_alloc | apply pw_below_drewN | apply below_drew1 | refine below_set ?_ GE245.out) | exact HB.out)⟩
       ·rw [if_neg c15] at H
        exact absurd H (by simp)
      ·rw [if_neg c12] at H
       exact absurd H (by simp)
     ·rw [if_neg c11] at H
      exact absurd H (by simp)
    ·rw [if_neg c10] at H
     exact absurd H (by simp)
   ·rw [if_neg c8] at H
    exact absurd H (by simp)
  ·rw [if_neg c6] at H
   exact absurd H (by simp)
 ·replace c3 := Bool.eq_false_iff.mpr c3
  subst c3
  have H1 : (some (⟨#[]⟩ : ByteArray)) = some r := by rw [if_neg (show ¬ (false = true) by decide)] at H; exact H
  clear H
  have H := H1
  clear H1
  obtain rfl := Option.some.inj H
  go_enter Try.func5, Try.ntmps5
  go_wp2_with (first | ((with_reducible refine gate_dst (N := 1) rfl ?_); refine box_event ?hg (N := 1) ?hd (cs := #[.int .i64 a0_0, .int .i64 a0_1, .int .i64 a0_2, .int .i64 a0_3, .int .i64 a0_4, .string a0_5, .string a0_6]) (t := 24) ?hr ?_; (case hd => rfl); (case hg => rfl); (case hr => first | (go_simp; done) | (go_simp; rfl)); intro gb245 hg w26 hbox hb; have n0_ := m_ (below_step (bN HB.out) hb); have n1_ := m_ (hbox); have n2_ := m_ ((by rw [hg]; exact (below_size (bN HB.out)) : w.heap.size ≤ gb245)); have n3_ := m_ ((by rw [hg]; exact (below_size (bN HB.out)) : w.heap.size ≤ gb245)); clear HB; have HB := n0_; have BK245 := n1_; have GW245 := n2_; have GE245 := n3_; clear n0_ n1_ n2_ n3_; clear hb hbox hg; have hcz27_0 : w26.cell? ⟨gb245, 0, none⟩ = some (.int .i64 a0_0) := bc BK245 0; have hcz27_1 : w26.cell? ⟨gb245, 1, none⟩ = some (.int .i64 a0_1) := bc BK245 1; have hcz27_2 : w26.cell? ⟨gb245, 2, none⟩ = some (.int .i64 a0_2) := bc BK245 2; have hcz27_3 : w26.cell? ⟨gb245, 3, none⟩ = some (.int .i64 a0_3) := bc BK245 3; have hcz27_4 : w26.cell? ⟨gb245, 4, none⟩ = some (.int .i64 a0_4) := bc BK245 4; have hcz27_5 : w26.cell? ⟨gb245, 5, none⟩ = some (.string a0_5) := bc BK245 5; have hcz27_6 : w26.cell? ⟨gb245, 6, none⟩ = some (.string a0_6) := bc BK245 6; have hfz27_0 := blk_frozen BK245.out 0; have hfz27_1 := blk_frozen BK245.out 1; have hfz27_2 := blk_frozen BK245.out 2; have hfz27_3 := blk_frozen BK245.out 3; have hfz27_4 := blk_frozen BK245.out 4; have hfz27_5 := blk_frozen BK245.out 5; have hfz27_6 := blk_frozen BK245.out 6) | ((with_reducible refine gate_callee (f := 12) rfl ?_); refine goesL_ (some 5) rfl rfl Try.func12 (by kernel_rfl) rfl #[.agg #[.int .i64 a0_0, .int .i64 a0_1, .int .i64 a0_2, .int .i64 a0_3, .int .i64 a0_4, .string a0_5, .string a0_6]] rfl gl_ ?_; (with_reducible refine (impl_downOk.calls k a0_0 a0_1 a0_2 a0_3 a0_4 a0_5 a0_6 false _ A2.out).mono ?_); rintro e w28 ⟨rfl, hb⟩; refine ⟨_, rfl, ?_⟩; have n0_ := m_ (blk_below (kN BK245.out) hb); have n1_ := m_ (below_step (bN HB.out) hb); clear BK245; clear HB; have BK245 := n0_; have HB := n1_; clear n0_ n1_; (try clear hb); (try clear hb2); (try clear hk); (try clear hi)))
  go_ret
  exact ⟨by first | rfl | (simp [errW_none, errW_some] <;> rfl) | (simp [*, errW_none, errW_some] <;> rfl), by repeat (first | (with_reducible first | exact HB.out | apply below_alloc | apply pw_below_drewN | apply below_drew1 | refine below_set ?_ GE245.out) | exact HB.out)⟩

/-! ### spec_FarmGet: function 26 -/
def spec_FarmGet.f (k : Nat) (a0 : ByteArray) : Option (Bool × Bool × Bool × Int × Int × Bool) := if (a0.size : Int) = 4 then (if 2 < (a0.size : Int) then (if 3 < (a0.size : Int) then ((spec_FarmPut.f k ((Int.tmod (wrap64 (Int.tdiv (wrap64 (bt a0 2)) 32)) 2) == 1) ((Int.tmod (wrap64 (Int.tdiv (wrap64 (bt a0 2)) 16)) 2) == 1) ((Int.tmod (wrap64 (Int.tdiv (wrap64 (bt a0 2)) 8)) 2) == 1) (Int.tmod (wrap64 (Int.tdiv (wrap64 (bt a0 2)) 2)) 4) (wrap64 (bt a0 3))).bind fun t255 => (if t255.toList = a0.toList then (some (((Int.tmod (wrap64 (Int.tdiv (wrap64 (bt a0 2)) 32)) 2) == 1), ((Int.tmod (wrap64 (Int.tdiv (wrap64 (bt a0 2)) 16)) 2) == 1), ((Int.tmod (wrap64 (Int.tdiv (wrap64 (bt a0 2)) 8)) 2) == 1), Int.tmod (wrap64 (Int.tdiv (wrap64 (bt a0 2)) 2)) 4, wrap64 (bt a0 3), true)) else (some (false, false, false, 0, 0, false)))) else (none)) else (none)) else (some (false, false, false, 0, 0, false))
theorem spec_FarmGet.mono : ∀ a0 k, LeO (spec_FarmGet.f k a0) (spec_FarmGet.f (k + 1) a0) := by
 intro a0 k
 unfold spec_FarmGet.f
 repeat' first
   | (with_reducible exact spec_FarmPut.mono _ _ _ _ _ _)
   | (with_reducible exact LeO.refl _)
   | (with_reducible exact LeO.none _)
   | (with_reducible refine LeO.ite ?_ ?_)
   | (with_reducible refine LeO.bind ?_ (fun _ => ?_))
   | exact spec_FarmPut.mono _ _ _ _ _ _
   | exact LeO.none _
   | refine LeO.ite ?_ ?_
   | refine LeO.bind ?_ (fun _ => ?_)
set_option maxHeartbeats 8000000 in
set_option maxRecDepth 100000 in
theorem spec_FarmGet.calls (k : Nat) (a0 : ByteArray) (r1 : Bool) (r2 : Bool) (r3 : Bool) (r4 : Int) (r5 : Int) (r6 : Bool) (w : World) (h : spec_FarmGet.f k a0 = some (r1, r2, r3, r4, r5, r6)) :
  Calls Try.prog 26 #[.string a0] w fun e w' => e = .returned (.tuple #[.agg #[.bool r1, .bool r2, .bool r3, .int .i64 r4, .int .i64 r5], .bool r6]) ∧ Below w.heap.size w w' := by
 have hu48 := Try.underlying48
 have HB := m_ (Below.refl w.heap.size w)
 have H : (if (a0.size : Int) = 4 then (if 2 < (a0.size : Int) then (if 3 < (a0.size : Int) then ((spec_FarmPut.f k ((Int.tmod (wrap64 (Int.tdiv (wrap64 (bt a0 2)) 32)) 2) == 1) ((Int.tmod (wrap64 (Int.tdiv (wrap64 (bt a0 2)) 16)) 2) == 1) ((Int.tmod (wrap64 (Int.tdiv (wrap64 (bt a0 2)) 8)) 2) == 1) (Int.tmod (wrap64 (Int.tdiv (wrap64 (bt a0 2)) 2)) 4) (wrap64 (bt a0 3))).bind fun t255 => (if t255.toList = a0.toList then (some (((Int.tmod (wrap64 (Int.tdiv (wrap64 (bt a0 2)) 32)) 2) == 1), ((Int.tmod (wrap64 (Int.tdiv (wrap64 (bt a0 2)) 16)) 2) == 1), ((Int.tmod (wrap64 (Int.tdiv (wrap64 (bt a0 2)) 8)) 2) == 1), Int.tmod (wrap64 (Int.tdiv (wrap64 (bt a0 2)) 2)) 4, wrap64 (bt a0 3), true)) else (some (false, false, false, 0, 0, false)))) else (none)) else (none)) else (some (false, false, false, 0, 0, false))) = some (r1, r2, r3, r4, r5, r6) := h
 clear h
 by_cases c2 : (a0.size : Int) = 4
 ·rw [if_pos c2] at H
  have c2b0 : ((a0.size : Int) == 4) = true := beq_iff_eq.mpr c2
  have c2b1 : ((a0.size : Int) != 4) = false := bne_eq_false_iff_eq.mpr c2
  clear c2
  by_cases c3 : 2 < (a0.size : Int)
  ·rw [if_pos c3] at H
   have c3b0 : decide (2 < (a0.size : Int)) = true := decide_eq_true c3
   have c3b1 : decide (2 < a0.size) = true := decide_eq_true (by omega)
   clear c3
   by_cases c5 : 3 < (a0.size : Int)
   ·rw [if_pos c5] at H
    have c5b0 : decide (3 < (a0.size : Int)) = true := decide_eq_true c5
    have c5b1 : decide (3 < a0.size) = true := decide_eq_true (by omega)
    clear c5
    replace H := Option.bind_eq_some_iff.mp H
    obtain ⟨t255, A70, H⟩ := H
    replace H : (if t255.toList = a0.toList then (some (((Int.tmod (wrap64 (Int.tdiv (wrap64 (bt a0 2)) 32)) 2) == 1), ((Int.tmod (wrap64 (Int.tdiv (wrap64 (bt a0 2)) 16)) 2) == 1), ((Int.tmod (wrap64 (Int.tdiv (wrap64 (bt a0 2)) 8)) 2) == 1), Int.tmod (wrap64 (Int.tdiv (wrap64 (bt a0 2)) 2)) 4, wrap64 (bt a0 3), true)) else (some (false, false, false, 0, 0, false))) = some (r1, r2, r3, r4, r5, r6) := H
    have A7 := Aside0.mk A70
    clear A70
    by_cases c8 : t255.toList = a0.toList
    ·rw [if_pos c8] at H
     have c8b0 : (t255.toList == a0.toList) = true := beq_iff_eq.mpr c8
     have c8b1 : (t255.toList != a0.toList) = false := bne_eq_false_iff_eq.mpr c8
     clear c8
     simp only [Option.some.injEq, Prod.mk.injEq] at H
     obtain ⟨rfl, rfl, rfl, rfl, rfl, rfl⟩ := H
     go_enter Try.func26, Try.ntmps26
     go_wp2_with (first | ((with_reducible refine gate_dst (N := 2) rfl ?_); refine box_event ?hg (N := 2) ?hd (cs := #[.bool false, .bool false, .bool false, .int .i64 0, .int .i64 0]) (t := 48) ?hr ?_; (case hd => rfl); (case hg => rfl); (case hr => first | (go_simp; done) | (go_simp; rfl)); intro gb253 hg w9 hbox hb; have n0_ := m_ (below_step (bN HB.out) hb); have n1_ := m_ (hbox); have n2_ := m_ ((by rw [hg]; exact (below_size (bN HB.out)) : w.heap.size ≤ gb253)); have n3_ := m_ ((by rw [hg]; exact (below_size (bN HB.out)) : w.heap.size ≤ gb253)); clear HB; have HB := n0_; have BK253 := n1_; have GW253 := n2_; have GE253 := n3_; clear n0_ n1_ n2_ n3_; clear hb hbox hg; have p4 : 0 ≤ (2 : Int) := (by omega); have q4 : 2 < a0.size := (by have : (2 : Int) < (a0.size : Int) := of_decide_eq_true (by first | (with_reducible assumption) | assumption); omega); have hx4 : ∀ h : 2 < a0.size, ((a0[2]'h).toNat : Int) = bt a0 2 := bt_at a0 2; clear p4; have qi4 : (2 < (a0.size : Int)) = True := eq_true (of_decide_eq_true (by first | (with_reducible assumption) | assumption)); replace q4 := eq_true q4; have p6 : 0 ≤ (3 : Int) := (by omega); have q6 : 3 < a0.size := (by have : (3 : Int) < (a0.size : Int) := of_decide_eq_true (by first | (with_reducible assumption) | assumption); omega); have hx6 : ∀ h : 3 < a0.size, ((a0[3]'h).toNat : Int) = bt a0 3 := bt_at a0 3; clear p6; have qi6 : (3 < (a0.size : Int)) = True := eq_true (of_decide_eq_true (by first | (with_reducible assumption) | assumption)); replace q6 := eq_true q6) | ((with_reducible refine gate_dst (N := 5) rfl ?_); refine box_event ?hg (N := 5) ?hd (cs := #[.bool false, .bool false, .bool false, .int .i64 0, .int .i64 0]) (t := 48) ?hr ?_; (case hd => rfl); (case hg => rfl); (case hr => first | (go_simp; done) | (go_simp; rfl)); intro gb254 hg w10 hbox hb; have n0_ := m_ (blk_below (kN BK253.out) hb); have n1_ := m_ (below_step (bN HB.out) hb); have n2_ := m_ (hbox); have n3_ := m_ ((by rw [hg]; exact (below_size (bN HB.out)) : w.heap.size ≤ gb254)); have n4_ := m_ ((by rw [hg]; exact (below_size (bN HB.out)) : w.heap.size ≤ gb254)); have n5_ := m_ (nL hg BK253.out); have n6_ := m_ (nG hg BK253.out); clear BK253; clear HB; have BK253 := n0_; have HB := n1_; have BK254 := n2_; have GW254 := n3_; have GE254 := n4_; have NB253_254 := n5_; have NB254_253 := n6_; clear n0_ n1_ n2_ n3_ n4_ n5_ n6_; clear hb hbox hg; have hnb11 := NB254_253.out; have hnc11 := NB253_254.out; have hcz12_0 : w10.cell? ⟨gb254, 0, none⟩ = some (.bool false) := bc BK254 0; have hcz12_1 : w10.cell? ⟨gb254, 1, none⟩ = some (.bool false) := bc BK254 1; have hcz12_2 : w10.cell? ⟨gb254, 2, none⟩ = some (.bool false) := bc BK254 2; have hcz12_3 : w10.cell? ⟨gb254, 3, none⟩ = some (.int .i64 0) := bc BK254 3; have hcz12_4 : w10.cell? ⟨gb254, 4, none⟩ = some (.int .i64 0) := bc BK254 4; have hfz12_0 := blk_frozen BK254.out 0; have hfz12_1 := blk_frozen BK254.out 1; have hfz12_2 := blk_frozen BK254.out 2; have hfz12_3 := blk_frozen BK254.out 3; have hfz12_4 := blk_frozen BK254.out 4) | ((with_reducible refine gate_callee (f := 21) rfl ?_); refine goesL_ (some 33) rfl rfl Try.func21 (by kernel_rfl) rfl #[.agg #[.bool ((Int.tmod (wrap64 (Int.tdiv (wrap64 (bt a0 2)) 32)) 2) == 1), .bool ((Int.tmod (wrap64 (Int.tdiv (wrap64 (bt a0 2)) 16)) 2) == 1), .bool ((Int.tmod (wrap64 (Int.tdiv (wrap64 (bt a0 2)) 8)) 2) == 1), .int .i64 (Int.tmod (wrap64 (Int.tdiv (wrap64 (bt a0 2)) 2)) 4), .int .i64 (wrap64 (bt a0 3))]] rfl gl_ ?_; (with_reducible refine (spec_FarmPut.calls k ((Int.tmod (wrap64 (Int.tdiv (wrap64 (bt a0 2)) 32)) 2) == 1) ((Int.tmod (wrap64 (Int.tdiv (wrap64 (bt a0 2)) 16)) 2) == 1) ((Int.tmod (wrap64 (Int.tdiv (wrap64 (bt a0 2)) 8)) 2) == 1) (Int.tmod (wrap64 (Int.tdiv (wrap64 (bt a0 2)) 2)) 4) (wrap64 (bt a0 3)) t255 _ A7.out).mono ?_); rintro e w13 ⟨rfl, hb⟩; refine ⟨_, rfl, ?_⟩; have n0_ := m_ (blk_below (g := gb253) (o := .cells #[.bool false, .bool false, .bool false, .int .i64 0, .int .i64 0] 48 (0, 0)) (kF BK253.out NB253_254.out) hb); have n1_ := m_ (blk_below (g := gb254) (o := .cells #[.bool ((Int.tmod (wrap64 (Int.tdiv (wrap64 (bt a0 2)) 32)) 2) == 1), .bool ((Int.tmod (wrap64 (Int.tdiv (wrap64 (bt a0 2)) 16)) 2) == 1), .bool ((Int.tmod (wrap64 (Int.tdiv (wrap64 (bt a0 2)) 8)) 2) == 1), .int .i64 (Int.tmod (wrap64 (Int.tdiv (wrap64 (bt a0 2)) 2)) 4), .int .i64 (wrap64 (bt a0 3))] 48 (0, 0)) (kP BK254.out) hb); have n2_ := m_ (below_step (bN HB.out) hb); clear BK253; clear BK254; clear HB; have BK253 := n0_; have BK254 := n1_; have HB := n2_; clear n0_ n1_ n2_; (try clear hb); (try clear hb2); (try clear hk); (try clear hi); have hcz14_0 : w13.cell? ⟨gb254, 0, none⟩ = some (.bool ((Int.tmod (wrap64 (Int.tdiv (wrap64 (bt a0 2)) 32)) 2) == 1)) := bc BK254 0; have hcz14_1 : w13.cell? ⟨gb254, 1, none⟩ = some (.bool ((Int.tmod (wrap64 (Int.tdiv (wrap64 (bt a0 2)) 16)) 2) == 1)) := bc BK254 1; have hcz14_2 : w13.cell? ⟨gb254, 2, none⟩ = some (.bool ((Int.tmod (wrap64 (Int.tdiv (wrap64 (bt a0 2)) 8)) 2) == 1)) := bc BK254 2; have hcz14_3 : w13.cell? ⟨gb254, 3, none⟩ = some (.int .i64 (Int.tmod (wrap64 (Int.tdiv (wrap64 (bt a0 2)) 2)) 4)) := bc BK254 3; have hcz14_4 : w13.cell? ⟨gb254, 4, none⟩ = some (.int .i64 (wrap64 (bt a0 3))) := bc BK254 4; have hfz14_0 := blk_frozen BK254.out 0; have hfz14_1 := blk_frozen BK254.out 1; have hfz14_2 := blk_frozen BK254.out 2; have hfz14_3 := blk_frozen BK254.out 3; have hfz14_4 := blk_frozen BK254.out 4; have hcz15_0 : w13.cell? ⟨gb253, 0, none⟩ = some (.bool false) := bc BK253 0; have hcz15_1 : w13.cell? ⟨gb253, 1, none⟩ = some (.bool false) := bc BK253 1; have hcz15_2 : w13.cell? ⟨gb253, 2, none⟩ = some (.bool false) := bc BK253 2; have hcz15_3 : w13.cell? ⟨gb253, 3, none⟩ = some (.int .i64 0) := bc BK253 3; have hcz15_4 : w13.cell? ⟨gb253, 4, none⟩ = some (.int .i64 0) := bc BK253 4; have hfz15_0 := blk_frozen BK253.out 0; have hfz15_1 := blk_frozen BK253.out 1; have hfz15_2 := blk_frozen BK253.out 2; have hfz15_3 := blk_frozen BK253.out 3; have hfz15_4 := blk_frozen BK253.out 4))
     refine bodyPost_ret (results_ct rfl _ _ gb253 48 #[.bool ((Int.tmod (wrap64 (Int.tdiv (wrap64 (bt a0 2)) 32)) 2) == 1), .bool ((Int.tmod (wrap64 (Int.tdiv (wrap64 (bt a0 2)) 16)) 2) == 1), .bool ((Int.tmod (wrap64 (Int.tdiv (wrap64 (bt a0 2)) 8)) 2) == 1), .int .i64 (Int.tmod (wrap64 (Int.tdiv (wrap64 (bt a0 2)) 2)) 4), .int .i64 (wrap64 (bt a0 3))] (0, 0) _ rfl (kP BK253.out) Try.underlying48 rfl (by kernel_rfl)) rfl ?_
     exact ⟨by first | rfl | (simp [errW_none, errW_some] <;> rfl) | (simp [*, errW_none, errW_some] <;> rfl), by repeat (first | (with_reducible first | exact HB.out | apply below_alloc | apply pw_below_drewN | apply below_drew1 | refine below_set ?_ GE253.out | refine below_set ?_ GE254.out) | exact HB.out)⟩
    ·rw [if_neg c8] at H
     have c8b0 : (t255.toList == a0.toList) = false := beq_eq_false_iff_ne.mpr c8
     have c8b1 : (t255.toList != a0.toList) = true := bne_iff_ne.mpr c8
     simp only [Option.some.injEq, Prod.mk.injEq] at H
     obtain ⟨rfl, rfl, rfl, rfl, rfl, rfl⟩ := H
     go_enter Try.func26, Try.ntmps26
     go_wp2_with (first | ((with_reducible refine gate_dst (N := 2) rfl ?_); refine box_event ?hg (N := 2) ?hd (cs := #[.bool false, .bool false, .bool false, .int .i64 0, .int .i64 0]) (t := 48) ?hr ?_; (case hd => rfl); (case hg => rfl); (case hr => first | (go_simp; done) | (go_simp; rfl)); intro gb253 hg w16 hbox hb; have n0_ := m_ (below_step (bN HB.out) hb); have n1_ := m_ (hbox); have n2_ := m_ ((by rw [hg]; exact (below_size (bN HB.out)) : w.heap.size ≤ gb253)); have n3_ := m_ ((by rw [hg]; exact (below_size (bN HB.out)) : w.heap.size ≤ gb253)); clear HB; have HB := n0_; have BK253 := n1_; have GW253 := n2_; have GE253 := n3_; clear n0_ n1_ n2_ n3_; clear hb hbox hg; have p4 : 0 ≤ (2 : Int) := (by omega); have q4 : 2 < a0.size := (by have : (2 : Int) < (a0.size : Int) := of_decide_eq_true (by first | (with_reducible assumption) | assumption); omega); have hx4 : ∀ h : 2 < a0.size, ((a0[2]'h).toNat : Int) = bt a0 2 := bt_at a0 2; clear p4; have qi4 : (2 < (a0.size : Int)) = True := eq_true (of_decide_eq_true (by first | (with_reducible assumption) | assumption)); replace q4 := eq_true q4; have p6 : 0 ≤ (3 : Int) := (by omega); have q6 : 3 < a0.size := (by have : (3 : Int) < (a0.size : Int) := of_decide_eq_true (by first | (with_reducible assumption) | assumption); omega); have hx6 : ∀ h : 3 < a0.size, ((a0[3]'h).toNat : Int) = bt a0 3 := bt_at a0 3; clear p6; have qi6 : (3 < (a0.size : Int)) = True := eq_true (of_decide_eq_true (by first | (with_reducible assumption) | assumption)); replace q6 := eq_true q6) | ((with_reducible refine gate_dst (N := 5) rfl ?_); refine box_event ?hg (N := 5) ?hd (cs := #[.bool false, .bool false, .bool false, .int .i64 0, .int .i64 0]) (t := 48) ?hr ?_; (case hd => rfl); (case hg => rfl); (case hr => first | (go_simp; done) | (go_simp; rfl)); intro gb254 hg w17 hbox hb; have n0_ := m_ (blk_below (kN BK253.out) hb); have n1_ := m_ (below_step (bN HB.out) hb); have n2_ := m_ (hbox); have n3_ := m_ ((by rw [hg]; exact (below_size (bN HB.out)) : w.heap.size ≤ gb254)); have n4_ := m_ ((by rw [hg]; exact (below_size (bN HB.out)) : w.heap.size ≤ gb254)); have n5_ := m_ (nL hg BK253.out); have n6_ := m_ (nG hg BK253.out); clear BK253; clear HB; have BK253 := n0_; have HB := n1_; have BK254 := n2_; have GW254 := n3_; have GE254 := n4_; have NB253_254 := n5_; have NB254_253 := n6_; clear n0_ n1_ n2_ n3_ n4_ n5_ n6_; clear hb hbox hg; have hnb18 := NB254_253.out; have hnc18 := NB253_254.out; have hcz19_0 : w17.cell? ⟨gb254, 0, none⟩ = some (.bool false) := bc BK254 0; have hcz19_1 : w17.cell? ⟨gb254, 1, none⟩ = some (.bool false) := bc BK254 1; have hcz19_2 : w17.cell? ⟨gb254, 2, none⟩ = some (.bool false) := bc BK254 2; have hcz19_3 : w17.cell? ⟨gb254, 3, none⟩ = some (.int .i64 0) := bc BK254 3; have hcz19_4 : w17.cell? ⟨gb254, 4, none⟩ = some (.int .i64 0) := bc BK254 4; have hfz19_0 := blk_frozen BK254.out 0; have hfz19_1 := blk_frozen BK254.out 1; have hfz19_2 := blk_frozen BK254.out 2; have hfz19_3 := blk_frozen BK254.out 3; have hfz19_4 := blk_frozen BK254.out 4) | ((with_reducible refine gate_callee (f := 21) rfl ?_); refine goesL_ (some 33) rfl rfl Try.func21 (by kernel_rfl) rfl #[.agg #[.bool ((Int.tmod (wrap64 (Int.tdiv (wrap64 (bt a0 2)) 32)) 2) == 1), .bool ((Int.tmod (wrap64 (Int.tdiv (wrap64 (bt a0 2)) 16)) 2) == 1), .bool ((Int.tmod (wrap64 (Int.tdiv (wrap64 (bt a0 2)) 8)) 2) == 1), .int .i64 (Int.tmod (wrap64 (Int.tdiv (wrap64 (bt a0 2)) 2)) 4), .int .i64 (wrap64 (bt a0 3))]] rfl gl_ ?_; (with_reducible refine (spec_FarmPut.calls k ((Int.tmod (wrap64 (Int.tdiv (wrap64 (bt a0 2)) 32)) 2) == 1) ((Int.tmod (wrap64 (Int.tdiv (wrap64 (bt a0 2)) 16)) 2) == 1) ((Int.tmod (wrap64 (Int.tdiv (wrap64 (bt a0 2)) 8)) 2) == 1) (Int.tmod (wrap64 (Int.tdiv (wrap64 (bt a0 2)) 2)) 4) (wrap64 (bt a0 3)) t255 _ A7.out).mono ?_); rintro e w20 ⟨rfl, hb⟩; refine ⟨_, rfl, ?_⟩; have n0_ := m_ (blk_below (g := gb253) (o := .cells #[.bool false, .bool false, .bool false, .int .i64 0, .int .i64 0] 48 (0, 0)) (kF BK253.out NB253_254.out) hb); have n1_ := m_ (blk_below (g := gb254) (o := .cells #[.bool ((Int.tmod (wrap64 (Int.tdiv (wrap64 (bt a0 2)) 32)) 2) == 1), .bool ((Int.tmod (wrap64 (Int.tdiv (wrap64 (bt a0 2)) 16)) 2) == 1), .bool ((Int.tmod (wrap64 (Int.tdiv (wrap64 (bt a0 2)) 8)) 2) == 1), .int .i64 (Int.tmod (wrap64 (Int.tdiv (wrap64 (bt a0 2)) 2)) 4), .int .i64 (wrap64 (bt a0 3))] 48 (0, 0)) (kP BK254.out) hb); have n2_ := m_ (below_step (bN HB.out) hb); clear BK253; clear BK254; clear HB; have BK253 := n0_; have BK254 := n1_; have HB := n2_; clear n0_ n1_ n2_; (try clear hb); (try clear hb2); (try clear hk); (try clear hi); have hcz21_0 : w20.cell? ⟨gb253, 0, none⟩ = some (.bool false) := bc BK253 0; have hcz21_1 : w20.cell? ⟨gb253, 1, none⟩ = some (.bool false) := bc BK253 1; have hcz21_2 : w20.cell? ⟨gb253, 2, none⟩ = some (.bool false) := bc BK253 2; have hcz21_3 : w20.cell? ⟨gb253, 3, none⟩ = some (.int .i64 0) := bc BK253 3; have hcz21_4 : w20.cell? ⟨gb253, 4, none⟩ = some (.int .i64 0) := bc BK253 4; have hfz21_0 := blk_frozen BK253.out 0; have hfz21_1 := blk_frozen BK253.out 1; have hfz21_2 := blk_frozen BK253.out 2; have hfz21_3 := blk_frozen BK253.out 3; have hfz21_4 := blk_frozen BK253.out 4))
     refine bodyPost_ret (results_ct rfl _ _ gb253 48 #[.bool false, .bool false, .bool false, .int .i64 0, .int .i64 0] (0, 0) _ rfl (kP BK253.out) Try.underlying48 rfl (by kernel_rfl)) rfl ?_
     exact ⟨by first | rfl | (simp [errW_none, errW_some] <;> rfl) | (simp [*, errW_none, errW_some] <;> rfl), by repeat (first | (with_reducible first | exact HB.out | apply below_alloc | apply pw_below_drewN | apply below_drew1 | refine below_set ?_ GE253.out | refine below_set ?_ GE254.out) | exact HB.out)⟩
   ·rw [if_neg c5] at H
    exact absurd H (by simp)
  ·rw [if_neg c3] at H
   exact absurd H (by simp)
 ·rw [if_neg c2] at H
  have c2b0 : ((a0.size : Int) == 4) = false := beq_eq_false_iff_ne.mpr c2
  have c2b1 : ((a0.size : Int) != 4) = true := bne_iff_ne.mpr c2
  simp only [Option.some.injEq, Prod.mk.injEq] at H
  obtain ⟨rfl, rfl, rfl, rfl, rfl, rfl⟩ := H
  go_enter Try.func26, Try.ntmps26
  go_wp2_with (first | ((with_reducible refine gate_dst (N := 2) rfl ?_); refine box_event ?hg (N := 2) ?hd (cs := #[.bool false, .bool false, .bool false, .int .i64 0, .int .i64 0]) (t := 48) ?hr ?_; (case hd => rfl); (case hg => rfl); (case hr => first | (go_simp; done) | (go_simp; rfl)); intro gb253 hg w22 hbox hb; have n0_ := m_ (below_step (bN HB.out) hb); have n1_ := m_ (hbox); have n2_ := m_ ((by rw [hg]; exact (below_size (bN HB.out)) : w.heap.size ≤ gb253)); have n3_ := m_ ((by rw [hg]; exact (below_size (bN HB.out)) : w.heap.size ≤ gb253)); clear HB; have HB := n0_; have BK253 := n1_; have GW253 := n2_; have GE253 := n3_; clear n0_ n1_ n2_ n3_; clear hb hbox hg; have hcz23_0 : w22.cell? ⟨gb253, 0, none⟩ = some (.bool false) := bc BK253 0; have hcz23_1 : w22.cell? ⟨gb253, 1, none⟩ = some (.bool false) := bc BK253 1; have hcz23_2 : w22.cell? ⟨gb253, 2, none⟩ = some (.bool false) := bc BK253 2; have hcz23_3 : w22.cell? ⟨gb253, 3, none⟩ = some (.int .i64 0) := bc BK253 3; have hcz23_4 : w22.cell? ⟨gb253, 4, none⟩ = some (.int .i64 0) := bc BK253 4; have hfz23_0 := blk_frozen BK253.out 0; have hfz23_1 := blk_frozen BK253.out 1; have hfz23_2 := blk_frozen BK253.out 2; have hfz23_3 := blk_frozen BK253.out 3; have hfz23_4 := blk_frozen BK253.out 4))
  refine bodyPost_ret (results_ct rfl _ _ gb253 48 #[.bool false, .bool false, .bool false, .int .i64 0, .int .i64 0] (0, 0) _ rfl (kP BK253.out) Try.underlying48 rfl (by kernel_rfl)) rfl ?_
  exact ⟨by first | rfl | (simp [errW_none, errW_some] <;> rfl) | (simp [*, errW_none, errW_some] <;> rfl), by repeat (first | (with_reducible first | exact HB.out | apply below_alloc | apply pw_below_drewN | apply below_drew1 | refine below_set ?_ GE253.out) | exact HB.out)⟩

/-! ### spec_l12Ok: function 15 -/
def spec_l12Ok.f (k : Nat) (a0_0 : Int) (a0_1 : Int) (a0_2 : Int) (a0_3 : Int) (a0_4 : Int) (a0_5 : ByteArray) (a0_6 : ByteArray) : Option (Bool) := (spec_FarmGet.f k a0_6).bind fun bt257 => (if bt257.2.2.2.2.2 = true then ((spec_l1In.f a0_0 0 1023).bind fun t264 => (if t264 = true then ((spec_l1In.f a0_1 0 7).bind fun t265 => (if t265 = true then ((spec_l1In.f a0_2 0 255).bind fun t266 => (if t266 = true then ((spec_l1In.f a0_3 0 255).bind fun t267 => (if t267 = true then ((spec_l1In.f a0_4 0 27).bind fun t268 => (if t268 = true then (some ((a0_5.size : Int) == 28)) else (if a0_4 = 2047 then (some ((a0_5.size : Int) == 28)) else (if a0_4 = 2046 then (some ((a0_5.size : Int) == 28)) else (some false))))) else (some false))) else (some false))) else (some false))) else (some false))) else (some false))
theorem spec_l12Ok.mono : ∀ a0 a1 a2 a3 a4 a5 a6 k, LeO (spec_l12Ok.f k a0 a1 a2 a3 a4 a5 a6) (spec_l12Ok.f (k + 1) a0 a1 a2 a3 a4 a5 a6) := by
 intro a0 a1 a2 a3 a4 a5 a6 k
 unfold spec_l12Ok.f
 repeat' first
   | (with_reducible exact spec_FarmGet.mono _ _)
   | (with_reducible exact LeO.refl _)
   | (with_reducible exact LeO.none _)
   | (with_reducible refine LeO.ite ?_ ?_)
   | (with_reducible refine LeO.bind ?_ (fun _ => ?_))
   | exact spec_FarmGet.mono _ _
   | exact LeO.none _
   | refine LeO.ite ?_ ?_
   | refine LeO.bind ?_ (fun _ => ?_)
set_option maxHeartbeats 8000000 in
set_option maxRecDepth 100000 in
theorem spec_l12Ok.calls (k : Nat) (a0_0 : Int) (a0_1 : Int) (a0_2 : Int) (a0_3 : Int) (a0_4 : Int) (a0_5 : ByteArray) (a0_6 : ByteArray) (r : Bool) (w : World) (h : spec_l12Ok.f k a0_0 a0_1 a0_2 a0_3 a0_4 a0_5 a0_6 = some r) :
  Calls Try.prog 15 #[.agg #[.int .i64 a0_0, .int .i64 a0_1, .int .i64 a0_2, .int .i64 a0_3, .int .i64 a0_4, .string a0_5, .string a0_6]] w fun e w' => e = .returned (.bool r) ∧ Below w.heap.size w w' := by
 have hu24 := Try.underlying24
 have hu48 := Try.underlying48
 have HB := m_ (Below.refl w.heap.size w)
 have H : ((spec_FarmGet.f k a0_6).bind fun bt257 => (if bt257.2.2.2.2.2 = true then ((spec_l1In.f a0_0 0 1023).bind fun t264 => (if t264 = true then ((spec_l1In.f a0_1 0 7).bind fun t265 => (if t265 = true then ((spec_l1In.f a0_2 0 255).bind fun t266 => (if t266 = true then ((spec_l1In.f a0_3 0 255).bind fun t267 => (if t267 = true then ((spec_l1In.f a0_4 0 27).bind fun t268 => (if t268 = true then (some ((a0_5.size : Int) == 28)) else (if a0_4 = 2047 then (some ((a0_5.size : Int) == 28)) else (if a0_4 = 2046 then (some ((a0_5.size : Int) == 28)) else (some false))))) else (some false))) else (some false))) else (some false))) else (some false))) else (some false))) = some r := h
 clear h
 replace H := Option.bind_eq_some_iff.mp H
 obtain ⟨⟨t257, t258, t259, t260, t261, t262⟩, A20, H⟩ := H
 replace H : (if t262 = true then ((spec_l1In.f a0_0 0 1023).bind fun t264 => (if t264 = true then ((spec_l1In.f a0_1 0 7).bind fun t265 => (if t265 = true then ((spec_l1In.f a0_2 0 255).bind fun t266 => (if t266 = true then ((spec_l1In.f a0_3 0 255).bind fun t267 => (if t267 = true then ((spec_l1In.f a0_4 0 27).bind fun t268 => (if t268 = true then (some ((a0_5.size : Int) == 28)) else (if a0_4 = 2047 then (some ((a0_5.size : Int) == 28)) else (if a0_4 = 2046 then (some ((a0_5.size : Int) == 28)) else (some false))))) else (some false))) else (some false))) else (some false))) else (some false))) else (some false)) = some r := H
 have A2 := Aside0.mk A20
 clear A20
 by_cases c3 : t262 = true
 ·subst c3
  have H1 : ((spec_l1In.f a0_0 0 1023).bind fun t264 => (if t264 = true then ((spec_l1In.f a0_1 0 7).bind fun t265 => (if t265 = true then ((spec_l1In.f a0_2 0 255).bind fun t266 => (if t266 = true then ((spec_l1In.f a0_3 0 255).bind fun t267 => (if t267 = true then ((spec_l1In.f a0_4 0 27).bind fun t268 => (if t268 = true then (some ((a0_5.size : Int) == 28)) else (if a0_4 = 2047 then (some ((a0_5.size : Int) == 28)) else (if a0_4 = 2046 then (some ((a0_5.size : Int) == 28)) else (some false))))) else (some false))) else (some false))) else (some false))) else (some false))) = some r := by rw [if_pos rfl] at H; exact H
  clear H
  have H := H1
  clear H1
  replace H := Option.bind_eq_some_iff.mp H
  obtain ⟨t264, A40, H⟩ := H
  replace H : (if t264 = true then ((spec_l1In.f a0_1 0 7).bind fun t265 => (if t265 = true then ((spec_l1In.f a0_2 0 255).bind fun t266 => (if t266 = true then ((spec_l1In.f a0_3 0 255).bind fun t267 => (if t267 = true then ((spec_l1In.f a0_4 0 27).bind fun t268 => (if t268 = true then (some ((a0_5.size : Int) == 28)) else (if a0_4 = 2047 then (some ((a0_5.size : Int) == 28)) else (if a0_4 = 2046 then (some ((a0_5.size : Int) == 28)) else (some false))))) else (some false))) else (some false))) else (some false))) else (some false)) = some r := H
  have A4 := Aside0.mk A40
  clear A40
  by_cases c5 : t264 = true
  ·subst c5
   have H1 : ((spec_l1In.f a0_1 0 7).bind fun t265 => (if t265 = true then ((spec_l1In.f a0_2 0 255).bind fun t266 => (if t266 = true then ((spec_l1In.f a0_3 0 255).bind fun t267 => (if t267 = true then ((spec_l1In.f a0_4 0 27).bind fun t268 => (if t268 = true then (some ((a0_5.size : Int) == 28)) else (if a0_4 = 2047 then (some ((a0_5.size : Int) == 28)) else (if a0_4 = 2046 then (some ((a0_5.size : Int) == 28)) else (some false))))) else (some false))) else (some false))) else (some false))) = some r := by rw [if_pos rfl] at H; exact H
   clear H
   have H := H1
   clear H1
   replace H := Option.bind_eq_some_iff.mp H
   obtain ⟨t265, A60, H⟩ := H
   replace H : (if t265 = true then ((spec_l1In.f a0_2 0 255).bind fun t266 => (if t266 = true then ((spec_l1In.f a0_3 0 255).bind fun t267 => (if t267 = true then ((spec_l1In.f a0_4 0 27).bind fun t268 => (if t268 = true then (some ((a0_5.size : Int) == 28)) else (if a0_4 = 2047 then (some ((a0_5.size : Int) == 28)) else (if a0_4 = 2046 then (some ((a0_5.size : Int) == 28)) else (some false))))) else (some false))) else (some false))) else (some false)) = some r := H
   have A6 := Aside0.mk A60
   clear A60
   by_cases c7 : t265 = true
   ·subst c7
    have H1 : ((spec_l1In.f a0_2 0 255).bind fun t266 => (if t266 = true then ((spec_l1In.f a0_3 0 255).bind fun t267 => (if t267 = true then ((spec_l1In.f a0_4 0 27).bind fun t268 => (if t268 = true then (some ((a0_5.size : Int) == 28)) else (if a0_4 = 2047 then (some ((a0_5.size : Int) == 28)) else (if a0_4 = 2046 then (some ((a0_5.size : Int) == 28)) else (some false))))) else (some false))) else (some false))) = some r := by rw [if_pos rfl] at H; exact H
    clear H
    have H := H1
    clear H1
    replace H := Option.bind_eq_some_iff.mp H
    obtain ⟨t266, A80, H⟩ := H
    replace H : (if t266 = true then ((spec_l1In.f a0_3 0 255).bind fun t267 => (if t267 = true then ((spec_l1In.f a0_4 0 27).bind fun t268 => (if t268 = true then (some ((a0_5.size : Int) == 28)) else (if a0_4 = 2047 then (some ((a0_5.size : Int) == 28)) else (if a0_4 = 2046 then (some ((a0_5.size : Int) == 28)) else (some false))))) else (some false))) else (some false)) = some r := H
    have A8 := Aside0.mk A80
    clear A80
    by_cases c9 : t266 = true
    ·subst c9
     have H1 : ((spec_l1In.f a0_3 0 255).bind fun t267 => (if t267 = true then ((spec_l1In.f a0_4 0 27).bind fun t268 => (if t268 = true then (some ((a0_5.size : Int) == 28)) else (if a0_4 = 2047 then (some ((a0_5.size : Int) == 28)) else (if a0_4 = 2046 then (some ((a0_5.size : Int) == 28)) else (some false))))) else (some false))) = some r := by rw [if_pos rfl] at H; exact H
     clear H
     have H := H1
     clear H1
     replace H := Option.bind_eq_some_iff.mp H
     obtain ⟨t267, A100, H⟩ := H
     replace H : (if t267 = true then ((spec_l1In.f a0_4 0 27).bind fun t268 => (if t268 = true then (some ((a0_5.size : Int) == 28)) else (if a0_4 = 2047 then (some ((a0_5.size : Int) == 28)) else (if a0_4 = 2046 then (some ((a0_5.size : Int) == 28)) else (some false))))) else (some false)) = some r := H
     have A10 := Aside0.mk A100
     clear A100
     by_cases c11 : t267 = true
     ·subst c11
      have H1 : ((spec_l1In.f a0_4 0 27).bind fun t268 => (if t268 = true then (some ((a0_5.size : Int) == 28)) else (if a0_4 = 2047 then (some ((a0_5.size : Int) == 28)) else (if a0_4 = 2046 then (some ((a0_5.size : Int) == 28)) else (some false))))) = some r := by rw [if_pos rfl] at H; exact H
      clear H
      have H := H1
      clear H1
      replace H := Option.bind_eq_some_iff.mp H
      obtain ⟨t268, A120, H⟩ := H
      replace H : (if t268 = true then (some ((a0_5.size : Int) == 28)) else (if a0_4 = 2047 then (some ((a0_5.size : Int) == 28)) else (if a0_4 = 2046 then (some ((a0_5.size : Int) == 28)) else (some false)))) = some r := H
      have A12 := Aside0.mk A120
      clear A120
      by_cases c13 : t268 = true
      ·subst c13
       have H1 : (some ((a0_5.size : Int) == 28)) = some r := by rw [if_pos rfl] at H; exact H
       clear H
       have H := H1
       clear H1
       obtain rfl := Option.some.inj H
       go_enter Try.func15, Try.ntmps15
       go_wp2_with (first | ((with_reducible refine gate_dst (N := 1) rfl ?_); (try (refine gate_guard (by rfl) ?_; dsimp only)); refine box_event ?hg (N := 1) ?hd (cs := #[.int .i64 a0_0, .int .i64 a0_1, .int .i64 a0_2, .int .i64 a0_3, .int .i64 a0_4, .string a0_5, .string a0_6]) (t := 24) ?hr ?_; (case hd => rfl); (case hg => rfl); (case hr => first | (go_simp; done) | (go_simp; rfl)); intro gb256 hg w14 hbox hb; have n0_ := m_ (below_step (bN HB.out) hb); have n1_ := m_ (hbox); have n2_ := m_ ((by rw [hg]; exact (below_size (bN HB.out)) : w.heap.size ≤ gb256)); have n3_ := m_ ((by rw [hg]; exact (below_size (bN HB.out)) : w.heap.size ≤ gb256)); clear HB; have HB := n0_; have BK256 := n1_; have GW256 := n2_; have GE256 := n3_; clear n0_ n1_ n2_ n3_; clear hb hbox hg; have hcz15_0 : w14.cell? ⟨gb256, 0, none⟩ = some (.int .i64 a0_0) := bc BK256 0; have hcz15_1 : w14.cell? ⟨gb256, 1, none⟩ = some (.int .i64 a0_1) := bc BK256 1; have hcz15_2 : w14.cell? ⟨gb256, 2, none⟩ = some (.int .i64 a0_2) := bc BK256 2; have hcz15_3 : w14.cell? ⟨gb256, 3, none⟩ = some (.int .i64 a0_3) := bc BK256 3; have hcz15_4 : w14.cell? ⟨gb256, 4, none⟩ = some (.int .i64 a0_4) := bc BK256 4; have hcz15_5 : w14.cell? ⟨gb256, 5, none⟩ = some (.string a0_5) := bc BK256 5; have hcz15_6 : w14.cell? ⟨gb256, 6, none⟩ = some (.string a0_6) := bc BK256 6; have hfz15_0 := blk_frozen BK256.out 0; have hfz15_1 := blk_frozen BK256.out 1; have hfz15_2 := blk_frozen BK256.out 2; have hfz15_3 := blk_frozen BK256.out 3; have hfz15_4 := blk_frozen BK256.out 4; have hfz15_5 := blk_frozen BK256.out 5; have hfz15_6 := blk_frozen BK256.out 6) | ((with_reducible refine gate_callee (f := 26) rfl ?_); refine goesL_ (some 8) rfl rfl Try.func26 (by kernel_rfl) rfl #[.string a0_6] rfl gl_ ?_; (with_reducible refine (spec_FarmGet.calls k a0_6 t257 t258 t259 t260 t261 true _ A2.out).mono ?_); rintro e w16 ⟨rfl, hb⟩; refine ⟨_, rfl, ?_⟩; have n0_ := m_ (blk_below (kN BK256.out) hb); have n1_ := m_ (below_step (bN HB.out) hb); clear BK256; clear HB; have BK256 := n0_; have HB := n1_; clear n0_ n1_; (try clear hb); (try clear hb2); (try clear hk); (try clear hi)) | ((with_reducible refine gate_dst (N := 3) rfl ?_); (try (refine gate_guard (by rfl) ?_; dsimp only)); refine box_event ?hg (N := 3) ?hd (cs := #[.bool false, .bool false, .bool false, .int .i64 0, .int .i64 0]) (t := 48) ?hr ?_; (case hd => rfl); (case hg => rfl); (case hr => first | (go_simp; done) | (go_simp; rfl)); intro gb263 hg w17 hbox hb; have n0_ := m_ (blk_below (kN BK256.out) hb); have n1_ := m_ (below_step (bN HB.out) hb); have n2_ := m_ (hbox); have n3_ := m_ ((by rw [hg]; exact (below_size (bN HB.out)) : w.heap.size ≤ gb263)); have n4_ := m_ ((by rw [hg]; exact (below_size (bN HB.out)) : w.heap.size ≤ gb263)); have n5_ := m_ (nL hg BK256.out); have n6_ := m_ (nG hg BK256.out); clear BK256; clear HB; have BK256 := n0_; have HB := n1_; have BK263 := n2_; have GW263 := n3_; have GE263 := n4_; have NB256_263 := n5_; have NB263_256 := n6_; clear n0_ n1_ n2_ n3_ n4_ n5_ n6_; clear hb hbox hg; have hnb18 := NB263_256.out; have hnc18 := NB256_263.out; have hcz19_0 : w17.cell? ⟨gb263, 0, none⟩ = some (.bool false) := bc BK263 0; have hcz19_1 : w17.cell? ⟨gb263, 1, none⟩ = some (.bool false) := bc BK263 1; have hcz19_2 : w17.cell? ⟨gb263, 2, none⟩ = some (.bool false) := bc BK263 2; have hcz19_3 : w17.cell? ⟨gb263, 3, none⟩ = some (.int .i64 0) := bc BK263 3; have hcz19_4 : w17.cell? ⟨gb263, 4, none⟩ = some (.int .i64 0) := bc BK263 4; have hfz19_0 := blk_frozen BK263.out 0; have hfz19_1 := blk_frozen BK263.out 1; have hfz19_2 := blk_frozen BK263.out 2; have hfz19_3 := blk_frozen BK263.out 3; have hfz19_4 := blk_frozen BK263.out 4; have hcz20_0 : w17.cell? ⟨gb256, 0, none⟩ = some (.int .i64 a0_0) := bc BK256 0; have hcz20_1 : w17.cell? ⟨gb256, 1, none⟩ = some (.int .i64 a0_1) := bc BK256 1; have hcz20_2 : w17.cell? ⟨gb256, 2, none⟩ = some (.int .i64 a0_2) := bc BK256 2; have hcz20_3 : w17.cell? ⟨gb256, 3, none⟩ = some (.int .i64 a0_3) := bc BK256 3; have hcz20_4 : w17.cell? ⟨gb256, 4, none⟩ = some (.int .i64 a0_4) := bc BK256 4; have hcz20_5 : w17.cell? ⟨gb256, 5, none⟩ = some (.string a0_5) := bc BK256 5; have hcz20_6 : w17.cell? ⟨gb256, 6, none⟩ = some (.string a0_6) := bc BK256 6; have hfz20_0 := blk_frozen BK256.out 0; have hfz20_1 := blk_frozen BK256.out 1; have hfz20_2 := blk_frozen BK256.out 2; have hfz20_3 := blk_frozen BK256.out 3; have hfz20_4 := blk_frozen BK256.out 4; have hfz20_5 := blk_frozen BK256.out 5; have hfz20_6 := blk_frozen BK256.out 6) | (go_at_call 27; (with_reducible refine (spec_l1In.calls a0_0 0 1023 true _ A4.out).mono ?_); rintro e w' ⟨rfl, ⟨nd, rfl⟩⟩) | (go_at_call 27; (with_reducible refine (spec_l1In.calls a0_1 0 7 true _ A6.out).mono ?_); rintro e w' ⟨rfl, ⟨nd, rfl⟩⟩) | (go_at_call 27; (with_reducible refine (spec_l1In.calls a0_2 0 255 true _ A8.out).mono ?_); rintro e w' ⟨rfl, ⟨nd, rfl⟩⟩) | (go_at_call 27; (with_reducible refine (spec_l1In.calls a0_3 0 255 true _ A10.out).mono ?_); rintro e w' ⟨rfl, ⟨nd, rfl⟩⟩) | (go_at_call 27; (with_reducible refine (spec_l1In.calls a0_4 0 27 true _ A12.out).mono ?_); rintro e w' ⟨rfl, ⟨nd, rfl⟩⟩))
       go_ret
       exact ⟨by first | rfl | (simp [errW_none, errW_some] <;> rfl) | (simp [*, errW_none, errW_some] <;> rfl), by repeat (first | (with_reducible first | exact HB.out | apply below_alloc | apply pw_below_drewN | apply below_drew1 | refine below_set ?_ GE256.out | refine below_set ?_ GE263.out) | exact HB.out)⟩
      ·replace c13 := Bool.eq_false_iff.mpr c13
       subst c13
       have H1 : (if a0_4 = 2047 then (some ((a0_5.size : Int) == 28)) else (if a0_4 = 2046 then (some ((a0_5.size : Int) == 28)) else (some false))) = some r := by rw [if_neg (show ¬ (false = true) by decide)] at H; exact H
       clear H
       have H := H1
       clear H1
       by_cases c21 : a0_4 = 2047
       ·rw [if_pos c21] at H
        have c21b0 : (a0_4 == 2047) = true := beq_iff_eq.mpr c21
        have c21b1 : (a0_4 != 2047) = false := bne_eq_false_iff_eq.mpr c21
        clear c21
        obtain rfl := Option.some.inj H
        go_enter Try.func15, Try.ntmps15
        go_wp2_with (first | ((with_reducible refine gate_dst (N := 1) rfl ?_); (try (refine gate_guard (by rfl) ?_; dsimp only)); refine box_event ?hg (N := 1) ?hd (cs := #[.int .i64 a0_0, .int .i64 a0_1, .int .i64 a0_2, .int .i64 a0_3, .int .i64 a0_4, .string a0_5, .string a0_6]) (t := 24) ?hr ?_; (case hd => rfl); (case hg => rfl); (case hr => first | (go_simp; done) | (go_simp; rfl)); intro gb256 hg w22 hbox hb; have n0_ := m_ (below_step (bN HB.out) hb); have n1_ := m_ (hbox); have n2_ := m_ ((by rw [hg]; exact (below_size (bN HB.out)) : w.heap.size ≤ gb256)); have n3_ := m_ ((by rw [hg]; exact (below_size (bN HB.out)) : w.heap.size ≤ gb256)); clear HB; have HB := n0_; have BK256 := n1_; have GW256 := n2_; have GE256 := n3_; clear n0_ n1_ n2_ n3_; clear hb hbox hg; have hcz23_0 : w22.cell? ⟨gb256, 0, none⟩ = some (.int .i64 a0_0) := bc BK256 0; have hcz23_1 : w22.cell? ⟨gb256, 1, none⟩ = some (.int .i64 a0_1) := bc BK256 1; have hcz23_2 : w22.cell? ⟨gb256, 2, none⟩ = some (.int .i64 a0_2) := bc BK256 2; have hcz23_3 : w22.cell? ⟨gb256, 3, none⟩ = some (.int .i64 a0_3) := bc BK256 3; have hcz23_4 : w22.cell? ⟨gb256, 4, none⟩ = some (.int .i64 a0_4) := bc BK256 4; have hcz23_5 : w22.cell? ⟨gb256, 5, none⟩ = some (.string a0_5) := bc BK256 5; have hcz23_6 : w22.cell? ⟨gb256, 6, none⟩ = some (.string a0_6) := bc BK256 6; have hfz23_0 := blk_frozen BK256.out 0; have hfz23_1 := blk_frozen BK256.out 1; have hfz23_2 := blk_frozen BK256.out 2; have hfz23_3 := blk_frozen BK256.out 3; have hfz23_4 := blk_frozen BK256.out 4; have hfz23_5 := blk_frozen BK256.out 5; have hfz23_6 := blk_frozen BK256.out 6) | ((with_reducible refine gate_callee (f := 26) rfl ?_); refine goesL_ (some 8) rfl rfl Try.func26 (by kernel_rfl) rfl #[.string a0_6] rfl gl_ ?_; (with_reducible refine (spec_FarmGet.calls k a0_6 t257 t258 t259 t260 t261 true _ A2.out).mono ?_); rintro e w24 ⟨rfl, hb⟩; refine ⟨_, rfl, ?_⟩; have n0_ := m_ (blk_below (kN BK256.out) hb); have n1_ := m_ (below_step (bN HB.out) hb); clear BK256; clear HB; have BK256 := n0_; have HB := n1_; clear n0_ n1_; (try clear hb); (try clear hb2); (try clear hk); (try clear hi)) | ((with_reducible refine gate_dst (N := 3) rfl ?_); (try (refine gate_guard (by rfl) ?_; dsimp only)); refine box_event ?hg (N := 3) ?hd (cs := #[.bool false, .bool false, .bool false, .int .i64 0, .int .i64 0]) (t := 48) ?hr ?_; (case hd => rfl); (case hg => rfl); (case hr => first | (go_simp; done) | (go_simp; rfl)); intro gb263 hg w25 hbox hb; have n0_ := m_ (blk_below (kN BK256.out) hb); have n1_ := m_ (below_step (bN HB.out) hb); have n2_ := m_ (hbox); have n3_ := m_ ((by rw [hg]; exact (below_size (bN HB.out)) : w.heap.size ≤ gb263)); have n4_ := m_ ((by rw [hg]; exact (below_size (bN HB.out)) : w.heap.size ≤ gb263)); have n5_ := m_ (nL hg BK256.out); have n6_ := m_ (nG hg BK256.out); clear BK256; clear HB; have BK256 := n0_; have HB := n1_; have BK263 := n2_; have GW263 := n3_; have GE263 := n4_; have NB256_263 := n5_; have NB263_256 := n6_; clear n0_ n1_ n2_ n3_ n4_ n5_ n6_; clear hb hbox hg; have hnb26 := NB263_256.out; have hnc26 := NB256_263.out; have hcz27_0 : w25.cell? ⟨gb263, 0, none⟩ = some (.bool false) := bc BK263 0; have hcz27_1 : w25.cell? ⟨gb263, 1, none⟩ = some (.bool false) := bc BK263 1; have hcz27_2 : w25.cell? ⟨gb263, 2, none⟩ = some (.bool false) := bc BK263 2; have hcz27_3 : w25.cell? ⟨gb263, 3, none⟩ = some (.int .i64 0) := bc BK263 3; have hcz27_4 : w25.cell? ⟨gb263, 4, none⟩ = some (.int .i64 0) := bc BK263 4; have hfz27_0 := blk_frozen BK263.out 0; have hfz27_1 := blk_frozen BK263.out 1; have hfz27_2 := blk_frozen BK263.out 2; have hfz27_3 := blk_frozen BK263.out 3; have hfz27_4 := blk_frozen BK263.out 4; have hcz28_0 : w25.cell? ⟨gb256, 0, none⟩ = some (.int .i64 a0_0) := bc BK256 0; have hcz28_1 : w25.cell? ⟨gb256, 1, none⟩ = some (.int .i64 a0_1) := bc BK256 1; have hcz28_2 : w25.cell? ⟨gb256, 2, none⟩ = some (.int .i64 a0_2) := bc BK256 2; have hcz28_3 : w25.cell? ⟨gb256, 3, none⟩ = some (.int .i64 a0_3) := bc BK256 3; have hcz28_4 : w25.cell? ⟨gb256, 4, none⟩ = some (.int .i64 a0_4) := bc BK256 4; have hcz28_5 : w25.cell? ⟨gb256, 5, none⟩ = some (.string a0_5) := bc BK256 5; have hcz28_6 : w25.cell? ⟨gb256, 6, none⟩ = some (.string a0_6) := bc BK256 6; have hfz28_0 := blk_frozen BK256.out 0; have hfz28_1 := blk_frozen BK256.out 1; have hfz28_2 := blk_frozen BK256.out 2; have hfz28_3 := blk_frozen BK256.out 3; have hfz28_4 := blk_frozen BK256.out 4; have hfz28_5 := blk_frozen BK256.out 5; have hfz28_6 := blk_frozen BK256.out 6) | (go_at_call 27; (with_reducible refine (spec_l1In.calls a0_0 0 1023 true _ A4.out).mono ?_); rintro e w' ⟨rfl, ⟨nd, rfl⟩⟩) | (go_at_call 27; (with_reducible refine (spec_l1In.calls a0_1 0 7 true _ A6.out).mono ?_); rintro e w' ⟨rfl, ⟨nd, rfl⟩⟩) | (go_at_call 27; (with_reducible refine (spec_l1In.calls a0_2 0 255 true _ A8.out).mono ?_); rintro e w' ⟨rfl, ⟨nd, rfl⟩⟩) | (go_at_call 27; (with_reducible refine (spec_l1In.calls a0_3 0 255 true _ A10.out).mono ?_); rintro e w' ⟨rfl, ⟨nd, rfl⟩⟩) | (go_at_call 27; (with_reducible refine (spec_l1In.calls a0_4 0 27 false _ A12.out).mono ?_); rintro e w' ⟨rfl, ⟨nd, rfl⟩⟩))
        go_ret
        exact ⟨by first | rfl | (simp [errW_none, errW_some] <;> rfl) | (simp [*, errW_none, errW_some] <;> rfl), by repeat (first | (with_reducible first | exact HB.out | apply below_alloc | apply pw_below_drewN | apply below_drew1 | refine below_set ?_ GE256.out | refine below_set ?_ GE263.out) | exact HB.out)⟩
       ·rw [if_neg c21] at H
        have c21b0 : (a0_4 == 2047) = false := beq_eq_false_iff_ne.mpr c21
        have c21b1 : (a0_4 != 2047) = true := bne_iff_ne.mpr c21
        by_cases c29 : a0_4 = 2046
        ·rw [if_pos c29] at H
         have c29b0 : (a0_4 == 2046) = true := beq_iff_eq.mpr c29
         have c29b1 : (a0_4 != 2046) = false := bne_eq_false_iff_eq.mpr c29
         clear c29
         obtain rfl := Option.some.inj H
         go_enter Try.func15, Try.ntmps15
         go_wp2_with (first | ((with_reducible refine gate_dst (N := 1) rfl ?_); (try (refine gate_guard (by rfl) ?_; dsimp only)); refine box_event ?hg (N := 1) ?hd (cs := #[.int .i64 a0_0, .int .i64 a0_1, .int .i64 a0_2, .int .i64 a0_3, .int .i64 a0_4, .string a0_5, .string a0_6]) (t := 24) ?hr ?_; (case hd => rfl); (case hg => rfl); (case hr => first | (go_simp; done) | (go_simp; rfl)); intro gb256 hg w30 hbox hb; have n0_ := m_ (below_step (bN HB.out) hb); have n1_ := m_ (hbox); have n2_ := m_ ((by rw [hg]; exact (below_size (bN HB.out)) : w.heap.size ≤ gb256)); have n3_ := m_ ((by rw [hg]; exact (below_size (bN HB.out)) : w.heap.size ≤ gb256)); clear HB; have HB := n0_; have BK256 := n1_; have GW256 := n2_; have GE256 := n3_; clear n0_ n1_ n2_ n3_; clear hb hbox hg; have hcz31_0 : w30.cell? ⟨gb256, 0, none⟩ = some (.int .i64 a0_0) := bc BK256 0; have hcz31_1 : w30.cell? ⟨gb256, 1, none⟩ = some (.int .i64 a0_1) := bc BK256 1; have hcz31_2 : w30.cell? ⟨gb256, 2, none⟩ = some (.int .i64 a0_2) := bc BK256 2; have hcz31_3 : w30.cell? ⟨gb256, 3, none⟩ = some (.int .i64 a0_3) := bc BK256 3; have hcz31_4 : w30.cell? ⟨gb256, 4, none⟩ = some (.int .i64 a0_4) := bc BK256 4; have hcz31_5 : w30.cell? ⟨gb256, 5, none⟩ = some (.string a0_5) := bc BK256 5; have hcz31_6 : w30.cell? ⟨gb256, 6, none⟩ = some (.string a0_6) := bc BK256 6; have hfz31_0 := blk_frozen BK256.out 0; have hfz31_1 := blk_frozen BK256.out 1; have hfz31_2 := blk_frozen BK256.out 2; have hfz31_3 := blk_frozen BK256.out 3; have hfz31_4 := blk_frozen BK256.out 4; have hfz31_5 := blk_frozen BK256.out 5; have hfz31_6 := blk_frozen BK256.out 6) | ((with_reducible refine gate_callee (f := 26) rfl ?_); refine goesL_ (some 8) rfl rfl Try.func26 (by kernel_rfl) rfl #[.string a0_6] rfl gl_ ?_; (with_reducible refine (spec_FarmGet.calls k a0_6 t257 t258 t259 t260 t261 true _ A2.out).mono ?_); rintro e w32 ⟨rfl, hb⟩; refine ⟨_, rfl, ?_⟩; have n0_ := m_ (blk_below (kN BK256.out) hb); have n1_ := m_ (below_step (bN HB.out) hb); clear BK256; clear HB; have BK256 := n0_; have HB := n1_; clear n0_ n1_; (try clear hb); (try clear hb2); (try clear hk); (try clear hi)) | ((with_reducible refine gate_dst (N := 3) rfl ?_); (try (refine gate_guard (by rfl) ?_; dsimp only)); refine box_event ?hg (N := 3) ?hd (cs := #[.bool false, .bool false, .bool false, .int .i64 0, .int .i64 0]) (t := 48) ?hr ?_; (case hd => rfl); (case hg => rfl); (case hr => first | (go_simp; done) | (go_simp; rfl)); intro gb263 hg w33 hbox hb; have n0_ := m_ (blk_below (kN BK256.out) hb); have n1_ := m_ (below_step (bN HB.out) hb); have n2_ := m_ (hbox); have n3_ := m_ ((by rw [hg]; exact (below_size (bN HB.out)) : w.heap.size ≤ gb263)); have n4_ := m_ ((by rw [hg]; exact (below_size (bN HB.out)) : w.heap.size ≤ gb263)); have n5_ := m_ (nL hg BK256.out); have n6_ := m_ (nG hg BK256.out); clear BK256; clear HB; have BK256 := n0_; have HB := n1_; have BK263 := n2_; have GW263 := n3_; have GE263 := n4_; have NB256_263 := n5_; have NB263_256 := n6_; clear n0_ n1_ n2_ n3_ n4_ n5_ n6_; clear hb hbox hg; have hnb34 := NB263_256.out; have hnc34 := NB256_263.out; have hcz35_0 : w33.cell? ⟨gb263, 0, none⟩ = some (.bool false) := bc BK263 0; have hcz35_1 : w33.cell? ⟨gb263, 1, none⟩ = some (.bool false) := bc BK263 1; have hcz35_2 : w33.cell? ⟨gb263, 2, none⟩ = some (.bool false) := bc BK263 2; have hcz35_3 : w33.cell? ⟨gb263, 3, none⟩ = some (.int .i64 0) := bc BK263 3; have hcz35_4 : w33.cell? ⟨gb263, 4, none⟩ = some (.int .i64 0) := bc BK263 4; have hfz35_0 := blk_frozen BK263.out 0; have hfz35_1 := blk_frozen BK263.out 1; have hfz35_2 := blk_frozen BK263.out 2; have hfz35_3 := blk_frozen BK263.out 3; have hfz35_4 := blk_frozen BK263.out 4; have hcz36_0 : w33.cell? ⟨gb256, 0, none⟩ = some (.int .i64 a0_0) := bc BK256 0; have hcz36_1 : w33.cell? ⟨gb256, 1, none⟩ = some (.int .i64 a0_1) := bc BK256 1; have hcz36_2 : w33.cell? ⟨gb256, 2, none⟩ = some (.int .i64 a0_2) := bc BK256 2; have hcz36_3 : w33.cell? ⟨gb256, 3, none⟩ = some (.int .i64 a0_3) := bc BK256 3; have hcz36_4 : w33.cell? ⟨gb256, 4, none⟩ = some (.int .i64 a0_4) := bc BK256 4; have hcz36_5 : w33.cell? ⟨gb256, 5, none⟩ = some (.string a0_5) := bc BK256 5; have hcz36_6 : w33.cell? ⟨gb256, 6, none⟩ = some (.string a0_6) := bc BK256 6; have hfz36_0 := blk_frozen BK256.out 0; have hfz36_1 := blk_frozen BK256.out 1; have hfz36_2 := blk_frozen BK256.out 2; have hfz36_3 := blk_frozen BK256.out 3; have hfz36_4 := blk_frozen BK256.out 4; have hfz36_5 := blk_frozen BK256.out 5; have hfz36_6 := blk_frozen BK256.out 6) | (go_at_call 27; (with_reducible refine (spec_l1In.calls a0_0 0 1023 true _ A4.out).mono ?_); rintro e w' ⟨rfl, ⟨nd, rfl⟩⟩) | (go_at_call 27; (with_reducible refine (spec_l1In.calls a0_1 0 7 true _ A6.out).mono ?_); rintro e w' ⟨rfl, ⟨nd, rfl⟩⟩) | (go_at_call 27; (with_reducible refine (spec_l1In.calls a0_2 0 255 true _ A8.out).mono ?_); rintro e w' ⟨rfl, ⟨nd, rfl⟩⟩) | (go_at_call 27; (with_reducible refine (spec_l1In.calls a0_3 0 255 true _ A10.out).mono ?_); rintro e w' ⟨rfl, ⟨nd, rfl⟩⟩) | (go_at_call 27; (with_reducible refine (spec_l1In.calls a0_4 0 27 false _ A12.out).mono ?_); rintro e w' ⟨rfl, ⟨nd, rfl⟩⟩))
         go_ret
         exact ⟨by first | rfl | (simp [errW_none, errW_some] <;> rfl) | (simp [*, errW_none, errW_some] <;> rfl), by repeat (first | (with_reducible first | exact HB.out | apply below_alloc | apply pw_below_drewN | apply below_drew1 | refine below_set ?_ GE256.out | refine below_set ?_ GE263.out) | exact HB.out)⟩
        ·rw [if_neg c29] at H
         have c29b0 : (a0_4 == 2046) = false := beq_eq_false_iff_ne.mpr c29
         have c29b1 : (a0_4 != 2046) = true := bne_iff_ne.mpr c29
         obtain rfl := Option.some.inj H
         go_enter Try.func15, Try.ntmps15
         go_wp2_with (first | ((with_reducible refine gate_dst (N := 1) rfl ?_); (try (refine gate_guard (by rfl) ?_; dsimp only)); refine box_event ?hg (N := 1) ?hd (cs := #[.int .i64 a0_0, .int .i64 a0_1, .int .i64 a0_2, .int .i64 a0_3, .int .i64 a0_4, .string a0_5, .string a0_6]) (t := 24) ?hr ?_; (case hd => rfl); (case hg => rfl); (case hr => first | (go_simp; done) | (go_simp; rfl)); intro gb256 hg w37 hbox hb; have n0_ := m_ (below_step (bN HB.out) hb); have n1_ := m_ (hbox); have n2_ := m_ ((by rw [hg]; exact (below_size (bN HB.out)) : w.heap.size ≤ gb256)); have n3_ := m_ ((by rw [hg]; exact (below_size (bN HB.out)) : w.heap.size ≤ gb256)); clear HB; have HB := n0_; have BK256 := n1_; have GW256 := n2_; have GE256 := n3_; clear n0_ n1_ n2_ n3_; clear hb hbox hg; have hcz38_0 : w37.cell? ⟨gb256, 0, none⟩ = some (.int .i64 a0_0) := bc BK256 0; have hcz38_1 : w37.cell? ⟨gb256, 1, none⟩ = some (.int .i64 a0_1) := bc BK256 1; have hcz38_2 : w37.cell? ⟨gb256, 2, none⟩ = some (.int .i64 a0_2) := bc BK256 2; have hcz38_3 : w37.cell? ⟨gb256, 3, none⟩ = some (.int .i64 a0_3) := bc BK256 3; have hcz38_4 : w37.cell? ⟨gb256, 4, none⟩ = some (.int .i64 a0_4) := bc BK256 4; have hcz38_5 : w37.cell? ⟨gb256, 5, none⟩ = some (.string a0_5) := bc BK256 5; have hcz38_6 : w37.cell? ⟨gb256, 6, none⟩ = some (.string a0_6) := bc BK256 6; have hfz38_0 := blk_frozen BK256.out 0; have hfz38_1 := blk_frozen BK256.out 1; have hfz38_2 := blk_frozen BK256.out 2; have hfz38_3 := blk_frozen BK256.out 3; have hfz38_4 := blk_frozen BK256.out 4; have hfz38_5 := blk_frozen BK256.out 5; have hfz38_6 := blk_frozen BK256.out 6) | ((with_reducible refine gate_callee (f := 26) rfl ?_); refine goesL_ (some 8) rfl rfl Try.func26 (by kernel_rfl) rfl #[.string a0_6] rfl gl_ ?_; (with_reducible refine (spec_FarmGet.calls k a0_6 t257 t258 t259 t260 t261 true _ A2.out).mono ?_); rintro e w39 ⟨rfl, hb⟩; refine ⟨_, rfl, ?_⟩; have n0_ := m_ (blk_below (kN BK256.out) hb); have n1_ := m_ (below_step (bN HB.out) hb); clear BK256; clear HB; have BK256 := n0_; have HB := n1_; clear n0_ n1_; (try clear hb); (try clear hb2); (try clear hk); (try clear hi)) | ((with_reducible refine gate_dst (N := 3) rfl ?_); (try (refine gate_guard (by rfl) ?_; dsimp only)); refine box_event ?hg (N := 3) ?hd (cs := #[.bool false, .bool false, .bool false, .int .i64 0, .int .i64 0]) (t := 48) ?hr ?_; (case hd => rfl); (case hg => rfl); (case hr => first | (go_simp; done) | (go_simp; rfl)); intro gb263 hg w40 hbox hb; have n0_ := m_ (blk_below (kN BK256.out) hb); have n1_ := m_ (below_step (bN HB.out) hb); have n2_ := m_ (hbox); have n3_ := m_ ((by rw [hg]; exact (below_size (bN HB.out)) : w.heap.size ≤ gb263)); have n4_ := m_ ((by rw [hg]; exact (below_size (bN HB.out)) : w.heap.size ≤ gb263)); have n5_ := m_ (nL hg BK256.out); have n6_ := m_ (nG hg BK256.out); clear BK256; clear HB; have BK256 := n0_; have HB := n1_; have BK263 := n2_; have GW263 := n3_; have GE263 := n4_; have NB256_263 := n5_; have NB263_256 := n6_; clear n0_ n1_ n2_ n3_ n4_ n5_ n6_; clear hb hbox hg; have hnb41 := NB263_256.out; have hnc41 := NB256_263.out; have hcz42_0 : w40.cell? ⟨gb263, 0, none⟩ = some (.bool false) := bc BK263 0; have hcz42_1 : w40.cell? ⟨gb263, 1, none⟩ = some (.bool false) := bc BK263 1; have hcz42_2 : w40.cell? ⟨gb263, 2, none⟩ = some (.bool false) := bc BK263 2; have hcz42_3 : w40.cell? ⟨gb263, 3, none⟩ = some (.int .i64 0) := bc BK263 3; have hcz42_4 : w40.cell? ⟨gb263, 4, none⟩ = some (.int .i64 0) := bc BK263 4; have hfz42_0 := blk_frozen BK263.out 0; have hfz42_1 := blk_frozen BK263.out 1; have hfz42_2 := blk_frozen BK263.out 2; have hfz42_3 := blk_frozen BK263.out 3; have hfz42_4 := blk_frozen BK263.out 4; have hcz43_0 : w40.cell? ⟨gb256, 0, none⟩ = some (.int .i64 a0_0) := bc BK256 0; have hcz43_1 : w40.cell? ⟨gb256, 1, none⟩ = some (.int .i64 a0_1) := bc BK256 1; have hcz43_2 : w40.cell? ⟨gb256, 2, none⟩ = some (.int .i64 a0_2) := bc BK256 2; have hcz43_3 : w40.cell? ⟨gb256, 3, none⟩ = some (.int .i64 a0_3) := bc BK256 3; have hcz43_4 : w40.cell? ⟨gb256, 4, none⟩ = some (.int .i64 a0_4) := bc BK256 4; have hcz43_5 : w40.cell? ⟨gb256, 5, none⟩ = some (.string a0_5) := bc BK256 5; have hcz43_6 : w40.cell? ⟨gb256, 6, none⟩ = some (.string a0_6) := bc BK256 6; have hfz43_0 := blk_frozen BK256.out 0; have hfz43_1 := blk_frozen BK256.out 1; have hfz43_2 := blk_frozen BK256.out 2; have hfz43_3 := blk_frozen BK256.out 3; have hfz43_4 := blk_frozen BK256.out 4; have hfz43_5 := blk_frozen BK256.out 5; have hfz43_6 := blk_frozen BK256.out 6) | (go_at_call 27; (with_reducible refine (spec_l1In.calls a0_0 0 1023 true _ A4.out).mono ?_); rintro e w' ⟨rfl, ⟨nd, rfl⟩⟩) | (go_at_call 27; (with_reducible refine (spec_l1In.calls a0_1 0 7 true _ A6.out).mono ?_); rintro e w' ⟨rfl, ⟨nd, rfl⟩⟩) | (go_at_call 27; (with_reducible refine (spec_l1In.calls a0_2 0 255 true _ A8.out).mono ?_); rintro e w' ⟨rfl, ⟨nd, rfl⟩⟩) | (go_at_call 27; (with_reducible refine (spec_l1In.calls a0_3 0 255 true _ A10.out).mono ?_); rintro e w' ⟨rfl, ⟨nd, rfl⟩⟩) | (go_at_call 27; (with_reducible refine (spec_l1In.calls a0_4 0 27 false _ A12.out).mono ?_); rintro e w' ⟨rfl, ⟨nd, rfl⟩⟩))
         go_ret
         exact ⟨by first | rfl | (simp [errW_none, errW_some] <;> rfl) | (simp [*, errW_none, errW_some] <;> rfl), by repeat (first | (with_reducible first | exact HB.out | apply below_alloc | apply pw_below_drewN | apply below_drew1 | refine below_set ?_ GE256.out | refine below_set ?_ GE263.out) | exact HB.out)⟩
     ·replace c11 := Bool.eq_false_iff.mpr c11
      subst c11
      have H1 : (some false) = some r := by rw [if_neg (show ¬ (false = true) by decide)] at H; exact H
      clear H
      have H := H1
      clear H1
      obtain rfl := Option.some.inj H
      go_enter Try.func15, Try.ntmps15
      go_wp2_with (first | ((with_reducible refine gate_dst (N := 1) rfl ?_); (try (refine gate_guard (by rfl) ?_; dsimp only)); refine box_event ?hg (N := 1) ?hd (cs := #[.int .i64 a0_0, .int .i64 a0_1, .int .i64 a0_2, .int .i64 a0_3, .int .i64 a0_4, .string a0_5, .string a0_6]) (t := 24) ?hr ?_; (case hd => rfl); (case hg => rfl); (case hr => first | (go_simp; done) | (go_simp; rfl)); intro gb256 hg w44 hbox hb; have n0_ := m_ (below_step (bN HB.out) hb); have n1_ := m_ (hbox); have n2_ := m_ ((by rw [hg]; exact (below_size (bN HB.out)) : w.heap.size ≤ gb256)); have n3_ := m_ ((by rw [hg]; exact (below_size (bN HB.out)) : w.heap.size ≤ gb256)); clear HB; have HB := n0_; have BK256 := n1_; have GW256 := n2_; have GE256 := n3_; clear n0_ n1_ n2_ n3_; clear hb hbox hg; have hcz45_0 : w44.cell? ⟨gb256, 0, none⟩ = some (.int .i64 a0_0) := bc BK256 0; have hcz45_1 : w44.cell? ⟨gb256, 1, none⟩ = some (.int .i64 a0_1) := bc BK256 1; have hcz45_2 : w44.cell? ⟨gb256, 2, none⟩ = some (.int .i64 a0_2) := bc BK256 2; have hcz45_3 : w44.cell? ⟨gb256, 3, none⟩ = some (.int .i64 a0_3) := bc BK256 3; have hcz45_4 : w44.cell? ⟨gb256, 4, none⟩ = some (.int .i64 a0_4) := bc BK256 4; have hcz45_5 : w44.cell? ⟨gb256, 5, none⟩ = some (.string a0_5) := bc BK256 5; have hcz45_6 : w44.cell? ⟨gb256, 6, none⟩ = some (.string a0_6) := bc BK256 6; have hfz45_0 := blk_frozen BK256.out 0; have hfz45_1 := blk_frozen BK256.out 1; have hfz45_2 := blk_frozen BK256.out 2; have hfz45_3 := blk_frozen BK256.out 3; have hfz45_4 := blk_frozen BK256.out 4; have hfz45_5 := blk_frozen BK256.out 5; have hfz45_6 := blk_frozen BK256.out 6) | ((with_reducible refine gate_callee (f := 26) rfl ?_); refine goesL_ (some 8) rfl rfl Try.func26 (by kernel_rfl) rfl #[.string a0_6] rfl gl_ ?_; (with_reducible refine (spec_FarmGet.calls k a0_6 t257 t258 t259 t260 t261 true _ A2.out).mono ?_); rintro e w46 ⟨rfl, hb⟩; refine ⟨_, rfl, ?_⟩; have n0_ := m_ (blk_below (kN BK256.out) hb); have n1_ := m_ (below_step (bN HB.out) hb); clear BK256; clear HB; have BK256 := n0_; have HB := n1_; clear n0_ n1_; (try clear hb); (try clear hb2); (try clear hk); (try clear hi)) | ((with_reducible refine gate_dst (N := 3) rfl ?_); (try (refine gate_guard (by rfl) ?_; dsimp only)); refine box_event ?hg (N := 3) ?hd (cs := #[.bool false, .bool false, .bool false, .int .i64 0, .int .i64 0]) (t := 48) ?hr ?_; (case hd => rfl); (case hg => rfl); (case hr => first | (go_simp; done) | (go_simp; rfl)); intro gb263 hg w47 hbox hb; have n0_ := m_ (blk_below (kN BK256.out) hb); have n1_ := m_ (below_step (bN HB.out) hb); have n2_ := m_ (hbox); have n3_ := m_ ((by rw [hg]; exact (below_size (bN HB.out)) : w.heap.size ≤ gb263)); have n4_ := m_ ((by rw [hg]; exact (below_size (bN HB.out)) : w.heap.size ≤ gb263)); have n5_ := m_ (nL hg BK256.out); have n6_ := m_ (nG hg BK256.out); clear BK256; clear HB; have BK256 := n0_; have HB := n1_; have BK263 := n2_; have GW263 := n3_; have GE263 := n4_; have NB256_263 := n5_; have NB263_256 := n6_; clear n0_ n1_ n2_ n3_ n4_ n5_ n6_; clear hb hbox hg; have hnb48 := NB263_256.out; have hnc48 := NB256_263.out; have hcz49_0 : w47.cell? ⟨gb263, 0, none⟩ = some (.bool false) := bc BK263 0; have hcz49_1 : w47.cell? ⟨gb263, 1, none⟩ = some (.bool false) := bc BK263 1; have hcz49_2 : w47.cell? ⟨gb263, 2, none⟩ = some (.bool false) := bc BK263 2; have hcz49_3 : w47.cell? ⟨gb263, 3, none⟩ = some (.int .i64 0) := bc BK263 3; have hcz49_4 : w47.cell? ⟨gb263, 4, none⟩ = some (.int .i64 0) := bc BK263 4; have hfz49_0 := blk_frozen BK263.out 0; have hfz49_1 := blk_frozen BK263.out 1; have hfz49_2 := blk_frozen BK263.out 2; have hfz49_3 := blk_frozen BK263.out 3; have hfz49_4 := blk_frozen BK263.out 4; have hcz50_0 : w47.cell? ⟨gb256, 0, none⟩ = some (.int .i64 a0_0) := bc BK256 0; have hcz50_1 : w47.cell? ⟨gb256, 1, none⟩ = some (.int .i64 a0_1) := bc BK256 1; have hcz50_2 : w47.cell? ⟨gb256, 2, none⟩ = some (.int .i64 a0_2) := bc BK256 2; have hcz50_3 : w47.cell? ⟨gb256, 3, none⟩ = some (.int .i64 a0_3) := bc BK256 3; have hcz50_4 : w47.cell? ⟨gb256, 4, none⟩ = some (.int .i64 a0_4) := bc BK256 4; have hcz50_5 : w47.cell? ⟨gb256, 5, none⟩ = some (.string a0_5) := bc BK256 5; have hcz50_6 : w47.cell? ⟨gb256, 6, none⟩ = some (.string a0_6) := bc BK256 6; have hfz50_0 := blk_frozen BK256.out 0; have hfz50_1 := blk_frozen BK256.out 1; have hfz50_2 := blk_frozen BK256.out 2; have hfz50_3 := blk_frozen BK256.out 3; have hfz50_4 := blk_frozen BK256.out 4; have hfz50_5 := blk_frozen BK256.out 5; have hfz50_6 := blk_frozen BK256.out 6) | (go_at_call 27; (with_reducible refine (spec_l1In.calls a0_0 0 1023 true _ A4.out).mono ?_); rintro e w' ⟨rfl, ⟨nd, rfl⟩⟩) | (go_at_call 27; (with_reducible refine (spec_l1In.calls a0_1 0 7 true _ A6.out).mono ?_); rintro e w' ⟨rfl, ⟨nd, rfl⟩⟩) | (go_at_call 27; (with_reducible refine (spec_l1In.calls a0_2 0 255 true _ A8.out).mono ?_); rintro e w' ⟨rfl, ⟨nd, rfl⟩⟩) | (go_at_call 27; (with_reducible refine (spec_l1In.calls a0_3 0 255 false _ A10.out).mono ?_); rintro e w' ⟨rfl, ⟨nd, rfl⟩⟩))
      go_ret
      exact ⟨by first | rfl | (simp [errW_none, errW_some] <;> rfl) | (simp [*, errW_none, errW_some] <;> rfl), by repeat (first | (with_reducible first | exact HB.out | apply below_alloc | apply pw_below_drewN | apply below_drew1 | refine below_set ?_ GE256.out | refine below_set ?_ GE263.out) | exact HB.out)⟩
    ·replace c9 := Bool.eq_false_iff.mpr c9
     subst c9
     have H1 : (some false) = some r := by rw [if_neg (show ¬ (false = true) by decide)] at H; exact H
     clear H
     have H := H1
     clear H1
     obtain rfl := Option.some.inj H
     go_enter Try.func15, Try.ntmps15
     go_wp2_with (first | ((with_reducible refine gate_dst (N := 1) rfl ?_); (try (refine gate_guard (by rfl) ?_; dsimp only)); refine box_event ?hg (N := 1) ?hd (cs := #[.int .i64 a0_0, .int .i64 a0_1, .int .i64 a0_2, .int .i64 a0_3, .int .i64 a0_4, .string a0_5, .string a0_6]) (t := 24) ?hr ?_; (case hd => rfl); (case hg => rfl); (case hr => first | (go_simp; done) | (go_simp; rfl)); intro gb256 hg w51 hbox hb; have n0_ := m_ (below_step (bN HB.out) hb); have n1_ := m_ (hbox); have n2_ := m_ ((by rw [hg]; exact (below_size (bN HB.out)) : w.heap.size ≤ gb256)); have n3_ := m_ ((by rw [hg]; exact (below_size (bN HB.out)) : w.heap.size ≤ gb256)); clear HB; have HB := n0_; have BK256 := n1_; have GW256 := n2_; have GE256 := n3_; clear n0_ n1_ n2_ n3_; clear hb hbox hg; have hcz52_0 : w51.cell? ⟨gb256, 0, none⟩ = some (.int .i64 a0_0) := bc BK256 0; have hcz52_1 : w51.cell? ⟨gb256, 1, none⟩ = some (.int .i64 a0_1) := bc BK256 1; have hcz52_2 : w51.cell? ⟨gb256, 2, none⟩ = some (.int .i64 a0_2) := bc BK256 2; have hcz52_3 : w51.cell? ⟨gb256, 3, none⟩ = some (.int .i64 a0_3) := bc BK256 3; have hcz52_4 : w51.cell? ⟨gb256, 4, none⟩ = some (.int .i64 a0_4) := bc BK256 4; have hcz52_5 : w51.cell? ⟨gb256, 5, none⟩ = some (.string a0_5) := bc BK256 5; have hcz52_6 : w51.cell? ⟨gb256, 6, none⟩ = some (.string a0_6) := bc BK256 6; have hfz52_0 := blk_frozen BK256.out 0; have hfz52_1 := blk_frozen BK256.out 1; have hfz52_2 := blk_frozen BK256.out 2; have hfz52_3 := blk_frozen BK256.out 3; have hfz52_4 := blk_frozen BK256.out 4; have hfz52_5 := blk_frozen BK256.out 5; have hfz52_6 := blk_frozen BK256.out 6) | ((with_reducible refine gate_callee (f := 26) rfl ?_); refine goesL_ (some 8) rfl rfl Try.func26 (by kernel_rfl) rfl #[.string a0_6] rfl gl_ ?_; (with_reducible refine (spec_FarmGet.calls k a0_6 t257 t258 t259 t260 t261 true _ A2.out).mono ?_); rintro e w53 ⟨rfl, hb⟩; refine ⟨_, rfl, ?_⟩; have n0_ := m_ (blk_below (kN BK256.out) hb); have n1_ := m_ (below_step (bN HB.out) hb); clear BK256; clear HB; have BK256 := n0_; have HB := n1_; clear n0_ n1_; (try clear hb); (try clear hb2); (try clear hk); (try clear hi)) | ((with_reducible refine gate_dst (N := 3) rfl ?_); (try (refine gate_guard (by rfl) ?_; dsimp only)); refine box_event ?hg (N := 3) ?hd (cs := #[.bool false, .bool false, .bool false, .int .i64 0, .int .i64 0]) (t := 48) ?hr ?_; (case hd => rfl); (case hg => rfl); (case hr => first | (go_simp; done) | (go_simp; rfl)); intro gb263 hg w54 hbox hb; have n0_ := m_ (blk_below (kN BK256.out) hb); have n1_ := m_ (below_step (bN HB.out) hb); have n2_ := m_ (hbox); have n3_ := m_ ((by rw [hg]; exact (below_size (bN HB.out)) : w.heap.size ≤ gb263)); have n4_ := m_ ((by rw [hg]; exact (below_size (bN HB.out)) : w.heap.size ≤ gb263)); have n5_ := m_ (nL hg BK256.out); have n6_ := m_ (nG hg BK256.out); clear BK256; clear HB; have BK256 := n0_; have HB := n1_; have BK263 := n2_; have GW263 := n3_; have GE263 := n4_; have NB256_263 := n5_; have NB263_256 := n6_; clear n0_ n1_ n2_ n3_ n4_ n5_ n6_; clear hb hbox hg; have hnb55 := NB263_256.out; have hnc55 := NB256_263.out; have hcz56_0 : w54.cell? ⟨gb263, 0, none⟩ = some (.bool false) := bc BK263 0; have hcz56_1 : w54.cell? ⟨gb263, 1, none⟩ = some (.bool false) := bc BK263 1; have hcz56_2 : w54.cell? ⟨gb263, 2, none⟩ = some (.bool false) := bc BK263 2; have hcz56_3 : w54.cell? ⟨gb263, 3, none⟩ = some (.int .i64 0) := bc BK263 3; have hcz56_4 : w54.cell? ⟨gb263, 4, none⟩ = some (.int .i64 0) := bc BK263 4; have hfz56_0 := blk_frozen BK263.out 0; have hfz56_1 := blk_frozen BK263.out 1; have hfz56_2 := blk_frozen BK263.out 2; have hfz56_3 := blk_frozen BK263.out 3; have hfz56_4 := blk_frozen BK263.out 4; have hcz57_0 : w54.cell? ⟨gb256, 0, none⟩ = some (.int .i64 a0_0) := bc BK256 0; have hcz57_1 : w54.cell? ⟨gb256, 1, none⟩ = some (.int .i64 a0_1) := bc BK256 1; have hcz57_2 : w54.cell? ⟨gb256, 2, none⟩ = some (.int .i64 a0_2) := bc BK256 2; have hcz57_3 : w54.cell? ⟨gb256, 3, none⟩ = some (.int .i64 a0_3) := bc BK256 3; have hcz57_4 : w54.cell? ⟨gb256, 4, none⟩ = some (.int .i64 a0_4) := bc BK256 4; have hcz57_5 : w54.cell? ⟨gb256, 5, none⟩ = some (.string a0_5) := bc BK256 5; have hcz57_6 : w54.cell? ⟨gb256, 6, none⟩ = some (.string a0_6) := bc BK256 6; have hfz57_0 := blk_frozen BK256.out 0; have hfz57_1 := blk_frozen BK256.out 1; have hfz57_2 := blk_frozen BK256.out 2; have hfz57_3 := blk_frozen BK256.out 3; have hfz57_4 := blk_frozen BK256.out 4; have hfz57_5 := blk_frozen BK256.out 5; have hfz57_6 := blk_frozen BK256.out 6) | (go_at_call 27; (with_reducible refine (spec_l1In.calls a0_0 0 1023 true _ A4.out).mono ?_); rintro e w' ⟨rfl, ⟨nd, rfl⟩⟩) | (go_at_call 27; (with_reducible refine (spec_l1In.calls a0_1 0 7 true _ A6.out).mono ?_); rintro e w' ⟨rfl, ⟨nd, rfl⟩⟩) | (go_at_call 27; (with_reducible refine (spec_l1In.calls a0_2 0 255 false _ A8.out).mono ?_); rintro e w' ⟨rfl, ⟨nd, rfl⟩⟩))
     go_ret
     exact ⟨by first | rfl | (simp [errW_none, errW_some] <;> rfl) | (simp [*, errW_none, errW_some] <;> rfl), by repeat (first | (with_reducible first | exact HB.out | apply below_alloc | apply pw_below_drewN | apply below_drew1 | refine below_set ?_ GE256.out | refine below_set ?_ GE263.out) | exact HB.out)⟩
   ·replace c7 := Bool.eq_false_iff.mpr c7
    subst c7
    have H1 : (some false) = some r := by rw [if_neg (show ¬ (false = true) by decide)] at H; exact H
    clear H
    have H := H1
    clear H1
    obtain rfl := Option.some.inj H
    go_enter Try.func15, Try.ntmps15
    go_wp2_with (first | ((with_reducible refine gate_dst (N := 1) rfl ?_); (try (refine gate_guard (by rfl) ?_; dsimp only)); refine box_event ?hg (N := 1) ?hd (cs := #[.int .i64 a0_0, .int .i64 a0_1, .int .i64 a0_2, .int .i64 a0_3, .int .i64 a0_4, .string a0_5, .string a0_6]) (t := 24) ?hr ?_; (case hd => rfl); (case hg => rfl); (case hr => first | (go_simp; done) | (go_simp; rfl)); intro gb256 hg w58 hbox hb; have n0_ := m_ (below_step (bN HB.out) hb); have n1_ := m_ (hbox); have n2_ := m_ ((by rw [hg]; exact (below_size (bN HB.out)) : w.heap.size ≤ gb256)); have n3_ := m_ ((by rw [hg]; exact (below_size (bN HB.out)) : w.heap.size ≤ gb256)); clear HB; have HB := n0_; have BK256 := n1_; have GW256 := n2_; have GE256 := n3_; clear n0_ n1_ n2_ n3_; clear hb hbox hg; have hcz59_0 : w58.cell? ⟨gb256, 0, none⟩ = some (.int .i64 a0_0) := bc BK256 0; have hcz59_1 : w58.cell? ⟨gb256, 1, none⟩ = some (.int .i64 a0_1) := bc BK256 1; have hcz59_2 : w58.cell? ⟨gb256, 2, none⟩ = some (.int .i64 a0_2) := bc BK256 2; have hcz59_3 : w58.cell? ⟨gb256, 3, none⟩ = some (.int .i64 a0_3) := bc BK256 3; have hcz59_4 : w58.cell? ⟨gb256, 4, none⟩ = some (.int .i64 a0_4) := bc BK256 4; have hcz59_5 : w58.cell? ⟨gb256, 5, none⟩ = some (.string a0_5) := bc BK256 5; have hcz59_6 : w58.cell? ⟨gb256, 6, none⟩ = some (.string a0_6) := bc BK256 6; have hfz59_0 := blk_frozen BK256.out 0; have hfz59_1 := blk_frozen BK256.out 1; have hfz59_2 := blk_frozen BK256.out 2; have hfz59_3 := blk_frozen BK256.out 3; have hfz59_4 := blk_frozen BK256.out 4; have hfz59_5 := blk_frozen BK256.out 5; have hfz59_6 := blk_frozen BK256.out 6) | ((with_reducible refine gate_callee (f := 26) rfl ?_); refine goesL_ (some 8) rfl rfl Try.func26 (by kernel_rfl) rfl #[.string a0_6] rfl gl_ ?_; (with_reducible refine (spec_FarmGet.calls k a0_6 t257 t258 t259 t260 t261 true _ A2.out).mono ?_); rintro e w60 ⟨rfl, hb⟩; refine ⟨_, rfl, ?_⟩; have n0_ := m_ (blk_below (kN BK256.out) hb); have n1_ := m_ (below_step (bN HB.out) hb); clear BK256; clear HB; have BK256 := n0_; have HB := n1_; clear n0_ n1_; (try clear hb); (try clear hb2); (try clear hk); (try clear hi)) | ((with_reducible refine gate_dst (N := 3) rfl ?_); (try (refine gate_guard (by rfl) ?_; dsimp only)); refine box_event ?hg (N := 3) ?hd (cs := #[.bool false, .bool false, .bool false, .int .i64 0, .int .i64 0]) (t := 48) ?hr ?_; (case hd => rfl); (case hg => rfl); (case hr => first | (go_simp; done) | (go_simp; rfl)); intro gb263 hg w61 hbox hb; have n0_ := m_ (blk_below (kN BK256.out) hb); have n1_ := m_ (below_step (bN HB.out) hb); have n2_ := m_ (hbox); have n3_ := m_ ((by rw [hg]; exact (below_size (bN HB.out)) : w.heap.size ≤ gb263)); have n4_ := m_ ((by rw [hg]; exact (below_size (bN HB.out)) : w.heap.size ≤ gb263)); have n5_ := m_ (nL hg BK256.out); have n6_ := m_ (nG hg BK256.out); clear BK256; clear HB; have BK256 := n0_; have HB := n1_; have BK263 := n2_; have GW263 := n3_; have GE263 := n4_; have NB256_263 := n5_; have NB263_256 := n6_; clear n0_ n1_ n2_ n3_ n4_ n5_ n6_; clear hb hbox hg; have hnb62 := NB263_256.out; have hnc62 := NB256_263.out; have hcz63_0 : w61.cell? ⟨gb263, 0, none⟩ = some (.bool false) := bc BK263 0; have hcz63_1 : w61.cell? ⟨gb263, 1, none⟩ = some (.bool false) := bc BK263 1; have hcz63_2 : w61.cell? ⟨gb263, 2, none⟩ = some (.bool false) := bc BK263 2; have hcz63_3 : w61.cell? ⟨gb263, 3, none⟩ = some (.int .i64 0) := bc BK263 3; have hcz63_4 : w61.cell? ⟨gb263, 4, none⟩ = some (.int .i64 0) := bc BK263 4; have hfz63_0 := blk_frozen BK263.out 0; have hfz63_1 := blk_frozen BK263.out 1; have hfz63_2 := blk_frozen BK263.out 2; have hfz63_3 := blk_frozen BK263.out 3; have hfz63_4 := blk_frozen BK263.out 4; have hcz64_0 : w61.cell? ⟨gb256, 0, none⟩ = some (.int .i64 a0_0) := bc BK256 0; have hcz64_1 : w61.cell? ⟨gb256, 1, none⟩ = some (.int .i64 a0_1) := bc BK256 1; have hcz64_2 : w61.cell? ⟨gb256, 2, none⟩ = some (.int .i64 a0_2) := bc BK256 2; have hcz64_3 : w61.cell? ⟨gb256, 3, none⟩ = some (.int .i64 a0_3) := bc BK256 3; have hcz64_4 : w61.cell? ⟨gb256, 4, none⟩ = some (.int .i64 a0_4) := bc BK256 4; have hcz64_5 : w61.cell? ⟨gb256, 5, none⟩ = some (.string a0_5) := bc BK256 5; have hcz64_6 : w61.cell? ⟨gb256, 6, none⟩ = some (.string a0_6) := bc BK256 6; have hfz64_0 := blk_frozen BK256.out 0; have hfz64_1 := blk_frozen BK256.out 1; have hfz64_2 := blk_frozen BK256.out 2; have hfz64_3 := blk_frozen BK256.out 3; have hfz64_4 := blk_frozen BK256.out 4; have hfz64_5 := blk_frozen BK256.out 5; have hfz64_6 := blk_frozen BK256.out 6) | (go_at_call 27; (with_reducible refine (spec_l1In.calls a0_0 0 1023 true _ A4.out).mono ?_); rintro e w' ⟨rfl, ⟨nd, rfl⟩⟩) | (go_at_call 27; (with_reducible refine (spec_l1In.calls a0_1 0 7 false _ A6.out).mono ?_); rintro e w' ⟨rfl, ⟨nd, rfl⟩⟩))
    go_ret
    exact ⟨by first | rfl | (simp [errW_none, errW_some] <;> rfl) | (simp [*, errW_none, errW_some] <;> rfl), by repeat (first | (with_reducible first | exact HB.out | apply below_alloc | apply pw_below_drewN | apply below_drew1 | refine below_set ?_ GE256.out | refine below_set ?_ GE263.out) | exact HB.out)⟩
  ·replace c5 := Bool.eq_false_iff.mpr c5
   subst c5
   have H1 : (some false) = some r := by rw [if_neg (show ¬ (false = true) by decide)] at H; exact H
   clear H
   have H := H1
   clear H1
   obtain rfl := Option.some.inj H
   go_enter Try.func15, Try.ntmps15
   go_wp2_with (first | ((with_reducible refine gate_dst (N := 1) rfl ?_); (try (refine gate_guard (by rfl) ?_; dsimp only)); refine box_event ?hg (N := 1) ?hd (cs := #[.int .i64 a0_0, .int .i64 a0_1, .int .i64 a0_2, .int .i64 a0_3, .int .i64 a0_4, .string a0_5, .string a0_6]) (t := 24) ?hr ?_; (case hd => rfl); (case hg => rfl); (case hr => first | (go_simp; done) | (go_simp; rfl)); intro gb256 hg w65 hbox hb; have n0_ := m_ (below_step (bN HB.out) hb); have n1_ := m_ (hbox); have n2_ := m_ ((by rw [hg]; exact (below_size (bN HB.out)) : w.heap.size ≤ gb256)); have n3_ := m_ ((by rw [hg]; exact (below_size (bN HB.out)) : w.heap.size ≤ gb256)); clear HB; have HB := n0_; have BK256 := n1_; have GW256 := n2_; have GE256 := n3_; clear n0_ n1_ n2_ n3_; clear hb hbox hg; have hcz66_0 : w65.cell? ⟨gb256, 0, none⟩ = some (.int .i64 a0_0) := bc BK256 0; have hcz66_1 : w65.cell? ⟨gb256, 1, none⟩ = some (.int .i64 a0_1) := bc BK256 1; have hcz66_2 : w65.cell? ⟨gb256, 2, none⟩ = some (.int .i64 a0_2) := bc BK256 2; have hcz66_3 : w65.cell? ⟨gb256, 3, none⟩ = some (.int .i64 a0_3) := bc BK256 3; have hcz66_4 : w65.cell? ⟨gb256, 4, none⟩ = some (.int .i64 a0_4) := bc BK256 4; have hcz66_5 : w65.cell? ⟨gb256, 5, none⟩ = some (.string a0_5) := bc BK256 5; have hcz66_6 : w65.cell? ⟨gb256, 6, none⟩ = some (.string a0_6) := bc BK256 6; have hfz66_0 := blk_frozen BK256.out 0; have hfz66_1 := blk_frozen BK256.out 1; have hfz66_2 := blk_frozen BK256.out 2; have hfz66_3 := blk_frozen BK256.out 3; have hfz66_4 := blk_frozen BK256.out 4; have hfz66_5 := blk_frozen BK256.out 5; have hfz66_6 := blk_frozen BK256.out 6) | ((with_reducible refine gate_callee (f := 26) rfl ?_); refine goesL_ (some 8) rfl rfl Try.func26 (by kernel_rfl) rfl #[.string a0_6] rfl gl_ ?_; (with_reducible refine (spec_FarmGet.calls k a0_6 t257 t258 t259 t260 t261 true _ A2.out).mono ?_); rintro e w67 ⟨rfl, hb⟩; refine ⟨_, rfl, ?_⟩; have n0_ := m_ (blk_below (kN BK256.out) hb); have n1_ := m_ (below_step (bN HB.out) hb); clear BK256; clear HB; have BK256 := n0_; have HB := n1_; clear n0_ n1_; (try clear hb); (try clear hb2); (try clear hk); (try clear hi)) | ((with_reducible refine gate_dst (N := 3) rfl ?_); (try (refine gate_guard (by rfl) ?_; dsimp only)); refine box_event ?hg (N := 3) ?hd (cs := #[.bool false, .bool false, .bool false, .int .i64 0, .int .i64 0]) (t := 48) ?hr ?_; (case hd => rfl); (case hg => rfl); (case hr => first | (go_simp; done) | (go_simp; rfl)); intro gb263 hg w68 hbox hb; have n0_ := m_ (blk_below (kN BK256.out) hb); have n1_ := m_ (below_step (bN HB.out) hb); have n2_ := m_ (hbox); have n3_ := m_ ((by rw [hg]; exact (below_size (bN HB.out)) : w.heap.size ≤ gb263)); have n4_ := m_ ((by rw [hg]; exact (below_size (bN HB.out)) : w.heap.size ≤ gb263)); have n5_ := m_ (nL hg BK256.out); have n6_ := m_ (nG hg BK256.out); clear BK256; clear HB; have BK256 := n0_; have HB := n1_; have BK263 := n2_; have GW263 := n3_; have GE263 := n4_; have NB256_263 := n5_; have NB263_256 := n6_; clear n0_ n1_ n2_ n3_ n4_ n5_ n6_; clear hb hbox hg; have hnb69 := NB263_256.out; have hnc69 := NB256_263.out; have hcz70_0 : w68.cell? ⟨gb263, 0, none⟩ = some (.bool false) := bc BK263 0; have hcz70_1 : w68.cell? ⟨gb263, 1, none⟩ = some (.bool false) := bc BK263 1; have hcz70_2 : w68.cell? ⟨gb263, 2, none⟩ = some (.bool false) := bc BK263 2; have hcz70_3 : w68.cell? ⟨gb263, 3, none⟩ = some (.int .i64 0) := bc BK263 3; have hcz70_4 : w68.cell? ⟨gb263, 4, none⟩ = some (.int .i64 0) := bc BK263 4; have hfz70_0 := blk_frozen BK263.out 0; have hfz70_1 := blk_frozen BK263.out 1; have hfz70_2 := blk_frozen BK263.out 2; have hfz70_3 := blk_frozen BK263.out 3; have hfz70_4 := blk_frozen BK263.out 4; have hcz71_0 : w68.cell? ⟨gb256, 0, none⟩ = some (.int .i64 a0_0) := bc BK256 0; have hcz71_1 : w68.cell? ⟨gb256, 1, none⟩ = some (.int .i64 a0_1) := bc BK256 1; have hcz71_2 : w68.cell? ⟨gb256, 2, none⟩ = some (.int .i64 a0_2) := bc BK256 2; have hcz71_3 : w68.cell? ⟨gb256, 3, none⟩ = some (.int .i64 a0_3) := bc BK256 3; have hcz71_4 : w68.cell? ⟨gb256, 4, none⟩ = some (.int .i64 a0_4) := bc BK256 4; have hcz71_5 : w68.cell? ⟨gb256, 5, none⟩ = some (.string a0_5) := bc BK256 5; have hcz71_6 : w68.cell? ⟨gb256, 6, none⟩ = some (.string a0_6) := bc BK256 6; have hfz71_0 := blk_frozen BK256.out 0; have hfz71_1 := blk_frozen BK256.out 1; have hfz71_2 := blk_frozen BK256.out 2; have hfz71_3 := blk_frozen BK256.out 3; have hfz71_4 := blk_frozen BK256.out 4; have hfz71_5 := blk_frozen BK256.out 5; have hfz71_6 := blk_frozen BK256.out 6) | (go_at_call 27; (with_reducible refine (spec_l1In.calls a0_0 0 1023 false _ A4.out).mono ?_); rintro e w' ⟨rfl, ⟨nd, rfl⟩⟩))
   go_ret
   exact ⟨by first | rfl | (simp [errW_none, errW_some] <;> rfl) | (simp [*, errW_none, errW_some] <;> rfl), by repeat (first | (with_reducible first | exact HB.out | apply below_alloc | apply pw_below_drewN | apply below_drew1 | refine below_set ?_ GE256.out | refine below_set ?_ GE263.out) | exact HB.out)⟩
 ·replace c3 := Bool.eq_false_iff.mpr c3
  subst c3
  have H1 : (some false) = some r := by rw [if_neg (show ¬ (false = true) by decide)] at H; exact H
  clear H
  have H := H1
  clear H1
  obtain rfl := Option.some.inj H
  go_enter Try.func15, Try.ntmps15
  go_wp2_with (first | ((with_reducible refine gate_dst (N := 1) rfl ?_); (try (refine gate_guard (by rfl) ?_; dsimp only)); refine box_event ?hg (N := 1) ?hd (cs := #[.int .i64 a0_0, .int .i64 a0_1, .int .i64 a0_2, .int .i64 a0_3, .int .i64 a0_4, .string a0_5, .string a0_6]) (t := 24) ?hr ?_; (case hd => rfl); (case hg => rfl); (case hr => first | (go_simp; done) | (go_simp; rfl)); intro gb256 hg w72 hbox hb; have n0_ := m_ (below_step (bN HB.out) hb); have n1_ := m_ (hbox); have n2_ := m_ ((by rw [hg]; exact (below_size (bN HB.out)) : w.heap.size ≤ gb256)); have n3_ := m_ ((by rw [hg]; exact (below_size (bN HB.out)) : w.heap.size ≤ gb256)); clear HB; have HB := n0_; have BK256 := n1_; have GW256 := n2_; have GE256 := n3_; clear n0_ n1_ n2_ n3_; clear hb hbox hg; have hcz73_0 : w72.cell? ⟨gb256, 0, none⟩ = some (.int .i64 a0_0) := bc BK256 0; have hcz73_1 : w72.cell? ⟨gb256, 1, none⟩ = some (.int .i64 a0_1) := bc BK256 1; have hcz73_2 : w72.cell? ⟨gb256, 2, none⟩ = some (.int .i64 a0_2) := bc BK256 2; have hcz73_3 : w72.cell? ⟨gb256, 3, none⟩ = some (.int .i64 a0_3) := bc BK256 3; have hcz73_4 : w72.cell? ⟨gb256, 4, none⟩ = some (.int .i64 a0_4) := bc BK256 4; have hcz73_5 : w72.cell? ⟨gb256, 5, none⟩ = some (.string a0_5) := bc BK256 5; have hcz73_6 : w72.cell? ⟨gb256, 6, none⟩ = some (.string a0_6) := bc BK256 6; have hfz73_0 := blk_frozen BK256.out 0; have hfz73_1 := blk_frozen BK256.out 1; have hfz73_2 := blk_frozen BK256.out 2; have hfz73_3 := blk_frozen BK256.out 3; have hfz73_4 := blk_frozen BK256.out 4; have hfz73_5 := blk_frozen BK256.out 5; have hfz73_6 := blk_frozen BK256.out 6) | ((with_reducible refine gate_callee (f := 26) rfl ?_); refine goesL_ (some 8) rfl rfl Try.func26 (by kernel_rfl) rfl #[.string a0_6] rfl gl_ ?_; (with_reducible refine (spec_FarmGet.calls k a0_6 t257 t258 t259 t260 t261 false _ A2.out).mono ?_); rintro e w74 ⟨rfl, hb⟩; refine ⟨_, rfl, ?_⟩; have n0_ := m_ (blk_below (kN BK256.out) hb); have n1_ := m_ (below_step (bN HB.out) hb); clear BK256; clear HB; have BK256 := n0_; have HB := n1_; clear n0_ n1_; (try clear hb); (try clear hb2); (try clear hk); (try clear hi)) | ((with_reducible refine gate_dst (N := 3) rfl ?_); (try (refine gate_guard (by rfl) ?_; dsimp only)); refine box_event ?hg (N := 3) ?hd (cs := #[.bool false, .bool false, .bool false, .int .i64 0, .int .i64 0]) (t := 48) ?hr ?_; (case hd => rfl); (case hg => rfl); (case hr => first | (go_simp; done) | (go_simp; rfl)); intro gb263 hg w75 hbox hb; have n0_ := m_ (blk_below (kN BK256.out) hb); have n1_ := m_ (below_step (bN HB.out) hb); have n2_ := m_ (hbox); have n3_ := m_ ((by rw [hg]; exact (below_size (bN HB.out)) : w.heap.size ≤ gb263)); have n4_ := m_ ((by rw [hg]; exact (below_size (bN HB.out)) : w.heap.size ≤ gb263)); have n5_ := m_ (nL hg BK256.out); have n6_ := m_ (nG hg BK256.out); clear BK256; clear HB; have BK256 := n0_; have HB := n1_; have BK263 := n2_; have GW263 := n3_; have GE263 := n4_; have NB256_263 := n5_; have NB263_256 := n6_; clear n0_ n1_ n2_ n3_ n4_ n5_ n6_; clear hb hbox hg; have hnb76 := NB263_256.out; have hnc76 := NB256_263.out; have hcz77_0 : w75.cell? ⟨gb263, 0, none⟩ = some (.bool false) := bc BK263 0; have hcz77_1 : w75.cell? ⟨gb263, 1, none⟩ = some (.bool false) := bc BK263 1; have hcz77_2 : w75.cell? ⟨gb263, 2, none⟩ = some (.bool false) := bc BK263 2; have hcz77_3 : w75.cell? ⟨gb263, 3, none⟩ = some (.int .i64 0) := bc BK263 3; have hcz77_4 : w75.cell? ⟨gb263, 4, none⟩ = some (.int .i64 0) := bc BK263 4; have hfz77_0 := blk_frozen BK263.out 0; have hfz77_1 := blk_frozen BK263.out 1; have hfz77_2 := blk_frozen BK263.out 2; have hfz77_3 := blk_frozen BK263.out 3; have hfz77_4 := blk_frozen BK263.out 4))
  go_ret
  exact ⟨by first | rfl | (simp [errW_none, errW_some] <;> rfl) | (simp [*, errW_none, errW_some] <;> rfl), by repeat (first | (with_reducible first | exact HB.out | apply below_alloc | apply pw_below_drewN | apply below_drew1 | refine below_set ?_ GE256.out | refine below_set ?_ GE263.out) | exact HB.out)⟩

/-! ### spec_Crc16: function 29 -/
mutual
def spec_Crc16.l0 : Nat → ByteArray → Int → Int → Option (Int)
 | 0, _, _, _ => none
 | k + 1, x0, x3, x4 => if x4 < (x0.size : Int) then (if 0 ≤ x4 then (spec_Crc16.l1 k x0 (Go.bits .xor .i64 x3 (wrap64 ((wrap64 (bt x0 x4)) * 256))) x4 0) else (none)) else (some x3)
def spec_Crc16.l1 : Nat → ByteArray → Int → Int → Int → Option (Int)
 | 0, _, _, _, _ => none
 | k + 1, x0, x3, x4, x5 => if x5 < 8 then (if (wrap64 (x3 * 2)) ≥ 65536 then (spec_Crc16.l1 k x0 (Go.bits .xor .i64 (wrap64 ((wrap64 (x3 * 2)) - 65536)) 4129) x4 (wrap64 (x5 + 1))) else (spec_Crc16.l1 k x0 (wrap64 (x3 * 2)) x4 (wrap64 (x5 + 1)))) else (spec_Crc16.l0 k x0 x3 (wrap64 (x4 + 1)))
end
def spec_Crc16.f (k : Nat) (a0 : ByteArray) : Option (Int) := spec_Crc16.l0 k a0 65535 0
theorem spec_Crc16.mono_l : ∀ k, (∀ y0 y1 y2, LeO (spec_Crc16.l0 k y0 y1 y2) (spec_Crc16.l0 (k + 1) y0 y1 y2)) ∧ (∀ y0 y1 y2 y3, LeO (spec_Crc16.l1 k y0 y1 y2 y3) (spec_Crc16.l1 (k + 1) y0 y1 y2 y3))
 | 0 => ⟨fun _ _ _ r h => by simp [spec_Crc16.l0] at h, fun _ _ _ _ r h => by simp [spec_Crc16.l1] at h⟩
 | k + 1 => by
  obtain ⟨ih0, ih1⟩ := spec_Crc16.mono_l k
  refine ⟨?_, ?_⟩
  ·intro y0 y1 y2
   unfold spec_Crc16.l0
   repeat' first
   | (with_reducible exact ih0 _ _ _)
   | (with_reducible exact ih1 _ _ _ _)
   | (with_reducible exact LeO.refl _)
   | (with_reducible exact LeO.none _)
   | (with_reducible refine LeO.ite ?_ ?_)
   | (with_reducible refine LeO.bind ?_ (fun _ => ?_))
   | exact ih0 _ _ _
   | exact ih1 _ _ _ _
   | exact LeO.none _
   | refine LeO.ite ?_ ?_
   | refine LeO.bind ?_ (fun _ => ?_)
  ·intro y0 y1 y2 y3
   unfold spec_Crc16.l1
   repeat' first
   | (with_reducible exact ih0 _ _ _)
   | (with_reducible exact ih1 _ _ _ _)
   | (with_reducible exact LeO.refl _)
   | (with_reducible exact LeO.none _)
   | (with_reducible refine LeO.ite ?_ ?_)
   | (with_reducible refine LeO.bind ?_ (fun _ => ?_))
   | exact ih0 _ _ _
   | exact ih1 _ _ _ _
   | exact LeO.none _
   | refine LeO.ite ?_ ?_
   | refine LeO.bind ?_ (fun _ => ?_)
theorem spec_Crc16.mono : ∀ a0 k, LeO (spec_Crc16.f k a0) (spec_Crc16.f (k + 1) a0) := by
 intro a0 k
 obtain ⟨ih0, ih1⟩ := spec_Crc16.mono_l k
 unfold spec_Crc16.f
 repeat' first
   | (with_reducible exact ih0 _ _ _)
   | (with_reducible exact ih1 _ _ _ _)
   | (with_reducible exact LeO.refl _)
   | (with_reducible exact LeO.none _)
   | (with_reducible refine LeO.ite ?_ ?_)
   | (with_reducible refine LeO.bind ?_ (fun _ => ?_))
   | exact ih0 _ _ _
   | exact ih1 _ _ _ _
   | exact LeO.none _
   | refine LeO.ite ?_ ?_
   | refine LeO.bind ?_ (fun _ => ?_)
set_option maxHeartbeats 8000000 in
set_option maxRecDepth 100000 in
theorem spec_Crc16.calls (k : Nat) (a0 : ByteArray) (r : Int) (w : World) (h : spec_Crc16.f k a0 = some r) :
  Calls Try.prog 29 #[.string a0] w fun e w' => e = .returned (.int .i64 r) ∧ Drawn0 w w' := by
 have H : (spec_Crc16.l0 k a0 65535 0) = some r := h
 clear h
 have H' := Aside0.mk H
 clear H
 go_enter Try.func29, Try.ntmps29
 go_wp2
 go_loopg [3, 4] k (fun kq v3 v4 w' => ∃ (x3_1 : Int) (x4_1 : Int), v3 = .int .i64 x3_1 ∧ v4 = .int .i64 x4_1 ∧ Aside0 (spec_Crc16.l0 kq a0 x3_1 x4_1 = some r) ∧ Aside0 (kq ≤ k) ∧ Drawn0 w w')
 case atStart => exact ⟨(65535), (0), (by first | rfl | (simp; done) | (simp [*]; done)), (by first | rfl | (simp; done) | (simp [*]; done)), H', ⟨Nat.le_refl _⟩, by repeat (first | exact Drawn0.refl _ | apply Drawn0.step)⟩
 case round =>
  clear H'
  try clear c1
  obtain ⟨x3_1, x4_1, rfl, rfl, HA, HK1, ⟨m1, rfl⟩⟩ := hrel
  cases gk with
  | zero => exact absurd HA.out (by simp [spec_Crc16.l0])
  | succ k1 =>
   have H := HA.out
   clear HA
   simp only [spec_Crc16.l0] at H
   by_cases c2 : x4_1 < (a0.size : Int)
   ·rw [if_pos c2] at H
    have c2b0 : decide (x4_1 < (a0.size : Int)) = true := decide_eq_true c2
    clear c2
    by_cases c3 : 0 ≤ x4_1
    ·rw [if_pos c3] at H
     have c3b0 : decide (0 ≤ x4_1) = true := decide_eq_true c3
     clear c3
     have H' := Aside0.mk H
     clear H
     have p4 : 0 ≤ (x4_1 : Int) := of_decide_eq_true (by first | (with_reducible assumption) | assumption)
     have q4 : x4_1 < (a0.size : Int) := of_decide_eq_true (by first | (with_reducible assumption) | assumption)
     have hx4 := bt_at a0 x4_1
     replace p4 := eq_true p4
     replace q4 := eq_true q4
     go_wp2
     go_loopg [3, 5] k1 (fun kq v3 v5 w' => ∃ (x3_2 : Int) (x5_2 : Int), v3 = .int .i64 x3_2 ∧ v5 = .int .i64 x5_2 ∧ Aside0 (spec_Crc16.l1 kq a0 x3_2 x4_1 x5_2 = some r) ∧ Aside0 (kq ≤ k1) ∧ Drawn0 w w')
     case atStart => exact ⟨(Go.bits .xor .i64 x3_1 (wrap64 ((wrap64 (bt a0 x4_1)) * 256))), (0), (by first | rfl | (simp; done) | (simp [*]; done)), (by first | rfl | (simp; done) | (simp [*]; done)), H', ⟨Nat.le_refl _⟩, by repeat (first | exact Drawn0.refl _ | apply Drawn0.step)⟩
     case round =>
      clear H'
      try clear c1
      try clear c2
      try clear c2b0
      try clear p2
      try clear c3
      try clear c3b0
      try clear p4
      try clear q4
      try clear hx4
      try clear p4
      try clear q4
      obtain ⟨x3_2, x5_2, rfl, rfl, HA, HK2, ⟨m2, rfl⟩⟩ := hrel
      cases gk with
      | zero => exact absurd HA.out (by simp [spec_Crc16.l1])
      | succ k2 =>
       have H := HA.out
       clear HA
       simp only [spec_Crc16.l1] at H
       by_cases c5 : x5_2 < 8
       ·rw [if_pos c5] at H
        have c5b0 : decide (x5_2 < 8) = true := decide_eq_true c5
        clear c5
        by_cases c6 : (wrap64 (x3_2 * 2)) ≥ 65536
        ·rw [if_pos c6] at H
         have c6b0 : decide (65536 ≤ (wrap64 (x3_2 * 2))) = true := decide_eq_true c6
         clear c6
         have H' := Aside0.mk H
         clear H
         go_wp2
         go_roundg k2
         case measure => have := HK1.out; have := HK2.out; omega
         case rel => exact ⟨(Go.bits .xor .i64 (wrap64 ((wrap64 (x3_2 * 2)) - 65536)) 4129), (wrap64 (x5_2 + 1)), (by first | rfl | (simp; done) | (simp [*]; done)), (by first | rfl | (simp; done) | (simp [*]; done)), H', ⟨by have := HK1.out; have := HK2.out; omega⟩, by repeat (first | exact Drawn0.refl _ | apply Drawn0.step)⟩
        ·rw [if_neg c6] at H
         have c6b0 : decide (65536 ≤ (wrap64 (x3_2 * 2))) = false := decide_eq_false c6
         clear c6
         have H' := Aside0.mk H
         clear H
         go_wp2
         go_roundg k2
         case measure => have := HK1.out; have := HK2.out; omega
         case rel => exact ⟨(wrap64 (x3_2 * 2)), (wrap64 (x5_2 + 1)), (by first | rfl | (simp; done) | (simp [*]; done)), (by first | rfl | (simp; done) | (simp [*]; done)), H', ⟨by have := HK1.out; have := HK2.out; omega⟩, by repeat (first | exact Drawn0.refl _ | apply Drawn0.step)⟩
       ·rw [if_neg c5] at H
        have c5b0 : decide (x5_2 < 8) = false := decide_eq_false c5
        clear c5
        have H' := Aside0.mk H
        clear H
        go_wp2
        go_roundg k2
        case measure => have := HK1.out; have := HK2.out; omega
        case rel => exact ⟨(x3_2), (wrap64 (x4_1 + 1)), (by first | rfl | (simp; done) | (simp [*]; done)), (by first | rfl | (simp; done) | (simp [*]; done)), H', ⟨by have := HK1.out; have := HK2.out; omega⟩, by repeat (first | exact Drawn0.refl _ | apply Drawn0.step)⟩
    ·rw [if_neg c3] at H
     exact absurd H (by simp)
   ·rw [if_neg c2] at H
    have c2b0 : decide (x4_1 < (a0.size : Int)) = false := decide_eq_false c2
    clear c2
    obtain rfl := Option.some.inj H
    go_wp2
    go_ret
    exact ⟨by first | rfl | (simp; done) | (simp [*]; done), by repeat (first | exact Drawn0.refl _ | apply Drawn0.step)⟩

end Go.Proofs.Ytaolcmhgbanacaa.P
