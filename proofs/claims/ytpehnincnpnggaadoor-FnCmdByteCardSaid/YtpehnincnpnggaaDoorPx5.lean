/- The machine side of these statements, function by function: what each Go function answers (as a Lean function), and that it does. Written by a program (mp.py) for this claim. -/
import Derived.Test.YtpehnincnpnggaaDoorPx0
import Derived.Test.YtpehnincnpnggaaDoorPx1
import Derived.Test.YtpehnincnpnggaaDoorPx4
namespace Go.Proofs.YtpehnincnpnggaaDoor.P
open Go.RowKit Go.Proofs.YtpehnincnpnggaaDoorW.PrintWords Go.Proofs.YtpehnincnpnggaaDoorW.PrintLast Go.Proofs.YtpehnincnpnggaaDoorW.PrintMore
attribute [local go_sem] max2_int min2_int max_two min_two max_three min_three max_four min_four   -- for this text's walks alone
set_option linter.unusedVariables false
set_option linter.unusedSimpArgs false

/-! ### spec_Crc16: function 29 -/
mutual
def spec_Crc16.l0 : Nat → ByteArray → Int → Int → Option (Int)
 | 0, _, _, _ => none
 | k + 1, x0, x3, x4 => if x4 < (x0.size : Int) then (if 0 ≤ x4 then (spec_Crc16.l1 k x0 (Go.bits .xor .i64 x3 (wrap64 ((wrap64 (bt x0 x4)) * 256))) x4 0) else (none)) else (some x3)
def spec_Crc16.l1 : Nat → ByteArray → Int → Int → Int → Option (Int)
 | 0, _, _, _, _ => none
 | k + 1, x0, x3, x4, x5 => if x5 < 8 then (if (wrap64 (x3 * 2)) ≥ 65536 then (spec_Crc16.l1 k x0 (Go.bits .xor .i64 (wrap64 ((wrap64 (x3 * 2)) - 65536)) 4129) x4 (wrap64 (x5 + 1))) else (spec_Crc16.l1 k x0 (wrap64 (x3 * 2)) x4 (wrap64 (x5 + 1)))) else (spec_Crc16.l0 k x0 x3 (wrap64 (x4 + 1)))
end
def spec_Crc16.f (k : Nat) (a0 : ByteArray) : Option (Int) := spec_Crc16.l0 k a0 65535 0
theorem spec_Crc16.mono_l : ∀ k, (∀ y0 y1 y2, LeO (spec_Crc16.l0 k y0 y1 y2) (spec_Crc16.l0 (k + 1) y0 y1 y2)) ∧ (∀ y0 y1 y2 y3, LeO (spec_Crc16.l1 k y0 y1 y2 y3) (spec_Crc16.l1 (k + 1) y0 y1 y2 y3))
 | 0 => ⟨fun _ _ _ r h => by simp [spec_Crc16.l0] at h, fun _ _ _ _ r h => by simp [spec_Crc16.l1] at h⟩
 | k + 1 => by
  obtain ⟨ih0, ih1⟩ := spec_Crc16.mono_l k
  refine ⟨?_, ?_⟩
  ·intro y0 y1 y2
   unfold spec_Crc16.l0
   repeat' first
   | (with_reducible exact ih0 _ _ _)
   | (with_reducible exact ih1 _ _ _ _)
   | (with_reducible exact LeO.refl _)
   | (with_reducible exact LeO.none _)
   | (with_reducible refine LeO.ite ?_ ?_)
   | (with_reducible refine LeO.bind ?_ (fun _ => ?_))
   | exact ih0 _ _ _
   | exact ih1 _ _ _ _
   | exact LeO.none _
   | refine LeO.ite ?_ ?_
   | refine LeO.bind ?_ (fun _ => ?_)
  ·intro y0 y1 y2 y3
   unfold spec_Crc16.l1
   repeat' first
   | (with_reducible exact ih0 _ _ _)
   | (with_reducible exact ih1 _ _ _ _)
   | (with_reducible exact LeO.refl _)
   | (with_reducible exact LeO.none _)
   | (with_reducible refine LeO.ite ?_ ?_)
   | (with_reducible refine LeO.bind ?_ (fun _ => ?_))
   | exact ih0 _ _ _
   | exact ih1 _ _ _ _
   | exact LeO.none _
   | refine LeO.ite ?_ ?_
   | refine LeO.bind ?_ (fun _ => ?_)
theorem spec_Crc16.mono : ∀ a0 k, LeO (spec_Crc16.f k a0) (spec_Crc16.f (k + 1) a0) := by
 intro a0 k
 obtain ⟨ih0, ih1⟩ := spec_Crc16.mono_l k
 unfold spec_Crc16.f
 repeat' first
   | (with_reducible exact ih0 _ _ _)
   | (with_reducible exact ih1 _ _ _ _)
   | (with_reducible exact LeO.refl _)
   | (with_reducible exact LeO.none _)
   | (with_reducible refine LeO.ite ?_ ?_)
   | (with_reducible refine LeO.bind ?_ (fun _ => ?_))
   | exact ih0 _ _ _
   | exact ih1 _ _ _ _
   | exact LeO.none _
   | refine LeO.ite ?_ ?_
   | refine LeO.bind ?_ (fun _ => ?_)
set_option maxHeartbeats 8000000 in
set_option maxRecDepth 100000 in
theorem spec_Crc16.calls (k : Nat) (a0 : ByteArray) (r : Int) (w : World) (h : spec_Crc16.f k a0 = some r) :
  Calls Tryd.prog 29 #[.string a0] w fun e w' => e = .returned (.int .i64 r) ∧ Drawn0 w w' := by
 have H : (spec_Crc16.l0 k a0 65535 0) = some r := h
 clear h
 have H' := Aside0.mk H
 clear H
 go_enter Tryd.func29, Tryd.ntmps29
 go_wp2
 go_loopg [3, 4] k (fun kq v3 v4 w' => ∃ (x3_1 : Int) (x4_1 : Int), v3 = .int .i64 x3_1 ∧ v4 = .int .i64 x4_1 ∧ Aside0 (spec_Crc16.l0 kq a0 x3_1 x4_1 = some r) ∧ Aside0 (kq ≤ k) ∧ Drawn0 w w')
 case atStart => exact ⟨(65535), (0), (by first | rfl | (simp; done) | (simp [*]; done)), (by first | rfl | (simp; done) | (simp [*]; done)), H', ⟨Nat.le_refl _⟩, by repeat (first | exact Drawn0.refl _ | apply Drawn0.step)⟩
 case round =>
  clear H'
  try clear c1
  obtain ⟨x3_1, x4_1, rfl, rfl, HA, HK1, ⟨m1, rfl⟩⟩ := hrel
  cases gk with
  | zero => exact absurd HA.out (by simp [spec_Crc16.l0])
  | succ k1 =>
   have H := HA.out
   clear HA
   simp only [spec_Crc16.l0] at H
   by_cases c2 : x4_1 < (a0.size : Int)
   ·rw [if_pos c2] at H
    have c2b0 : decide (x4_1 < (a0.size : Int)) = true := decide_eq_true c2
    clear c2
    by_cases c3 : 0 ≤ x4_1
    ·rw [if_pos c3] at H
     have c3b0 : decide (0 ≤ x4_1) = true := decide_eq_true c3
     clear c3
     have H' := Aside0.mk H
     clear H
     have p4 : 0 ≤ (x4_1 : Int) := of_decide_eq_true (by first | (with_reducible assumption) | assumption)
     have q4 : x4_1 < (a0.size : Int) := of_decide_eq_true (by first | (with_reducible assumption) | assumption)
     have hx4 := bt_at a0 x4_1
     replace p4 := eq_true p4
     replace q4 := eq_true q4
     go_wp2
     go_loopg [3, 5] k1 (fun kq v3 v5 w' => ∃ (x3_2 : Int) (x5_2 : Int), v3 = .int .i64 x3_2 ∧ v5 = .int .i64 x5_2 ∧ Aside0 (spec_Crc16.l1 kq a0 x3_2 x4_1 x5_2 = some r) ∧ Aside0 (kq ≤ k1) ∧ Drawn0 w w')
     case atStart => exact ⟨(Go.bits .xor .i64 x3_1 (wrap64 ((wrap64 (bt a0 x4_1)) * 256))), (0), (by first | rfl | (simp; done) | (simp [*]; done)), (by first | rfl | (simp; done) | (simp [*]; done)), H', ⟨Nat.le_refl _⟩, by repeat (first | exact Drawn0.refl _ | apply Drawn0.step)⟩
     case round =>
      clear H'
      try clear c1
      try clear c2
      try clear c2b0
      try clear p2
      try clear c3
      try clear c3b0
      try clear p4
      try clear q4
      try clear hx4
      try clear p4
      try clear q4
      obtain ⟨x3_2, x5_2, rfl, rfl, HA, HK2, ⟨m2, rfl⟩⟩ := hrel
      cases gk with
      | zero => exact absurd HA.out (by simp [spec_Crc16.l1])
      | succ k2 =>
       have H := HA.out
       clear HA
       simp only [spec_Crc16.l1] at H
       by_cases c5 : x5_2 < 8
       ·rw [if_pos c5] at H
        have c5b0 : decide (x5_2 < 8) = true := decide_eq_true c5
        clear c5
        by_cases c6 : (wrap64 (x3_2 * 2)) ≥ 65536
        ·rw [if_pos c6] at H
         have c6b0 : decide (65536 ≤ (wrap64 (x3_2 * 2))) = true := decide_eq_true c6
         clear c6
         have H' := Aside0.mk H
         clear H
         go_wp2
         go_roundg k2
         case measure => have := HK1.out; have := HK2.out; omega
         case rel => exact ⟨(Go.bits .xor .i64 (wrap64 ((wrap64 (x3_2 * 2)) - 65536)) 4129), (wrap64 (x5_2 + 1)), (by first | rfl | (simp; done) | (simp [*]; done)), (by first | rfl | (simp; done) | (simp [*]; done)), H', ⟨by have := HK1.out; have := HK2.out; omega⟩, by repeat (first | exact Drawn0.refl _ | apply Drawn0.step)⟩
        ·rw [if_neg c6] at H
         have c6b0 : decide (65536 ≤ (wrap64 (x3_2 * 2))) = false := decide_eq_false c6
         clear c6
         have H' := Aside0.mk H
         clear H
         go_wp2
         go_roundg k2
         case measure => have := HK1.out; have := HK2.out; omega
         case rel => exact ⟨(wrap64 (x3_2 * 2)), (wrap64 (x5_2 + 1)), (by first | rfl | (simp; done) | (simp [*]; done)), (by first | rfl | (simp; done) | (simp [*]; done)), H', ⟨by have := HK1.out; have := HK2.out; omega⟩, by repeat (first | exact Drawn0.refl _ | apply Drawn0.step)⟩
       ·rw [if_neg c5] at H
        have c5b0 : decide (x5_2 < 8) = false := decide_eq_false c5
        clear c5
        have H' := Aside0.mk H
        clear H
        go_wp2
        go_roundg k2
        case measure => have := HK1.out; have := HK2.out; omega
        case rel => exact ⟨(x3_2), (wrap64 (x4_1 + 1)), (by first | rfl | (simp; done) | (simp [*]; done)), (by first | rfl | (simp; done) | (simp [*]; done)), H', ⟨by have := HK1.out; have := HK2.out; omega⟩, by repeat (first | exact Drawn0.refl _ | apply Drawn0.step)⟩
    ·rw [if_neg c3] at H
     exact absurd H (by simp)
   ·rw [if_neg c2] at H
    have c2b0 : decide (x4_1 < (a0.size : Int)) = false := decide_eq_false c2
    clear c2
    obtain rfl := Option.some.inj H
    go_wp2
    go_ret
    exact ⟨by first | rfl | (simp; done) | (simp [*]; done), by repeat (first | exact Drawn0.refl _ | apply Drawn0.step)⟩

/-! ### spec_l6Cmd: function 17 -/
def spec_l6Cmd.f (k : Nat) (a0_0 : Int) (a0_1 : Int) (a0_2 : Int) (a0_3 : Int) (a0_4 : Int) (a0_5 : ByteArray) : Option (ByteArray) := (spec_l1Put.f k a0_3 1).bind fun t229 => (if 1 + t229.size ≤ 9223372036854775807 then ((spec_l1Put.f k a0_4 1).bind fun t230 => (if 1 + t229.size + t230.size ≤ 9223372036854775807 then ((spec_l1Put.f k a0_2 1).bind fun t231 => (if 1 + t229.size + t230.size + t231.size ≤ 9223372036854775807 then (if 1 + t229.size + t230.size + t231.size + a0_5.size ≤ 9223372036854775807 then (if 1 + t229.size + t230.size + t231.size + a0_5.size + 2 ≤ 9223372036854775807 then ((spec_l6Put.f k true a0_0 a0_1 ((((((⟨#[47]⟩ : ByteArray) ++ t229) ++ t230) ++ t231) ++ a0_5) ++ (⟨#[0, 0]⟩ : ByteArray))).bind fun t232 => (if 0 ≤ (wrap64 ((t232.size : Int) - 2)) then (if (wrap64 ((t232.size : Int) - 2)) ≤ (t232.size : Int) then ((spec_Crc16.f k (t232.extract 0 ((wrap64 ((t232.size : Int) - 2)) : Int).toNat)).bind fun t233 => ((spec_l1Put.f k t233 2).bind fun t234 => (if (t232.extract 0 ((wrap64 ((t232.size : Int) - 2)) : Int).toNat).size + t234.size ≤ 9223372036854775807 then (some ((t232.extract 0 ((wrap64 ((t232.size : Int) - 2)) : Int).toNat) ++ t234)) else (none)))) else (none)) else (none))) else (none)) else (none)) else (none))) else (none))) else (none))
theorem spec_l6Cmd.mono : ∀ a0 a1 a2 a3 a4 a5 k, LeO (spec_l6Cmd.f k a0 a1 a2 a3 a4 a5) (spec_l6Cmd.f (k + 1) a0 a1 a2 a3 a4 a5) := by
 intro a0 a1 a2 a3 a4 a5 k
 unfold spec_l6Cmd.f
 repeat' first
   | (with_reducible exact spec_Crc16.mono _ _)
   | (with_reducible exact spec_l1Put.mono _ _ _)
   | (with_reducible exact spec_l6Put.mono _ _ _ _ _)
   | (with_reducible exact LeO.refl _)
   | (with_reducible exact LeO.none _)
   | (with_reducible refine LeO.ite ?_ ?_)
   | (with_reducible refine LeO.bind ?_ (fun _ => ?_))
   | exact spec_Crc16.mono _ _
   | exact spec_l1Put.mono _ _ _
   | exact spec_l6Put.mono _ _ _ _ _
   | exact LeO.none _
   | refine LeO.ite ?_ ?_
   | refine LeO.bind ?_ (fun _ => ?_)
def spec_l6Cmd.T1 : Bool × List (List Nat × List Nat) := (true, [([], []), ([0], [0]), ([1], [1]), ([2], [2]), ([], []), ([4], [4]), ([5, 2], [5]), ([3, 6], [3, 6]), ([], []), ([8], [8]), ([9, 6], [9]), ([7, 10], [7, 10]), ([], []), ([12], [12]), ([11, 13], [11, 13]), ([14, 10, 0, 1, 2, 3, 4, 5, 6, 7, 8, 9, 10, 11, 12, 13, 14], [14])])
def spec_l6Cmd.B1 : List Nat := [0, 1, 3, 7, 0, 16, 55, 127, 0, 256, 887, 2047, 0, 4096, 16383, 32767]
theorem spec_l6Cmd.tab1 : rtab .any (opsOf Tryd.f17 1) = spec_l6Cmd.T1 := by kernel_rfl
theorem spec_l6Cmd.bits1 : waitsOk spec_l6Cmd.T1.2 spec_l6Cmd.B1 = true := by kernel_rfl
def spec_l6Cmd.T3 : Bool × List (List Nat × List Nat) := (true, [([], []), ([], []), ([1], [1]), ([2], [2]), ([0, 3], [0, 3]), ([], []), ([], []), ([6], [6]), ([7], [7]), ([5, 8], [5, 8]), ([9], [9]), ([10, 10], [10]), ([4, 11], [4, 11]), ([12, 11, 0, 1, 2, 3, 4, 5, 6, 7, 8, 9, 10, 11, 12], [12])])
def spec_l6Cmd.B3 : List Nat := [0, 0, 2, 6, 15, 0, 0, 64, 192, 480, 992, 2016, 4095, 8191]
theorem spec_l6Cmd.tab3 : rtab .any (opsOf Tryd.f17 3) = spec_l6Cmd.T3 := by kernel_rfl
theorem spec_l6Cmd.bits3 : waitsOk spec_l6Cmd.T3.2 spec_l6Cmd.B3 = true := by kernel_rfl
set_option maxHeartbeats 8000000 in
set_option maxRecDepth 100000 in
theorem spec_l6Cmd.calls (k : Nat) (a0_0 : Int) (a0_1 : Int) (a0_2 : Int) (a0_3 : Int) (a0_4 : Int) (a0_5 : ByteArray) (r : ByteArray) (w : World) (h : spec_l6Cmd.f k a0_0 a0_1 a0_2 a0_3 a0_4 a0_5 = some r) :
  Calls Tryd.prog 17 #[.agg #[.int .i64 a0_0, .int .i64 a0_1, .int .i64 a0_2, .int .i64 a0_3, .int .i64 a0_4, .string a0_5]] w fun e w' => e = .returned (.string r) ∧ Below w.heap.size w w' := by
 have hu24 := Tryd.underlying24
 have hu39 := Tryd.underlying39
 have HB := m_ (Below.refl w.heap.size w)
 have H : ((spec_l1Put.f k a0_3 1).bind fun t229 => (if 1 + t229.size ≤ 9223372036854775807 then ((spec_l1Put.f k a0_4 1).bind fun t230 => (if 1 + t229.size + t230.size ≤ 9223372036854775807 then ((spec_l1Put.f k a0_2 1).bind fun t231 => (if 1 + t229.size + t230.size + t231.size ≤ 9223372036854775807 then (if 1 + t229.size + t230.size + t231.size + a0_5.size ≤ 9223372036854775807 then (if 1 + t229.size + t230.size + t231.size + a0_5.size + 2 ≤ 9223372036854775807 then ((spec_l6Put.f k true a0_0 a0_1 ((((((⟨#[47]⟩ : ByteArray) ++ t229) ++ t230) ++ t231) ++ a0_5) ++ (⟨#[0, 0]⟩ : ByteArray))).bind fun t232 => (if 0 ≤ (wrap64 ((t232.size : Int) - 2)) then (if (wrap64 ((t232.size : Int) - 2)) ≤ (t232.size : Int) then ((spec_Crc16.f k (t232.extract 0 ((wrap64 ((t232.size : Int) - 2)) : Int).toNat)).bind fun t233 => ((spec_l1Put.f k t233 2).bind fun t234 => (if (t232.extract 0 ((wrap64 ((t232.size : Int) - 2)) : Int).toNat).size + t234.size ≤ 9223372036854775807 then (some ((t232.extract 0 ((wrap64 ((t232.size : Int) - 2)) : Int).toNat) ++ t234)) else (none)))) else (none)) else (none))) else (none)) else (none)) else (none))) else (none))) else (none))) = some r := h
 clear h
 replace H := Option.bind_eq_some_iff.mp H
 obtain ⟨t229, A20, H⟩ := H
 replace H : (if 1 + t229.size ≤ 9223372036854775807 then ((spec_l1Put.f k a0_4 1).bind fun t230 => (if 1 + t229.size + t230.size ≤ 9223372036854775807 then ((spec_l1Put.f k a0_2 1).bind fun t231 => (if 1 + t229.size + t230.size + t231.size ≤ 9223372036854775807 then (if 1 + t229.size + t230.size + t231.size + a0_5.size ≤ 9223372036854775807 then (if 1 + t229.size + t230.size + t231.size + a0_5.size + 2 ≤ 9223372036854775807 then ((spec_l6Put.f k true a0_0 a0_1 ((((((⟨#[47]⟩ : ByteArray) ++ t229) ++ t230) ++ t231) ++ a0_5) ++ (⟨#[0, 0]⟩ : ByteArray))).bind fun t232 => (if 0 ≤ (wrap64 ((t232.size : Int) - 2)) then (if (wrap64 ((t232.size : Int) - 2)) ≤ (t232.size : Int) then ((spec_Crc16.f k (t232.extract 0 ((wrap64 ((t232.size : Int) - 2)) : Int).toNat)).bind fun t233 => ((spec_l1Put.f k t233 2).bind fun t234 => (if (t232.extract 0 ((wrap64 ((t232.size : Int) - 2)) : Int).toNat).size + t234.size ≤ 9223372036854775807 then (some ((t232.extract 0 ((wrap64 ((t232.size : Int) - 2)) : Int).toNat) ++ t234)) else (none)))) else (none)) else (none))) else (none)) else (none)) else (none))) else (none))) else (none)) = some r := H
 have A2 := Aside0.mk A20
 clear A20
 by_cases c3 : 1 + t229.size ≤ 9223372036854775807
 ·rw [if_pos c3] at H
  have c3b0 := eq_true c3
  have c3b1 : decide (1 + t229.size ≤ 9223372036854775807) = true := decide_eq_true c3
  try have c3b2 : (9223372036854775807 < 1 + t229.size) = False := eq_false (Nat.not_lt.2 c3)
  replace H := Option.bind_eq_some_iff.mp H
  obtain ⟨t230, A40, H⟩ := H
  replace H : (if 1 + t229.size + t230.size ≤ 9223372036854775807 then ((spec_l1Put.f k a0_2 1).bind fun t231 => (if 1 + t229.size + t230.size + t231.size ≤ 9223372036854775807 then (if 1 + t229.size + t230.size + t231.size + a0_5.size ≤ 9223372036854775807 then (if 1 + t229.size + t230.size + t231.size + a0_5.size + 2 ≤ 9223372036854775807 then ((spec_l6Put.f k true a0_0 a0_1 ((((((⟨#[47]⟩ : ByteArray) ++ t229) ++ t230) ++ t231) ++ a0_5) ++ (⟨#[0, 0]⟩ : ByteArray))).bind fun t232 => (if 0 ≤ (wrap64 ((t232.size : Int) - 2)) then (if (wrap64 ((t232.size : Int) - 2)) ≤ (t232.size : Int) then ((spec_Crc16.f k (t232.extract 0 ((wrap64 ((t232.size : Int) - 2)) : Int).toNat)).bind fun t233 => ((spec_l1Put.f k t233 2).bind fun t234 => (if (t232.extract 0 ((wrap64 ((t232.size : Int) - 2)) : Int).toNat).size + t234.size ≤ 9223372036854775807 then (some ((t232.extract 0 ((wrap64 ((t232.size : Int) - 2)) : Int).toNat) ++ t234)) else (none)))) else (none)) else (none))) else (none)) else (none)) else (none))) else (none)) = some r := H
  have A4 := Aside0.mk A40
  clear A40
  by_cases c5 : 1 + t229.size + t230.size ≤ 9223372036854775807
  ·rw [if_pos c5] at H
   have c5b0 := eq_true c5
   have c5b1 : decide (1 + t229.size + t230.size ≤ 9223372036854775807) = true := decide_eq_true c5
   try have c5b2 : (9223372036854775807 < 1 + t229.size + t230.size) = False := eq_false (Nat.not_lt.2 c5)
   replace H := Option.bind_eq_some_iff.mp H
   obtain ⟨t231, A60, H⟩ := H
   replace H : (if 1 + t229.size + t230.size + t231.size ≤ 9223372036854775807 then (if 1 + t229.size + t230.size + t231.size + a0_5.size ≤ 9223372036854775807 then (if 1 + t229.size + t230.size + t231.size + a0_5.size + 2 ≤ 9223372036854775807 then ((spec_l6Put.f k true a0_0 a0_1 ((((((⟨#[47]⟩ : ByteArray) ++ t229) ++ t230) ++ t231) ++ a0_5) ++ (⟨#[0, 0]⟩ : ByteArray))).bind fun t232 => (if 0 ≤ (wrap64 ((t232.size : Int) - 2)) then (if (wrap64 ((t232.size : Int) - 2)) ≤ (t232.size : Int) then ((spec_Crc16.f k (t232.extract 0 ((wrap64 ((t232.size : Int) - 2)) : Int).toNat)).bind fun t233 => ((spec_l1Put.f k t233 2).bind fun t234 => (if (t232.extract 0 ((wrap64 ((t232.size : Int) - 2)) : Int).toNat).size + t234.size ≤ 9223372036854775807 then (some ((t232.extract 0 ((wrap64 ((t232.size : Int) - 2)) : Int).toNat) ++ t234)) else (none)))) else (none)) else (none))) else (none)) else (none)) else (none)) = some r := H
   have A6 := Aside0.mk A60
   clear A60
   by_cases c7 : 1 + t229.size + t230.size + t231.size ≤ 9223372036854775807
   ·rw [if_pos c7] at H
    have c7b0 := eq_true c7
    have c7b1 : decide (1 + t229.size + t230.size + t231.size ≤ 9223372036854775807) = true := decide_eq_true c7
    try have c7b2 : (9223372036854775807 < 1 + t229.size + t230.size + t231.size) = False := eq_false (Nat.not_lt.2 c7)
    by_cases c8 : 1 + t229.size + t230.size + t231.size + a0_5.size ≤ 9223372036854775807
    ·rw [if_pos c8] at H
     have c8b0 := eq_true c8
     have c8b1 : decide (1 + t229.size + t230.size + t231.size + a0_5.size ≤ 9223372036854775807) = true := decide_eq_true c8
     try have c8b2 : (9223372036854775807 < 1 + t229.size + t230.size + t231.size + a0_5.size) = False := eq_false (Nat.not_lt.2 c8)
     by_cases c9 : 1 + t229.size + t230.size + t231.size + a0_5.size + 2 ≤ 9223372036854775807
     ·rw [if_pos c9] at H
      have c9b0 := eq_true c9
      have c9b1 : decide (1 + t229.size + t230.size + t231.size + a0_5.size + 2 ≤ 9223372036854775807) = true := decide_eq_true c9
      try have c9b2 : (9223372036854775807 < 1 + t229.size + t230.size + t231.size + a0_5.size + 2) = False := eq_false (Nat.not_lt.2 c9)
      replace H := Option.bind_eq_some_iff.mp H
      obtain ⟨t232, A100, H⟩ := H
      replace H : (if 0 ≤ (wrap64 ((t232.size : Int) - 2)) then (if (wrap64 ((t232.size : Int) - 2)) ≤ (t232.size : Int) then ((spec_Crc16.f k (t232.extract 0 ((wrap64 ((t232.size : Int) - 2)) : Int).toNat)).bind fun t233 => ((spec_l1Put.f k t233 2).bind fun t234 => (if (t232.extract 0 ((wrap64 ((t232.size : Int) - 2)) : Int).toNat).size + t234.size ≤ 9223372036854775807 then (some ((t232.extract 0 ((wrap64 ((t232.size : Int) - 2)) : Int).toNat) ++ t234)) else (none)))) else (none)) else (none)) = some r := H
      have A10 := Aside0.mk A100
      clear A100
      obtain ⟨ji11, hji11⟩ : ∃ j_ : Int, (wrap64 ((t232.size : Int) - 2)) = j_ := ⟨_, rfl⟩
      replace H : (if 0 ≤ (ji11) then (if (ji11) ≤ (t232.size : Int) then ((spec_Crc16.f k (t232.extract 0 ((ji11) : Int).toNat)).bind fun t233 => ((spec_l1Put.f k t233 2).bind fun t234 => (if (t232.extract 0 ((ji11) : Int).toNat).size + t234.size ≤ 9223372036854775807 then (some ((t232.extract 0 ((ji11) : Int).toNat) ++ t234)) else (none)))) else (none)) else (none)) = some r := by first | (rw [hji11] at H; exact H) | (simp only [hji11] at H ⊢; exact H)
      (try rw [hji11] at A2)
      (try rw [hji11] at A4)
      (try rw [hji11] at A6)
      (try rw [hji11] at A10)
      have hji11w : (IntKind.i64.wrap ((t232.size : Int) - 2)) = ji11 := (i64_w _).trans hji11
      by_cases c12 : 0 ≤ (ji11)
      ·rw [if_pos c12] at H
       have c12b0 := eq_true c12
       have c12b1 : decide (0 ≤ (ji11)) = true := decide_eq_true c12
       clear c12
       by_cases c13 : (ji11) ≤ (t232.size : Int)
       ·rw [if_pos c13] at H
        have c13b0 := eq_true c13
        have c13b1 : decide ((ji11) ≤ (t232.size : Int)) = true := decide_eq_true c13
        clear c13
        have c14b0 := eq_true (of_decide_eq_true (by first | (with_reducible assumption) | assumption) : 0 ≤ (ji11))
        have c15b0 := eq_true (of_decide_eq_true (by first | (with_reducible assumption) | assumption) : (ji11) ≤ (t232.size : Int))
        replace H := Option.bind_eq_some_iff.mp H
        obtain ⟨t233, A160, H⟩ := H
        replace H : ((spec_l1Put.f k t233 2).bind fun t234 => (if (t232.extract 0 ((ji11) : Int).toNat).size + t234.size ≤ 9223372036854775807 then (some ((t232.extract 0 ((ji11) : Int).toNat) ++ t234)) else (none))) = some r := H
        have A16 := Aside0.mk A160
        clear A160
        replace H := Option.bind_eq_some_iff.mp H
        obtain ⟨t234, A170, H⟩ := H
        replace H : (if (t232.extract 0 ((ji11) : Int).toNat).size + t234.size ≤ 9223372036854775807 then (some ((t232.extract 0 ((ji11) : Int).toNat) ++ t234)) else (none)) = some r := H
        have A17 := Aside0.mk A170
        clear A170
        by_cases c18 : (t232.extract 0 ((ji11) : Int).toNat).size + t234.size ≤ 9223372036854775807
        ·rw [if_pos c18] at H
         have c18b0 := eq_true c18
         have c18b1 : decide ((t232.extract 0 ((ji11) : Int).toNat).size + t234.size ≤ 9223372036854775807) = true := decide_eq_true c18
         try have c18b2 : (9223372036854775807 < (t232.extract 0 ((ji11) : Int).toNat).size + t234.size) = False := eq_false (Nat.not_lt.2 c18)
         try (have h_ := c18; have g_ := (of_decide_eq_true (by first | (with_reducible assumption) | assumption) : (ji11) ≤ (t232.size : Int)); rw [ByteArray.size_extract] at h_; have c18b3 : (9223372036854775807 < ji11.toNat + t234.size) = False := eq_false (by omega); clear h_ g_)
         obtain rfl := Option.some.inj H
         go_enter Tryd.func17, Tryd.ntmps17
         try go_wp2_with (first | ((with_reducible refine gate_dst (N := 1) rfl ?_); refine box_event ?hg (N := 1) ?hd (cs := #[.int .i64 a0_0, .int .i64 a0_1, .int .i64 a0_2, .int .i64 a0_3, .int .i64 a0_4, .string a0_5]) (t := 24) ?hr ?_; (case hd => rfl); (case hg => rfl); (case hr => first | (go_simp; done) | (go_simp; rfl)); intro gb228 hg w19 hbox hb; have n0_ := m_ (below_step (bN HB.out) hb); have n1_ := m_ (hbox); have n2_ := m_ ((by rw [hg]; exact (below_size (bN HB.out)) : w.heap.size ≤ gb228)); have n3_ := m_ ((by rw [hg]; exact (below_size (bN HB.out)) : w.heap.size ≤ gb228)); clear HB; have HB := n0_; have BK228 := n1_; have GW228 := n2_; have GE228 := n3_; clear n0_ n1_ n2_ n3_; clear hb hbox hg))
         have n0_ := m_ (blk_drew BK228.out)
         have n1_ := m_ (below_drew1 HB.out)
         clear BK228
         clear HB
         have BK228 := n0_
         have HB := n1_
         clear n0_ n1_
         refine start_ (n := 16) (S := fun w' => w'.cell? ⟨gb228, 0, none⟩ = some (.int .i64 a0_0) ∧ w'.cell? ⟨gb228, 1, none⟩ = some (.int .i64 a0_1) ∧ w'.cell? ⟨gb228, 2, none⟩ = some (.int .i64 a0_2) ∧ w'.cell? ⟨gb228, 3, none⟩ = some (.int .i64 a0_3) ∧ w'.cell? ⟨gb228, 4, none⟩ = some (.int .i64 a0_4) ∧ w'.cell? ⟨gb228, 5, none⟩ = some (.string a0_5)) (ds := []) #[false, false, false, false, false, false, false, false, false, false, false, false, false, false, false, false] (by kernel_rfl) rfl rfl ⟨bc BK228 0, bc BK228 1, bc BK228 2, bc BK228 3, bc BK228 4, bc BK228 5⟩ (fun hHeld => ?_); refine with_tabW spec_l6Cmd.tab1 spec_l6Cmd.bits1 (fun HT_ HW_ => ?_)
         generalize w19.drew = w20 at BK228 HB hHeld ⊢
         refine pu 0 5 HT_ (h := ?_)
         refine pu 4 9 HT_ (h := ?_)
         refine pu 8 13 HT_ (h := ?_)
         refine pu 12 17 HT_ (h := ?_)
         refine take_ (i := 1) (N := some 6) (v := ?_) (a' := ?_) #[true, true, false, false, true, false, false, false, true, false, false, false, true, false, false, false] rfl rfl (take_ofW HT_.out HW_.out (by kernel_rfl)) (fun _ _ _ h => h) (Or.inl ⟨by rfl, ?_⟩) hHeld ?_ ?_
         rotate_left
         ·rintro w' ⟨s0, s1, s2, s3, s4, s5⟩
          go_simp
          with_reducible rfl
         rotate_left
         ·simp only [Act.put, List.setIfInBounds_toArray, List.set_cons_zero, List.set_cons_succ, i64_w, i32_w]
          rfl
         refine take_ (i := 5) (N := some 10) (v := ?_) (a' := ?_) #[true, true, false, false, true, true, false, false, true, false, false, false, true, false, false, false] rfl rfl (take_ofW HT_.out HW_.out (by kernel_rfl)) (fun _ _ _ h => h) (Or.inl ⟨by rfl, ?_⟩) hHeld ?_ ?_
         rotate_left
         ·rintro w' ⟨s0, s1, s2, s3, s4, s5⟩
          go_simp
          with_reducible rfl
         rotate_left
         ·simp only [Act.put, List.setIfInBounds_toArray, List.set_cons_zero, List.set_cons_succ, i64_w, i32_w]
          rfl
         refine take_ (i := 9) (N := some 14) (v := ?_) (a' := ?_) #[true, true, false, false, true, true, false, false, true, true, false, false, true, false, false, false] rfl rfl (take_ofW HT_.out HW_.out (by kernel_rfl)) (fun _ _ _ h => h) (Or.inl ⟨by rfl, ?_⟩) hHeld ?_ ?_
         rotate_left
         ·rintro w' ⟨s0, s1, s2, s3, s4, s5⟩
          go_simp
          with_reducible rfl
         rotate_left
         ·simp only [Act.put, List.setIfInBounds_toArray, List.set_cons_zero, List.set_cons_succ, i64_w, i32_w]
          rfl
         refine take_ (i := 13) (N := some 18) (v := ?_) (a' := ?_) #[true, true, false, false, true, true, false, false, true, true, false, false, true, true, false, false] rfl rfl (take_ofW HT_.out HW_.out (by kernel_rfl)) (fun _ _ _ h => h) (Or.inl ⟨by rfl, ?_⟩) hHeld ?_ ?_
         rotate_left
         ·rintro w' ⟨s0, s1, s2, s3, s4, s5⟩
          go_simp
          with_reducible rfl
         rotate_left
         ·simp only [Act.put, List.setIfInBounds_toArray, List.set_cons_zero, List.set_cons_succ, i64_w, i32_w]
          rfl
         refine one_ (i := 2) (N := some 7) #[true, true, true, false, true, true, false, false, true, true, false, false, true, true, false, false] rfl rfl (one_of HT_.out (by kernel_rfl)) (by decide) (fun K hK => ?_)
         refine goes_ Tryd.func27 (by kernel_rfl) rfl #[.int .i64 a0_3, .int .i64 1] (by rfl) rfl rfl gl_ ?_
         with_reducible refine (spec_l1Put.calls k a0_3 1 t229 _ A2.out).mono ?_
         rintro e w21 ⟨rfl, hb⟩
         refine ⟨_, rfl, ?_⟩
         have n0_ := m_ (blk_below (kN BK228.out) hb)
         have n1_ := m_ (below_step (bN HB.out) hb)
         clear BK228
         clear HB
         have BK228 := n0_
         have HB := n1_
         clear n0_ n1_
         (try clear hb)
         (try clear hb2)
         (try clear hk)
         (try clear hi)
         refine hK.out _ _ ⟨bc BK228 0, bc BK228 1, bc BK228 2, bc BK228 3, bc BK228 4, bc BK228 5⟩ (fun hHeld => ?_)
         clear hK K
         refine np (h := ?_)
         refine pu 3 8 HT_ (h := ?_)
         refine one_ (i := 6) (N := some 11) #[true, true, true, true, true, true, true, false, true, true, false, false, true, true, false, false] rfl rfl (one_of HT_.out (by kernel_rfl)) (by decide) (fun K hK => ?_)
         refine goes_ Tryd.func27 (by kernel_rfl) rfl #[.int .i64 a0_4, .int .i64 1] (by rfl) rfl rfl gl_ ?_
         with_reducible refine (spec_l1Put.calls k a0_4 1 t230 _ A4.out).mono ?_
         rintro e w22 ⟨rfl, hb⟩
         refine ⟨_, rfl, ?_⟩
         have n0_ := m_ (blk_below (kN BK228.out) hb)
         have n1_ := m_ (below_step (bN HB.out) hb)
         clear BK228
         clear HB
         have BK228 := n0_
         have HB := n1_
         clear n0_ n1_
         (try clear hb)
         (try clear hb2)
         (try clear hk)
         (try clear hi)
         refine hK.out _ _ ⟨bc BK228 0, bc BK228 1, bc BK228 2, bc BK228 3, bc BK228 4, bc BK228 5⟩ (fun hHeld => ?_)
         clear hK K
         refine np (h := ?_)
         refine pu 7 12 HT_ (h := ?_)
         refine one_ (i := 10) (N := some 15) #[true, true, true, true, true, true, true, true, true, true, true, false, true, true, false, false] rfl rfl (one_of HT_.out (by kernel_rfl)) (by decide) (fun K hK => ?_)
         refine goes_ Tryd.func27 (by kernel_rfl) rfl #[.int .i64 a0_2, .int .i64 1] (by rfl) rfl rfl gl_ ?_
         with_reducible refine (spec_l1Put.calls k a0_2 1 t231 _ A6.out).mono ?_
         rintro e w23 ⟨rfl, hb⟩
         refine ⟨_, rfl, ?_⟩
         have n0_ := m_ (blk_below (kN BK228.out) hb)
         have n1_ := m_ (below_step (bN HB.out) hb)
         clear BK228
         clear HB
         have BK228 := n0_
         have HB := n1_
         clear n0_ n1_
         (try clear hb)
         (try clear hb2)
         (try clear hk)
         (try clear hi)
         refine hK.out _ _ ⟨bc BK228 0, bc BK228 1, bc BK228 2, bc BK228 3, bc BK228 4, bc BK228 5⟩ (fun hHeld => ?_)
         clear hK K
         refine np (h := ?_)
         refine pu 11 16 HT_ (h := ?_)
         refine pu 14 19 HT_ (h := ?_)
         refine pu 15 3 HT_ (h := ?_)
         refine done_ (done_of HT_.out (by kernel_rfl)) ?_
         have hcz24_0 : w23.cell? ⟨gb228, 0, none⟩ = some (.int .i64 a0_0) := bc BK228 0
         have hcz24_1 : w23.cell? ⟨gb228, 1, none⟩ = some (.int .i64 a0_1) := bc BK228 1
         have hcz24_2 : w23.cell? ⟨gb228, 2, none⟩ = some (.int .i64 a0_2) := bc BK228 2
         have hcz24_3 : w23.cell? ⟨gb228, 3, none⟩ = some (.int .i64 a0_3) := bc BK228 3
         have hcz24_4 : w23.cell? ⟨gb228, 4, none⟩ = some (.int .i64 a0_4) := bc BK228 4
         have hcz24_5 : w23.cell? ⟨gb228, 5, none⟩ = some (.string a0_5) := bc BK228 5
         have hfz24_0 := blk_frozen BK228.out 0
         have hfz24_1 := blk_frozen BK228.out 1
         have hfz24_2 := blk_frozen BK228.out 2
         have hfz24_3 := blk_frozen BK228.out 3
         have hfz24_4 := blk_frozen BK228.out 4
         have hfz24_5 := blk_frozen BK228.out 5
         try go_wp2_with (first | ((with_reducible refine gate_callee (f := 28) rfl ?_); refine goesL_ (some 27) rfl rfl Tryd.func28 (by kernel_rfl) rfl #[.agg #[.bool true, .int .i64 a0_0, .int .i64 a0_1, .string ((((((⟨#[47]⟩ : ByteArray) ++ t229) ++ t230) ++ t231) ++ a0_5) ++ (⟨#[0, 0]⟩ : ByteArray))]] rfl gl_ ?_; (with_reducible refine (spec_l6Put.calls k true a0_0 a0_1 ((((((⟨#[47]⟩ : ByteArray) ++ t229) ++ t230) ++ t231) ++ a0_5) ++ (⟨#[0, 0]⟩ : ByteArray)) t232 _ A10.out).mono ?_); rintro e w25 ⟨rfl, hb⟩; refine ⟨_, rfl, ?_⟩; have n0_ := m_ (blk_below (kN BK228.out) hb); have n1_ := m_ (below_step (bN HB.out) hb); clear BK228; clear HB; have BK228 := n0_; have HB := n1_; clear n0_ n1_; (try clear hb); (try clear hb2); (try clear hk); (try clear hi)))
         have n0_ := m_ (blk_drew BK228.out)
         have n1_ := m_ (below_drew1 HB.out)
         clear BK228
         clear HB
         have BK228 := n0_
         have HB := n1_
         clear n0_ n1_
         refine start_ (n := 14) (S := fun w' => True) (ds := []) #[false, false, false, false, false, false, false, false, false, false, false, false, false, false] (by kernel_rfl) rfl rfl trivial (fun hHeld => ?_); refine with_tabW spec_l6Cmd.tab3 spec_l6Cmd.bits3 (fun HT_ HW_ => ?_)
         generalize w25.drew = w26 at BK228 HB hHeld ⊢
         refine pu 0 28 HT_ (h := ?_)
         refine pu 1 29 HT_ (h := ?_)
         refine pu 2 30 HT_ (h := ?_)
         refine pu 3 31 HT_ (h := ?_)
         refine pu 4 32 HT_ (h := ?_)
         refine pu 5 33 HT_ (h := ?_)
         refine pu 6 34 HT_ (h := ?_)
         refine pu 7 35 HT_ (h := ?_)
         refine pu 8 36 HT_ (h := ?_)
         refine pu 9 37 HT_ (h := ?_)
         refine one_ (i := 10) (N := some 38) #[true, true, true, true, true, true, true, true, true, true, true, false, false, false] rfl rfl (one_of HT_.out (by kernel_rfl)) (by decide) (fun K hK => ?_)
         refine goes_ Tryd.func29 (by kernel_rfl) rfl #[.string (t232.extract 0 ((ji11) : Int).toNat)] (by rfl) rfl rfl (by (try simp only [List.map_toArray, List.map_cons, List.map_nil]); first | done | (simp only [hji11]; rfl) | rfl | (simp only [List.length_drop, List.length_take]; rfl)) ?_
         with_reducible refine (spec_Crc16.calls k (t232.extract 0 ((ji11) : Int).toNat) t233 _ A16.out).mono ?_
         rintro e w' ⟨rfl, ⟨nd, rfl⟩⟩
         refine ⟨_, rfl, ?_⟩
         refine hK.out _ _ trivial (fun hHeld => ?_)
         clear hK K
         refine np (h := ?_)
         refine one_ (i := 11) (N := some 39) #[true, true, true, true, true, true, true, true, true, true, true, true, false, false] rfl rfl (one_of HT_.out (by kernel_rfl)) (by decide) (fun K hK => ?_)
         refine goes_ Tryd.func27 (by kernel_rfl) rfl #[.int .i64 t233, .int .i64 2] (by rfl) rfl rfl gl_ ?_
         with_reducible refine (spec_l1Put.calls k t233 2 t234 _ A17.out).mono ?_
         rintro e w27 ⟨rfl, hb⟩
         refine ⟨_, rfl, ?_⟩
         have n0_ := m_ (blk_below (kN BK228.out) hb)
         have n1_ := m_ (below_step (bN HB.out) hb)
         clear BK228
         clear HB
         have BK228 := n0_
         have HB := n1_
         clear n0_ n1_
         (try clear hb)
         (try clear hb2)
         (try clear hk)
         (try clear hi)
         refine hK.out _ _ trivial (fun hHeld => ?_)
         clear hK K
         refine np (h := ?_)
         refine pu 12 40 HT_ (h := ?_)
         refine pu 13 2 HT_ (h := ?_)
         refine done_ (done_of HT_.out (by kernel_rfl)) ?_
         try go_wp2
         go_ret
         exact ⟨by first | rfl | (simp [errW_none, errW_some] <;> rfl) | (simp only [← hji11]; first | rfl | (simp [errW_none, errW_some] <;> rfl)) | (simp [*, errW_none, errW_some] <;> rfl), by repeat (first | (with_reducible first | exact HB.out | apply below_alloc | apply pw_below_drewN | apply below_drew1 | refine below_set ?_ GE228.out) | exact HB.out)⟩
        ·rw [if_neg c18] at H
         exact absurd H (by simp)
       ·rw [if_neg c13] at H
        exact absurd H (by simp)
      ·rw [if_neg c12] at H
       exact absurd H (by simp)
     ·rw [if_neg c9] at H
      exact absurd H (by simp)
    ·rw [if_neg c8] at H
     exact absurd H (by simp)
   ·rw [if_neg c7] at H
    exact absurd H (by simp)
  ·rw [if_neg c5] at H
   exact absurd H (by simp)
 ·rw [if_neg c3] at H
  exact absurd H (by simp)

/-! ### spec_CmdPut: function 6 -/
def spec_CmdPut.f (k : Nat) (a0_0 : Int) (a0_1 : Int) (a0_2 : Int) (a0_3 : Int) (a0_4 : Int) (a0_5 : ByteArray) : Option (ByteArray) := (spec_l6CmdOk.f a0_0 a0_1 a0_2 a0_3 a0_4 a0_5).bind fun t236 => (if t236 = true then ((spec_l6Cmd.f k a0_0 a0_1 a0_2 a0_3 a0_4 a0_5).bind fun t237 => (some t237)) else (some (⟨#[]⟩ : ByteArray)))
theorem spec_CmdPut.mono : ∀ a0 a1 a2 a3 a4 a5 k, LeO (spec_CmdPut.f k a0 a1 a2 a3 a4 a5) (spec_CmdPut.f (k + 1) a0 a1 a2 a3 a4 a5) := by
 intro a0 a1 a2 a3 a4 a5 k
 unfold spec_CmdPut.f
 repeat' first
   | (with_reducible exact spec_l6Cmd.mono _ _ _ _ _ _ _)
   | (with_reducible exact LeO.refl _)
   | (with_reducible exact LeO.none _)
   | (with_reducible refine LeO.ite ?_ ?_)
   | (with_reducible refine LeO.bind ?_ (fun _ => ?_))
   | exact spec_l6Cmd.mono _ _ _ _ _ _ _
   | exact LeO.none _
   | refine LeO.ite ?_ ?_
   | refine LeO.bind ?_ (fun _ => ?_)
set_option maxHeartbeats 8000000 in
set_option maxRecDepth 100000 in
theorem spec_CmdPut.calls (k : Nat) (a0_0 : Int) (a0_1 : Int) (a0_2 : Int) (a0_3 : Int) (a0_4 : Int) (a0_5 : ByteArray) (r : ByteArray) (w : World) (h : spec_CmdPut.f k a0_0 a0_1 a0_2 a0_3 a0_4 a0_5 = some r) :
  Calls Tryd.prog 6 #[.agg #[.int .i64 a0_0, .int .i64 a0_1, .int .i64 a0_2, .int .i64 a0_3, .int .i64 a0_4, .string a0_5]] w fun e w' => e = .returned (.string r) ∧ Below w.heap.size w w' := by
 have hu24 := Tryd.underlying24
 have HB := m_ (Below.refl w.heap.size w)
 have H : ((spec_l6CmdOk.f a0_0 a0_1 a0_2 a0_3 a0_4 a0_5).bind fun t236 => (if t236 = true then ((spec_l6Cmd.f k a0_0 a0_1 a0_2 a0_3 a0_4 a0_5).bind fun t237 => (some t237)) else (some (⟨#[]⟩ : ByteArray)))) = some r := h
 clear h
 replace H := Option.bind_eq_some_iff.mp H
 obtain ⟨t236, A20, H⟩ := H
 replace H : (if t236 = true then ((spec_l6Cmd.f k a0_0 a0_1 a0_2 a0_3 a0_4 a0_5).bind fun t237 => (some t237)) else (some (⟨#[]⟩ : ByteArray))) = some r := H
 have A2 := Aside0.mk A20
 clear A20
 by_cases c3 : t236 = true
 ·subst c3
  have H1 : ((spec_l6Cmd.f k a0_0 a0_1 a0_2 a0_3 a0_4 a0_5).bind fun t237 => (some t237)) = some r := by rw [if_pos rfl] at H; exact H
  clear H
  have H := H1
  clear H1
  replace H := Option.bind_eq_some_iff.mp H
  obtain ⟨t237, A40, H⟩ := H
  replace H : (some t237) = some r := H
  have A4 := Aside0.mk A40
  clear A40
  obtain rfl := Option.some.inj H
  go_enter Tryd.func6, Tryd.ntmps6
  go_wp2_with (first | ((with_reducible refine gate_dst (N := 1) rfl ?_); refine box_event ?hg (N := 1) ?hd (cs := #[.int .i64 a0_0, .int .i64 a0_1, .int .i64 a0_2, .int .i64 a0_3, .int .i64 a0_4, .string a0_5]) (t := 24) ?hr ?_; (case hd => rfl); (case hg => rfl); (case hr => first | (go_simp; done) | (go_simp; rfl)); intro gb235 hg w5 hbox hb; have n0_ := m_ (below_step (bN HB.out) hb); have n1_ := m_ (hbox); have n2_ := m_ ((by rw [hg]; exact (below_size (bN HB.out)) : w.heap.size ≤ gb235)); have n3_ := m_ ((by rw [hg]; exact (below_size (bN HB.out)) : w.heap.size ≤ gb235)); clear HB; have HB := n0_; have BK235 := n1_; have GW235 := n2_; have GE235 := n3_; clear n0_ n1_ n2_ n3_; clear hb hbox hg; have hcz6_0 : w5.cell? ⟨gb235, 0, none⟩ = some (.int .i64 a0_0) := bc BK235 0; have hcz6_1 : w5.cell? ⟨gb235, 1, none⟩ = some (.int .i64 a0_1) := bc BK235 1; have hcz6_2 : w5.cell? ⟨gb235, 2, none⟩ = some (.int .i64 a0_2) := bc BK235 2; have hcz6_3 : w5.cell? ⟨gb235, 3, none⟩ = some (.int .i64 a0_3) := bc BK235 3; have hcz6_4 : w5.cell? ⟨gb235, 4, none⟩ = some (.int .i64 a0_4) := bc BK235 4; have hcz6_5 : w5.cell? ⟨gb235, 5, none⟩ = some (.string a0_5) := bc BK235 5; have hfz6_0 := blk_frozen BK235.out 0; have hfz6_1 := blk_frozen BK235.out 1; have hfz6_2 := blk_frozen BK235.out 2; have hfz6_3 := blk_frozen BK235.out 3; have hfz6_4 := blk_frozen BK235.out 4; have hfz6_5 := blk_frozen BK235.out 5) | ((with_reducible refine gate_callee (f := 16) rfl ?_); refine goesL_ (some 4) rfl rfl Tryd.func16 (by kernel_rfl) rfl #[.agg #[.int .i64 a0_0, .int .i64 a0_1, .int .i64 a0_2, .int .i64 a0_3, .int .i64 a0_4, .string a0_5]] rfl gl_ ?_; (with_reducible refine (spec_l6CmdOk.calls a0_0 a0_1 a0_2 a0_3 a0_4 a0_5 true _ A2.out).mono ?_); rintro e w7 ⟨rfl, hb⟩; refine ⟨_, rfl, ?_⟩; have n0_ := m_ (blk_below (kN BK235.out) hb); have n1_ := m_ (below_step (bN HB.out) hb); clear BK235; clear HB; have BK235 := n0_; have HB := n1_; clear n0_ n1_; (try clear hb); (try clear hb2); (try clear hk); (try clear hi); have hcz8_0 : w7.cell? ⟨gb235, 0, none⟩ = some (.int .i64 a0_0) := bc BK235 0; have hcz8_1 : w7.cell? ⟨gb235, 1, none⟩ = some (.int .i64 a0_1) := bc BK235 1; have hcz8_2 : w7.cell? ⟨gb235, 2, none⟩ = some (.int .i64 a0_2) := bc BK235 2; have hcz8_3 : w7.cell? ⟨gb235, 3, none⟩ = some (.int .i64 a0_3) := bc BK235 3; have hcz8_4 : w7.cell? ⟨gb235, 4, none⟩ = some (.int .i64 a0_4) := bc BK235 4; have hcz8_5 : w7.cell? ⟨gb235, 5, none⟩ = some (.string a0_5) := bc BK235 5; have hfz8_0 := blk_frozen BK235.out 0; have hfz8_1 := blk_frozen BK235.out 1; have hfz8_2 := blk_frozen BK235.out 2; have hfz8_3 := blk_frozen BK235.out 3; have hfz8_4 := blk_frozen BK235.out 4; have hfz8_5 := blk_frozen BK235.out 5) | ((with_reducible refine gate_callee (f := 17) rfl ?_); refine goesL_ (some 7) rfl rfl Tryd.func17 (by kernel_rfl) rfl #[.agg #[.int .i64 a0_0, .int .i64 a0_1, .int .i64 a0_2, .int .i64 a0_3, .int .i64 a0_4, .string a0_5]] rfl gl_ ?_; (with_reducible refine (spec_l6Cmd.calls k a0_0 a0_1 a0_2 a0_3 a0_4 a0_5 t237 _ A4.out).mono ?_); rintro e w9 ⟨rfl, hb⟩; refine ⟨_, rfl, ?_⟩; have n0_ := m_ (blk_below (kN BK235.out) hb); have n1_ := m_ (below_step (bN HB.out) hb); clear BK235; clear HB; have BK235 := n0_; have HB := n1_; clear n0_ n1_; (try clear hb); (try clear hb2); (try clear hk); (try clear hi)))
  go_ret
  exact ⟨by first | rfl | (simp [errW_none, errW_some] <;> rfl) | (simp [*, errW_none, errW_some] <;> rfl), by repeat (first | (with_reducible first | exact HB.out | apply below_alloc | apply pw_below_drewN | apply below_drew1 | refine below_set ?_ GE235.out) | exact HB.out)⟩
 ·replace c3 := Bool.eq_false_iff.mpr c3
  subst c3
  have H1 : (some (⟨#[]⟩ : ByteArray)) = some r := by rw [if_neg (show ¬ (false = true) by decide)] at H; exact H
  clear H
  have H := H1
  clear H1
  obtain rfl := Option.some.inj H
  go_enter Tryd.func6, Tryd.ntmps6
  go_wp2_with (first | ((with_reducible refine gate_dst (N := 1) rfl ?_); refine box_event ?hg (N := 1) ?hd (cs := #[.int .i64 a0_0, .int .i64 a0_1, .int .i64 a0_2, .int .i64 a0_3, .int .i64 a0_4, .string a0_5]) (t := 24) ?hr ?_; (case hd => rfl); (case hg => rfl); (case hr => first | (go_simp; done) | (go_simp; rfl)); intro gb235 hg w10 hbox hb; have n0_ := m_ (below_step (bN HB.out) hb); have n1_ := m_ (hbox); have n2_ := m_ ((by rw [hg]; exact (below_size (bN HB.out)) : w.heap.size ≤ gb235)); have n3_ := m_ ((by rw [hg]; exact (below_size (bN HB.out)) : w.heap.size ≤ gb235)); clear HB; have HB := n0_; have BK235 := n1_; have GW235 := n2_; have GE235 := n3_; clear n0_ n1_ n2_ n3_; clear hb hbox hg; have hcz11_0 : w10.cell? ⟨gb235, 0, none⟩ = some (.int .i64 a0_0) := bc BK235 0; have hcz11_1 : w10.cell? ⟨gb235, 1, none⟩ = some (.int .i64 a0_1) := bc BK235 1; have hcz11_2 : w10.cell? ⟨gb235, 2, none⟩ = some (.int .i64 a0_2) := bc BK235 2; have hcz11_3 : w10.cell? ⟨gb235, 3, none⟩ = some (.int .i64 a0_3) := bc BK235 3; have hcz11_4 : w10.cell? ⟨gb235, 4, none⟩ = some (.int .i64 a0_4) := bc BK235 4; have hcz11_5 : w10.cell? ⟨gb235, 5, none⟩ = some (.string a0_5) := bc BK235 5; have hfz11_0 := blk_frozen BK235.out 0; have hfz11_1 := blk_frozen BK235.out 1; have hfz11_2 := blk_frozen BK235.out 2; have hfz11_3 := blk_frozen BK235.out 3; have hfz11_4 := blk_frozen BK235.out 4; have hfz11_5 := blk_frozen BK235.out 5) | ((with_reducible refine gate_callee (f := 16) rfl ?_); refine goesL_ (some 4) rfl rfl Tryd.func16 (by kernel_rfl) rfl #[.agg #[.int .i64 a0_0, .int .i64 a0_1, .int .i64 a0_2, .int .i64 a0_3, .int .i64 a0_4, .string a0_5]] rfl gl_ ?_; (with_reducible refine (spec_l6CmdOk.calls a0_0 a0_1 a0_2 a0_3 a0_4 a0_5 false _ A2.out).mono ?_); rintro e w12 ⟨rfl, hb⟩; refine ⟨_, rfl, ?_⟩; have n0_ := m_ (blk_below (kN BK235.out) hb); have n1_ := m_ (below_step (bN HB.out) hb); clear BK235; clear HB; have BK235 := n0_; have HB := n1_; clear n0_ n1_; (try clear hb); (try clear hb2); (try clear hk); (try clear hi)))
  go_ret
  exact ⟨by first | rfl | (simp [errW_none, errW_some] <;> rfl) | (simp [*, errW_none, errW_some] <;> rfl), by repeat (first | (with_reducible first | exact HB.out | apply below_alloc | apply pw_below_drewN | apply below_drew1 | refine below_set ?_ GE235.out) | exact HB.out)⟩

/-! ### impl_readerOf: function 35 -/
def impl_readerOf.f (a0 : ByteArray) : Option (ByteArray × Int × Int × Bool) := some (a0, 0, -1, false)
set_option maxHeartbeats 8000000 in
set_option maxRecDepth 100000 in
theorem rd_reset_new (s : ByteArray) (W : World) :
    Calls Tryd.prog 40 #[.pointer (some ⟨W.heap.size, 0, none⟩), .string s] (W.alloc (.cells #[.string ⟨#[]⟩, .int .i64 0, .int .i64 0, .bool false] 73)) fun e w' => e = .returned (.tuple #[]) ∧ w' = W.alloc (.cells #[.string s, .int .i64 0, .int .i64 (-1), .bool false] 73) := by
  go_enter Tryd.func40, Tryd.ntmps40
  go_wp2_with fail
  first | go_end0 | ((try simp only [Exit.inBlock, Exit.then]); refine bodyPost_ret (results_none rfl _ _ _) rfl ?_)
  exact ⟨rfl, rfl⟩
set_option maxHeartbeats 8000000 in
set_option maxRecDepth 100000 in
theorem impl_readerOf.calls (a0 : ByteArray) (r1 : ByteArray) (r2 : Int) (r3 : Int) (r4 : Bool) (w0 w : World) (hB : Below w0.heap.size w0 w) (h : impl_readerOf.f a0 = some (r1, r2, r3, r4)) :
  Calls Tryd.prog 35 #[.string a0] w fun e w' => ∃ g_ : Nat, e = .returned (.pointer (some ⟨g_, 0, none⟩)) ∧ IsS73 w0 w' g_ r1 r2 r3 r4 ∧ Below w0.heap.size w0 w' ∧ Below w.heap.size w w' := by
  unfold impl_readerOf.f at h
  simp only [Option.some.injEq, Prod.mk.injEq] at h
  obtain ⟨rfl, rfl, rfl, rfl⟩ := h
  have hz := hB.size
  go_enter Tryd.func35, Tryd.ntmps35
  go_wp2_with (go_at_call 40; refine (rd_reset_new _ _).mono ?_; rintro e w' ⟨rfl, rfl⟩)
  go_ret
  exact ⟨_, rfl, ⟨heap_alloc_new _ _, hz⟩, hB.alloc hz _, (Below.refl _ _).alloc (Nat.le_refl _) _⟩

/-! ### impl_reader_take: function 37 -/
theorem info5r_ : (Tryd.prog.info? 5).map (fun i => (i.zero, i.size, i.bytes)) = some (some (.int .u8 0), 1, 1) := by kernel_rfl
def RdAt (W : World) (g : Nat) (s : ByteArray) (i p : Int) (bad : Bool) : Prop := W.heap[g]? = some (.cells #[.string s, .int .i64 i, .int .i64 p, .bool bad] 73 (0, 0))
theorem RdAt.cells {W : World} {g : Nat} {s : ByteArray} {i p : Int} {bad : Bool} (h : RdAt W g s i p bad) :
    (W.cell? ⟨g, 0, none⟩ = some (.string s) ∧ W.cell? ⟨g, 1, none⟩ = some (.int .i64 i) ∧ W.cell? ⟨g, 2, none⟩ = some (.int .i64 p) ∧ W.cell? ⟨g, 3, none⟩ = some (.bool bad)) ∧
    (W.frozen? ⟨g, 0, none⟩ = false ∧ W.frozen? ⟨g, 1, none⟩ = false ∧ W.frozen? ⟨g, 2, none⟩ = false ∧ W.frozen? ⟨g, 3, none⟩ = false) := by
  have c := fun j => cell_of_row W g j _ _ _ h
  have f := fun j => frozen_of_row W g j _ _ h
  exact ⟨⟨c 0, c 1, c 2, c 3⟩, f 0, f 1, f 2, f 3⟩
set_option maxHeartbeats 8000000 in
set_option maxRecDepth 100000 in
theorem rd_len (g : Nat) (s : ByteArray) (i p : Int) (bad : Bool) (W : World) (h : RdAt W g s i p bad) (h0 : 0 ≤ i) (h1 : i ≤ s.size) (hs : s.size ≤ 4611686018427387904) :
    Calls Tryd.prog 42 #[.pointer (some ⟨g, 0, none⟩)] W fun e w' => e = .returned (.int .i64 ((s.size : Int) - i)) ∧ ∃ n, w' = W.drewN n := by
  obtain ⟨⟨c0, c1, c2, c3⟩, _⟩ := h.cells
  clear h
  by_cases hi : i = s.size
  · subst hi
    go_enter Tryd.func42, Tryd.ntmps42
    go_wp2_with fail
    go_quiet (fail)
    go_wp2_with fail
    go_ret
    exact ⟨by simp, _, rfl⟩
  · have h2 : i < s.size := by omega
    go_enter Tryd.func42, Tryd.ntmps42
    go_wp2_with fail
    go_quiet (fail)
    go_wp2_with fail
    go_quiet (fail)
    go_wp2_with fail
    go_ret
    exact ⟨rfl, _, World.drewN_drewN _ _ _⟩
set_option maxHeartbeats 8000000 in
set_option maxRecDepth 100000 in
theorem rd_byte_ (g : Nat) (s : ByteArray) (i p : Int) (bad : Bool) (W : World) (h : RdAt W g s i p bad) (h0 : 0 ≤ i) (h1 : i < s.size) (hs : s.size ≤ 4611686018427387904) :
    Calls Tryd.prog 43 #[.pointer (some ⟨g, 0, none⟩)] W fun e w' => e = .returned (.tuple #[.int .u8 (bt s i), .nilIface]) ∧ RdAt w' g s (i + 1) (-1) bad ∧ KeepBut W w' g none ∧ Below g W w' := by
  obtain ⟨⟨c0, c1, c2, c3⟩, f0, f1, f2, f3⟩ := h.cells
  have eB : bt s i = (s[i.toNat]'(by omega)).toNat := by unfold bt; rw [dif_pos (by omega)]
  have hb := (s[i.toNat]'(by omega)).toNat_lt
  go_enter Tryd.func43, Tryd.ntmps43
  go_wp2_with fail
  go_quiet (fail)
  go_wp2_with fail
  go_quiet (fail)
  go_wp2_with fail
  go_ret2
  refine ⟨by rw [eB]; rfl, ?_, ?_⟩
  · have b2 : (W.setCell ⟨g, 2, none⟩ (.int .i64 (-1))).heap[g]? = some (.cells #[.string s, .int .i64 i, .int .i64 (-1), .bool bad] 73 (0, 0)) := (blk_set h 2 _).trans rfl
    exact (blk_set (blk_drewN b2 _) 1 _).trans rfl
  · exact ⟨(keep_drewN ((KeepBut.refl W g none).set_ 2 _) _).set_ 1 _, (pw_below_drewN ((Below.refl g W).setCell (Nat.le_refl _) _) _).setCell (Nat.le_refl _) _⟩
theorem rd_bad {W : World} {g : Nat} {s : ByteArray} {i p : Int} {b c : Bool} (h : RdAt W g s i p b) : RdAt (W.setCell ⟨g, 3, none⟩ (.bool c)) g s i p c := (blk_set h 3 _).trans rfl
set_option maxHeartbeats 8000000 in
set_option maxRecDepth 100000 in
theorem rd_take_no (g : Nat) (s : ByteArray) (i p n : Int) (bad : Bool) (W : World) (h : RdAt W g s i p bad) (h0 : 0 ≤ i) (h1 : i ≤ s.size) (hs : s.size ≤ 4611686018427387904) (hn : bad = true ∨ n < 0 ∨ (s.size : Int) - i < n) :
    Calls Tryd.prog 37 #[.pointer (some ⟨g, 0, none⟩), .int .i64 n] W fun e w' => e = .returned (.string ⟨#[]⟩) ∧ RdAt w' g s i p true ∧ KeepBut W w' g none ∧ Below g W w' := by
  obtain ⟨⟨c0, c1, c2, c3⟩, f0, f1, f2, f3⟩ := h.cells
  by_cases hb : bad = true
  · subst hb
    clear hn
    go_enter Tryd.func37, Tryd.ntmps37
    go_wp2_with fail
    go_ret
    exact ⟨rfl, rd_bad h, (KeepBut.refl W g none).set_ 3 _, (Below.refl g W).setCell (Nat.le_refl _) _⟩
  · obtain rfl : bad = false := by simpa using hb
    clear hb
    by_cases hb : n < 0
    · have hd : decide (n < 0) = true := decide_eq_true hb
      clear hn
      go_enter Tryd.func37, Tryd.ntmps37
      go_wp2_with fail
      go_ret
      exact ⟨rfl, rd_bad h, (KeepBut.refl W g none).set_ 3 _, (Below.refl g W).setCell (Nat.le_refl _) _⟩
    · have h2 : (s.size : Int) - i < n := by rcases hn with h | h | h <;> first | cases h | omega
      have hd : decide (n < 0) = false := decide_eq_false hb
      have hd2 : decide ((s.size : Int) - i < n) = true := decide_eq_true h2
      clear hn hb
      go_enter Tryd.func37, Tryd.ntmps37
      go_wp2_with (go_at_call 42; refine (rd_len g s i p false _ h h0 h1 hs).mono ?_; rintro e w' ⟨rfl, m, rfl⟩)
      go_ret
      exact ⟨rfl, rd_bad (show RdAt (W.drewN _) g s i p false from h), (keep_drewN (KeepBut.refl W g none) _).set_ 3 _, (pw_below_drewN (Below.refl g W) _).setCell (Nat.le_refl _) _⟩
def prevOf (n : Nat) (p : Int) : Int := if n = 0 then p else -1
/-- The bytes read so far, zeros behind. -/
def outA (s : ByteArray) (i n j : Nat) : Array Value := (nums .u8 ((((bytesOf s).drop i).take j) ++ List.replicate (n - j) 0)).toArray
theorem outA_list (s : ByteArray) (i n j : Nat) (h : i + n ≤ s.size) (hj : j < n) : ((((bytesOf s).drop i).take j) ++ List.replicate (n - j) 0).set j (bt s ((i : Int) + (j : Int))) = (((bytesOf s).drop i).take (j + 1)) ++ List.replicate (n - (j + 1)) 0 := by
  have hl : j < ((bytesOf s).drop i).length := by rw [List.length_drop, bytesOf_length]; omega
  have ht : (((bytesOf s).drop i).take j).length = j := by rw [List.length_take]; omega
  rw [List.set_append_right _ _ (by omega), ht, Nat.sub_self, show n - j = (n - (j + 1)) + 1 by omega, List.replicate_succ, List.set_cons_zero, List.take_succ_eq_append_getElem hl, List.append_assoc]
  congr 1
  have e : bt s ((i : Int) + (j : Int)) = ((bytesOf s).drop i)[j] := by
    unfold bt
    rw [dif_pos (by omega)]
    simp [bytesOf]
    congr 2
  rw [e]
  rfl
theorem outA_next (s : ByteArray) (i n j : Nat) (h : i + n ≤ s.size) (hj : j < n) : (outA s i n j).setIfInBounds j (.int .u8 (bt s ((i : Int) + (j : Int)))) = outA s i n (j + 1) := by
  unfold outA
  rw [← outA_list s i n j h hj]
  unfold nums
  rw [List.setIfInBounds_toArray, ← List.map_set]
theorem outA_at (s : ByteArray) (i n j : Nat) (h : i + n ≤ s.size) (hj : j < n) : (outA s i n j)[j]? = some (.int .u8 0) := by
  have ht : (((bytesOf s).drop i).take j).length = j := by rw [List.length_take, List.length_drop, bytesOf_length]; omega
  unfold outA nums
  rw [List.getElem?_toArray, List.getElem?_map, List.getElem?_append_right (by omega), ht, Nat.sub_self]
  rw [show n - j = (n - (j + 1)) + 1 by omega, List.replicate_succ]
  rfl
theorem outA_made (s : ByteArray) (i n : Nat) : madeCells #[.int .u8 0] (n * 1) = outA s i n 0 := by
  unfold outA nums madeCells
  apply Array.ext
  · simp
  · intro k h1 h2
    simp [Nat.mod_one]
theorem outA_text (s : ByteArray) (i n : Nat) (h : i + n ≤ s.size) : strOfNums (((bytesOf s).drop i).take n ++ List.replicate (n - n) 0) = s.extract i (i + n) := by
  rw [Nat.sub_self, List.replicate_zero, List.append_nil]
  apply ByteArray.ext
  unfold strOfNums bytesOf
  apply Array.toList_inj.1
  rw [ByteArray.data_extract, Array.toList_extract, List.extract_eq_take_drop]
  simp only [List.toList_toArray, Nat.add_sub_cancel_left]
  rw [← List.map_drop, ← List.map_take, List.map_map]
  conv => rhs; rw [← List.map_id ((s.data.toList.drop i).take n)]
  apply List.map_congr_left
  intro x _
  simp
theorem outA_reads {W : World} {o : Nat} {s : ByteArray} {i n : Nat} (h : i + n ≤ s.size) (hs : s.size ≤ 140737488355328) (hb : W.heap[o]? = some (.cells (outA s i n n) 5 (0, 0))) : ReadsInt W .u8 (some ⟨o, 0, none⟩) n (((bytesOf s).drop i).take n ++ List.replicate (n - n) 0) := by
  have hl : (((bytesOf s).drop i).take n ++ List.replicate (n - n) (0 : Int)).length = n := by simp [bytesOf_length]; omega
  refine ⟨hl, by omega, fun hn => ⟨_, rfl, fun j hj => ?_⟩⟩
  rw [add_plain, cell_of_row _ _ _ _ _ _ hb]
  unfold outA nums
  rw [List.getElem?_toArray, List.getElem?_map, List.getElem?_eq_getElem (by omega)]
  simp only [Option.map_some, List.getD_eq_getElem?_getD]
  rw [List.getElem?_eq_getElem (by omega)]
  rfl
set_option maxHeartbeats 8000000 in
set_option maxRecDepth 100000 in
theorem rd_take_yes (g : Nat) (s : ByteArray) (i n : Nat) (p : Int) (W : World) (h : RdAt W g s i p false) (h1 : i + n ≤ s.size) (hs : s.size ≤ 140737488355328) :
    Calls Tryd.prog 37 #[.pointer (some ⟨g, 0, none⟩), .int .i64 n] W fun e w' => e = .returned (.string (s.extract i (i + n))) ∧ RdAt w' g s ((i : Int) + (n : Int)) (prevOf n p) false ∧ KeepBut W w' g none ∧ Below g W w' := by
  obtain ⟨⟨c0, c1, c2, c3⟩, f0, f1, f2, f3⟩ := h.cells
  have hg : g < W.heap.size := blk_lt h
  have hd : decide ((n : Int) < 0) = false := decide_eq_false (by omega)
  have hd2 : decide ((s.size : Int) - (i : Int) < (n : Int)) = false := decide_eq_false (by omega)
  obtain ⟨i0, hi, hzz⟩ := Option.map_eq_some_iff.1 info5r_
  simp only [Prod.mk.injEq] at hzz
  obtain ⟨hz0, hz1, hz2⟩ := hzz
  have hmk : ∀ W' : World, (Instr.makeSlice 22 (.int .i64 (n : Int)) (.int .i64 (n : Int))).run Tryd.prog W' = .ok (.slice (some ⟨W'.heap.size, 0, none⟩) n n) (W'.alloc (.cells (outA s i n 0) 5)) := fun W' => by
    have := run_make (P := Tryd.prog) (w := W') 22 5 i0 (.int .u8 0) Tryd.underlying22 hi hz0 .i64 .i64 (n : Int) (n : Int) (by omega) (by omega) (by rw [hz2]; omega) (by omega)
    rw [this, hz1]
    simp only [Int.toNat_natCast]
    rw [← outA_made s i n]
    rfl
  replace hi := Aside0.mk hi
  clear hz0 hz1 hz2
  have hn0 : (n : Int) ≤ 140737488355328 := by omega
  go_enter Tryd.func37, Tryd.ntmps37
  go_wp2_with (go_at_call 42; refine (rd_len g s i p false _ h (by omega) (by omega) (by omega)).mono ?_; rintro e w' ⟨rfl, m, rfl⟩)
  have R0 : RdAt ((W.drewN m).alloc (.cells (outA s i n 0) 5)) g s ((i : Int) + ((0 : Nat) : Int)) (prevOf 0 p) false := by
    rw [show prevOf 0 p = p from if_pos rfl]
    rw [show (i : Int) + ((0 : Nat) : Int) = (i : Int) by omega]
    exact blk_alloc (blk_drewN h m) _
  have O0 : ((W.drewN m).alloc (.cells (outA s i n 0) 5)).heap[W.heap.size]? = some (.cells (outA s i n 0) 5 (0, 0)) := heap_alloc_new (W.drewN m) _
  have K0 : KeepBut W ((W.drewN m).alloc (.cells (outA s i n 0) 5)) g none := keep_alloc (keep_drewN (KeepBut.refl W g none) m) _
  have Q0 : Below g W ((W.drewN m).alloc (.cells (outA s i n 0) 5)) := (pw_below_drewN (Below.refl g W) _).alloc (Nat.le_of_lt hg) _
  replace Q0 := Aside0.mk Q0
  replace R0 := Aside0.mk R0
  replace O0 := Aside0.mk O0
  replace K0 := Aside0.mk K0
  clear hmk c0 c1 c2 c3 f0 f1 f2 f3 hd hd2
  replace hi := trivial
  go_loopw [30] (fun x wr => ∃ j : Nat, j ≤ n ∧ x = .int .i64 j ∧ Aside0 (RdAt wr g s ((i : Int) + (j : Int)) (prevOf j p) false) ∧ Aside0 (wr.heap[W.heap.size]? = some (.cells (outA s i n j) 5 (0, 0))) ∧ Aside0 (KeepBut W wr g none) ∧ Aside0 (Below g W wr)) (fun x _ => n - (intOf x).toNat)
  case atStart => exact ⟨0, by omega, rfl, R0, O0, K0, Q0⟩
  case round =>
    clear R0 O0 K0 Q0
    obtain ⟨j, hj, rfl, R1, O1, K1, Q1⟩ := hrel
    by_cases hlt : j < n
    · have hlt2 : decide ((j : Int) < (n : Int)) = true := decide_eq_true (by omega)
      go_wp2_with fail
      refine (rd_byte_ g s ((i : Int) + (j : Int)) _ false _ R1.out (by omega) (by omega) (by omega)).mono ?_
      rintro e w2 ⟨rfl, R2, K2, B2⟩
      have QQ := Aside0.mk (Q1.out.trans B2)
      have O2 := K2.blk O1.out (by omega) (by simp)
      have KK := Aside0.mk (KeepBut.trans K1.out K2 (.inl rfl))
      have hO2 := Aside0.mk O2
      have oc : w2.cell? ⟨W.heap.size, j, none⟩ = some (.int .u8 0) := (cell_of_row _ _ _ _ _ _ O2).trans (outA_at s i n j h1 hlt)
      have of : w2.frozen? ⟨W.heap.size, j, none⟩ = false := frozen_of_row _ _ _ _ _ O2
      have RR := Aside0.mk R2
      clear O2 R2 K2 R1 O1 K1 B2 Q1
      go_wp2_with fail
      go_roundw
      case rel => exact ⟨j + 1, by omega, by go_num, ⟨by
        have := RR.out
        rw [show prevOf (j + 1) p = -1 from if_neg (by omega), show (i : Int) + ((j + 1 : Nat) : Int) = (i : Int) + (j : Int) + 1 by omega]
        exact (Below.heap_setCell _ _ _ _ (by simp; omega)).trans this⟩, ⟨by rw [← outA_next s i n j h1 hlt]; exact blk_set hO2.out _ _⟩, ⟨keep_far KK.out (Nat.le_refl _) _⟩, ⟨QQ.out.setCell (Nat.le_of_lt hg) _⟩⟩
      case measure => simp [intOf]; omega
    · obtain rfl : j = n := by omega
      have hcv : (convert 22 9 (.slice (some ⟨W.heap.size, 0, none⟩) j j)).run Tryd.prog wr = .ok (.string (s.extract i (i + j))) wr := by
        have := string_of_reads (P := Tryd.prog) (src := 22) (dst := 9) (c := j) Tryd.underlying22 Tryd.underlying5 Tryd.underlying9 (outA_reads h1 hs O1.out)
        rw [outA_text s i j h1] at this
        exact this
      go_wp2_with fail
      go_ret
      exact ⟨rfl, R1.out, K1.out, Q1.out⟩
def impl_reader_take.f (s0_0 : ByteArray) (s0_1 : Int) (s0_2 : Int) (s0_3 : Bool) (a1 : Int) : Option (ByteArray × ByteArray × Int × Int × Bool) :=
  if 0 ≤ s0_1 ∧ s0_1 ≤ (s0_0.size : Int) ∧ s0_0.size ≤ 140737488355328 then
    if s0_3 = true ∨ a1 < 0 ∨ (s0_0.size : Int) - s0_1 < a1 then some (⟨#[]⟩, s0_0, s0_1, s0_2, true) else some (s0_0.extract s0_1.toNat (s0_1.toNat + a1.toNat), s0_0, s0_1 + a1, prevOf a1.toNat s0_2, false)
  else none
theorem impl_reader_take.calls (g : Nat) (s0_0 : ByteArray) (s0_1 : Int) (s0_2 : Int) (s0_3 : Bool) (a1 : Int) (r1 : ByteArray) (r2 : ByteArray) (r3 : Int) (r4 : Int) (r5 : Bool) (w0 w : World) (hI : IsS73 w0 w g s0_0 s0_1 s0_2 s0_3) (hB : Below w0.heap.size w0 w) (h : impl_reader_take.f s0_0 s0_1 s0_2 s0_3 a1 = some (r1, r2, r3, r4, r5)) :
  Calls Tryd.prog 37 #[.pointer (some ⟨g, 0, none⟩), .int .i64 a1] w fun e w' => e = .returned (.string r1) ∧ IsS73 w0 w' g r2 r3 r4 r5 ∧ Below w0.heap.size w0 w' ∧ KeepBut w w' g none := by
  unfold impl_reader_take.f at h
  split at h
  case isFalse => cases h
  rename_i hh
  obtain ⟨h0, h1, hs⟩ := hh
  split at h
  · rename_i hn
    simp only [Option.some.injEq, Prod.mk.injEq] at h
    obtain ⟨rfl, rfl, rfl, rfl, rfl⟩ := h
    refine (rd_take_no g s0_0 s0_1 s0_2 a1 s0_3 w hI.1 h0 h1 (by omega) hn).mono ?_
    rintro e w' ⟨rfl, hR, hK, hG⟩
    exact ⟨rfl, ⟨hR, hI.2⟩, hB.trans (hG.mono hI.2), hK⟩
  · rename_i hn
    simp only [Option.some.injEq, Prod.mk.injEq] at h
    obtain ⟨rfl, rfl, rfl, rfl, rfl⟩ := h
    obtain ⟨hb, hn1, hn2⟩ : s0_3 = false ∧ 0 ≤ a1 ∧ a1 ≤ (s0_0.size : Int) - s0_1 := by
      refine ⟨?_, ?_, ?_⟩
      · cases s0_3 with
        | false => rfl
        | true => exact absurd (.inl rfl) hn
      · exact Int.not_lt.1 fun h => hn (.inr (.inl h))
      · exact Int.not_lt.1 fun h => hn (.inr (.inr h))
    subst hb
    obtain ⟨i, rfl⟩ := Int.eq_ofNat_of_zero_le h0
    obtain ⟨n, rfl⟩ := Int.eq_ofNat_of_zero_le hn1
    refine (rd_take_yes g s0_0 i n s0_2 w hI.1 (by omega) hs).mono ?_
    rintro e w' ⟨rfl, hR, hK, hG⟩
    exact ⟨rfl, ⟨hR, hI.2⟩, hB.trans (hG.mono hI.2), hK⟩

end Go.Proofs.YtpehnincnpnggaaDoor.P
