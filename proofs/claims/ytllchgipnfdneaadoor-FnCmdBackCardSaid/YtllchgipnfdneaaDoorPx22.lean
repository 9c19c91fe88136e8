/- The machine side of these statements, function by function: what each Go function answers (as a Lean function), and that it does. Written by a program (mp.py) for this claim. -/
import Derived.Test.YtllchgipnfdneaaDoorPx0
import Derived.Test.YtllchgipnfdneaaDoorPx5
import Derived.Test.YtllchgipnfdneaaDoorPx14
import Derived.Test.YtllchgipnfdneaaDoorPx21
namespace Go.Proofs.YtllchgipnfdneaaDoor.P
open Go.RowKit Go.Proofs.YtllchgipnfdneaaDoorW.PrintWords Go.Proofs.YtllchgipnfdneaaDoorW.PrintLast Go.Proofs.YtllchgipnfdneaaDoorW.PrintMore
attribute [local go_sem] max2_int min2_int max_two min_two max_three min_three max_four min_four   -- for this text's walks alone
set_option linter.unusedVariables false
set_option linter.unusedSimpArgs false

/-! ### spec_l6Cmd: function 61 -/
def spec_l6Cmd.f (k : Nat) (a0_0 : Int) (a0_1 : Int) (a0_2 : Int) (a0_3 : Int) (a0_4 : Int) (a0_5 : ByteArray) : Option (ByteArray) := (spec_l1Put.f k a0_3 1).bind fun t648 => (if 1 + t648.size ≤ 9223372036854775807 then ((spec_l1Put.f k a0_4 1).bind fun t649 => (if 1 + t648.size + t649.size ≤ 9223372036854775807 then ((spec_l1Put.f k a0_2 1).bind fun t650 => (if 1 + t648.size + t649.size + t650.size ≤ 9223372036854775807 then (if 1 + t648.size + t649.size + t650.size + a0_5.size ≤ 9223372036854775807 then (if 1 + t648.size + t649.size + t650.size + a0_5.size + 2 ≤ 9223372036854775807 then ((spec_l6Put.f k true a0_0 a0_1 ((((((⟨#[47]⟩ : ByteArray) ++ t648) ++ t649) ++ t650) ++ a0_5) ++ (⟨#[0, 0]⟩ : ByteArray))).bind fun t651 => (if 0 ≤ (wrap64 ((t651.size : Int) - 2)) then (if (wrap64 ((t651.size : Int) - 2)) ≤ (t651.size : Int) then ((spec_Crc16.f k (t651.extract 0 ((wrap64 ((t651.size : Int) - 2)) : Int).toNat)).bind fun t652 => ((spec_l1Put.f k t652 2).bind fun t653 => (if (t651.extract 0 ((wrap64 ((t651.size : Int) - 2)) : Int).toNat).size + t653.size ≤ 9223372036854775807 then (some ((t651.extract 0 ((wrap64 ((t651.size : Int) - 2)) : Int).toNat) ++ t653)) else (none)))) else (none)) else (none))) else (none)) else (none)) else (none))) else (none))) else (none))
theorem spec_l6Cmd.mono : ∀ a0 a1 a2 a3 a4 a5 k, LeO (spec_l6Cmd.f k a0 a1 a2 a3 a4 a5) (spec_l6Cmd.f (k + 1) a0 a1 a2 a3 a4 a5) := by
 intro a0 a1 a2 a3 a4 a5 k
 unfold spec_l6Cmd.f
 repeat' first
   | (with_reducible exact spec_Crc16.mono _ _)
   | (with_reducible exact spec_l1Put.mono _ _ _)
   | (with_reducible exact spec_l6Put.mono _ _ _ _ _)
   | (with_reducible exact LeO.refl _)
   | (with_reducible exact LeO.none _)
   | (with_reducible refine LeO.ite ?_ ?_)
   | (with_reducible refine LeO.bind ?_ (fun _ => ?_))
   | exact spec_Crc16.mono _ _
   | exact spec_l1Put.mono _ _ _
   | exact spec_l6Put.mono _ _ _ _ _
   | exact LeO.none _
   | refine LeO.ite ?_ ?_
   | refine LeO.bind ?_ (fun _ => ?_)
def spec_l6Cmd.T1 : Bool × List (List Nat × List Nat) := (true, [([], []), ([0], [0]), ([1], [1]), ([2], [2]), ([], []), ([4], [4]), ([5, 2], [5]), ([3, 6], [3, 6]), ([], []), ([8], [8]), ([9, 6], [9]), ([7, 10], [7, 10]), ([], []), ([12], [12]), ([11, 13], [11, 13]), ([14, 10, 0, 1, 2, 3, 4, 5, 6, 7, 8, 9, 10, 11, 12, 13, 14], [14])])
def spec_l6Cmd.B1 : List Nat := [0, 1, 3, 7, 0, 16, 55, 127, 0, 256, 887, 2047, 0, 4096, 16383, 32767]
theorem spec_l6Cmd.tab1 : rtab .any (opsOf Tryd.f61 1) = spec_l6Cmd.T1 := by kernel_rfl
theorem spec_l6Cmd.bits1 : waitsOk spec_l6Cmd.T1.2 spec_l6Cmd.B1 = true := by kernel_rfl
def spec_l6Cmd.T3 : Bool × List (List Nat × List Nat) := (true, [([], []), ([], []), ([1], [1]), ([2], [2]), ([0, 3], [0, 3]), ([], []), ([], []), ([6], [6]), ([7], [7]), ([5, 8], [5, 8]), ([9], [9]), ([10, 10], [10]), ([4, 11], [4, 11]), ([12, 11, 0, 1, 2, 3, 4, 5, 6, 7, 8, 9, 10, 11, 12], [12])])
def spec_l6Cmd.B3 : List Nat := [0, 0, 2, 6, 15, 0, 0, 64, 192, 480, 992, 2016, 4095, 8191]
theorem spec_l6Cmd.tab3 : rtab .any (opsOf Tryd.f61 3) = spec_l6Cmd.T3 := by kernel_rfl
theorem spec_l6Cmd.bits3 : waitsOk spec_l6Cmd.T3.2 spec_l6Cmd.B3 = true := by kernel_rfl
set_option maxHeartbeats 8000000 in
set_option maxRecDepth 100000 in
theorem spec_l6Cmd.calls (k : Nat) (a0_0 : Int) (a0_1 : Int) (a0_2 : Int) (a0_3 : Int) (a0_4 : Int) (a0_5 : ByteArray) (r : ByteArray) (w : World) (h : spec_l6Cmd.f k a0_0 a0_1 a0_2 a0_3 a0_4 a0_5 = some r) :
  Calls Tryd.prog 61 #[.agg #[.int .i64 a0_0, .int .i64 a0_1, .int .i64 a0_2, .int .i64 a0_3, .int .i64 a0_4, .string a0_5]] w fun e w' => e = .returned (.string r) ∧ Below w.heap.size w w' := by
 have hu43 := Tryd.underlying43
 have hu23 := Tryd.underlying23
 have HB := m_ (Below.refl w.heap.size w)
 have H : ((spec_l1Put.f k a0_3 1).bind fun t648 => (if 1 + t648.size ≤ 9223372036854775807 then ((spec_l1Put.f k a0_4 1).bind fun t649 => (if 1 + t648.size + t649.size ≤ 9223372036854775807 then ((spec_l1Put.f k a0_2 1).bind fun t650 => (if 1 + t648.size + t649.size + t650.size ≤ 9223372036854775807 then (if 1 + t648.size + t649.size + t650.size + a0_5.size ≤ 9223372036854775807 then (if 1 + t648.size + t649.size + t650.size + a0_5.size + 2 ≤ 9223372036854775807 then ((spec_l6Put.f k true a0_0 a0_1 ((((((⟨#[47]⟩ : ByteArray) ++ t648) ++ t649) ++ t650) ++ a0_5) ++ (⟨#[0, 0]⟩ : ByteArray))).bind fun t651 => (if 0 ≤ (wrap64 ((t651.size : Int) - 2)) then (if (wrap64 ((t651.size : Int) - 2)) ≤ (t651.size : Int) then ((spec_Crc16.f k (t651.extract 0 ((wrap64 ((t651.size : Int) - 2)) : Int).toNat)).bind fun t652 => ((spec_l1Put.f k t652 2).bind fun t653 => (if (t651.extract 0 ((wrap64 ((t651.size : Int) - 2)) : Int).toNat).size + t653.size ≤ 9223372036854775807 then (some ((t651.extract 0 ((wrap64 ((t651.size : Int) - 2)) : Int).toNat) ++ t653)) else (none)))) else (none)) else (none))) else (none)) else (none)) else (none))) else (none))) else (none))) = some r := h
 clear h
 replace H := Option.bind_eq_some_iff.mp H
 obtain ⟨t648, A20, H⟩ := H
 replace H : (if 1 + t648.size ≤ 9223372036854775807 then ((spec_l1Put.f k a0_4 1).bind fun t649 => (if 1 + t648.size + t649.size ≤ 9223372036854775807 then ((spec_l1Put.f k a0_2 1).bind fun t650 => (if 1 + t648.size + t649.size + t650.size ≤ 9223372036854775807 then (if 1 + t648.size + t649.size + t650.size + a0_5.size ≤ 9223372036854775807 then (if 1 + t648.size + t649.size + t650.size + a0_5.size + 2 ≤ 9223372036854775807 then ((spec_l6Put.f k true a0_0 a0_1 ((((((⟨#[47]⟩ : ByteArray) ++ t648) ++ t649) ++ t650) ++ a0_5) ++ (⟨#[0, 0]⟩ : ByteArray))).bind fun t651 => (if 0 ≤ (wrap64 ((t651.size : Int) - 2)) then (if (wrap64 ((t651.size : Int) - 2)) ≤ (t651.size : Int) then ((spec_Crc16.f k (t651.extract 0 ((wrap64 ((t651.size : Int) - 2)) : Int).toNat)).bind fun t652 => ((spec_l1Put.f k t652 2).bind fun t653 => (if (t651.extract 0 ((wrap64 ((t651.size : Int) - 2)) : Int).toNat).size + t653.size ≤ 9223372036854775807 then (some ((t651.extract 0 ((wrap64 ((t651.size : Int) - 2)) : Int).toNat) ++ t653)) else (none)))) else (none)) else (none))) else (none)) else (none)) else (none))) else (none))) else (none)) = some r := H
 have A2 := Aside0.mk A20
 clear A20
 by_cases c3 : 1 + t648.size ≤ 9223372036854775807
 ·rw [if_pos c3] at H
  have c3b0 := eq_true c3
  have c3b1 : decide (1 + t648.size ≤ 9223372036854775807) = true := decide_eq_true c3
  try have c3b2 : (9223372036854775807 < 1 + t648.size) = False := eq_false (Nat.not_lt.2 c3)
  replace H := Option.bind_eq_some_iff.mp H
  obtain ⟨t649, A40, H⟩ := H
  replace H : (if 1 + t648.size + t649.size ≤ 9223372036854775807 then ((spec_l1Put.f k a0_2 1).bind fun t650 => (if 1 + t648.size + t649.size + t650.size ≤ 9223372036854775807 then (if 1 + t648.size + t649.size + t650.size + a0_5.size ≤ 9223372036854775807 then (if 1 + t648.size + t649.size + t650.size + a0_5.size + 2 ≤ 9223372036854775807 then ((spec_l6Put.f k true a0_0 a0_1 ((((((⟨#[47]⟩ : ByteArray) ++ t648) ++ t649) ++ t650) ++ a0_5) ++ (⟨#[0, 0]⟩ : ByteArray))).bind fun t651 => (if 0 ≤ (wrap64 ((t651.size : Int) - 2)) then (if (wrap64 ((t651.size : Int) - 2)) ≤ (t651.size : Int) then ((spec_Crc16.f k (t651.extract 0 ((wrap64 ((t651.size : Int) - 2)) : Int).toNat)).bind fun t652 => ((spec_l1Put.f k t652 2).bind fun t653 => (if (t651.extract 0 ((wrap64 ((t651.size : Int) - 2)) : Int).toNat).size + t653.size ≤ 9223372036854775807 then (some ((t651.extract 0 ((wrap64 ((t651.size : Int) - 2)) : Int).toNat) ++ t653)) else (none)))) else (none)) else (none))) else (none)) else (none)) else (none))) else (none)) = some r := H
  have A4 := Aside0.mk A40
  clear A40
  by_cases c5 : 1 + t648.size + t649.size ≤ 9223372036854775807
  ·rw [if_pos c5] at H
   have c5b0 := eq_true c5
   have c5b1 : decide (1 + t648.size + t649.size ≤ 9223372036854775807) = true := decide_eq_true c5
   try have c5b2 : (9223372036854775807 < 1 + t648.size + t649.size) = False := eq_false (Nat.not_lt.2 c5)
   replace H := Option.bind_eq_some_iff.mp H
   obtain ⟨t650, A60, H⟩ := H
   replace H : (if 1 + t648.size + t649.size + t650.size ≤ 9223372036854775807 then (if 1 + t648.size + t649.size + t650.size + a0_5.size ≤ 9223372036854775807 then (if 1 + t648.size + t649.size + t650.size + a0_5.size + 2 ≤ 9223372036854775807 then ((spec_l6Put.f k true a0_0 a0_1 ((((((⟨#[47]⟩ : ByteArray) ++ t648) ++ t649) ++ t650) ++ a0_5) ++ (⟨#[0, 0]⟩ : ByteArray))).bind fun t651 => (if 0 ≤ (wrap64 ((t651.size : Int) - 2)) then (if (wrap64 ((t651.size : Int) - 2)) ≤ (t651.size : Int) then ((spec_Crc16.f k (t651.extract 0 ((wrap64 ((t651.size : Int) - 2)) : Int).toNat)).bind fun t652 => ((spec_l1Put.f k t652 2).bind fun t653 => (if (t651.extract 0 ((wrap64 ((t651.size : Int) - 2)) : Int).toNat).size + t653.size ≤ 9223372036854775807 then (some ((t651.extract 0 ((wrap64 ((t651.size : Int) - 2)) : Int).toNat) ++ t653)) else (none)))) else (none)) else (none))) else (none)) else (none)) else (none)) = some r := H
   have A6 := Aside0.mk A60
   clear A60
   by_cases c7 : 1 + t648.size + t649.size + t650.size ≤ 9223372036854775807
   ·rw [if_pos c7] at H
    have c7b0 := eq_true c7
    have c7b1 : decide (1 + t648.size + t649.size + t650.size ≤ 9223372036854775807) = true := decide_eq_true c7
    try have c7b2 : (9223372036854775807 < 1 + t648.size + t649.size + t650.size) = False := eq_false (Nat.not_lt.2 c7)
    by_cases c8 : 1 + t648.size + t649.size + t650.size + a0_5.size ≤ 9223372036854775807
    ·rw [if_pos c8] at H
     have c8b0 := eq_true c8
     have c8b1 : decide (1 + t648.size + t649.size + t650.size + a0_5.size ≤ 9223372036854775807) = true := decide_eq_true c8
     try have c8b2 : (9223372036854775807 < 1 + t648.size + t649.size + t650.size + a0_5.size) = False := eq_false (Nat.not_lt.2 c8)
     by_cases c9 : 1 + t648.size + t649.size + t650.size + a0_5.size + 2 ≤ 9223372036854775807
     ·rw [if_pos c9] at H
      have c9b0 := eq_true c9
      have c9b1 : decide (1 + t648.size + t649.size + t650.size + a0_5.size + 2 ≤ 9223372036854775807) = true := decide_eq_true c9
      try have c9b2 : (9223372036854775807 < 1 + t648.size + t649.size + t650.size + a0_5.size + 2) = False := eq_false (Nat.not_lt.2 c9)
      replace H := Option.bind_eq_some_iff.mp H
      obtain ⟨t651, A100, H⟩ := H
      replace H : (if 0 ≤ (wrap64 ((t651.size : Int) - 2)) then (if (wrap64 ((t651.size : Int) - 2)) ≤ (t651.size : Int) then ((spec_Crc16.f k (t651.extract 0 ((wrap64 ((t651.size : Int) - 2)) : Int).toNat)).bind fun t652 => ((spec_l1Put.f k t652 2).bind fun t653 => (if (t651.extract 0 ((wrap64 ((t651.size : Int) - 2)) : Int).toNat).size + t653.size ≤ 9223372036854775807 then (some ((t651.extract 0 ((wrap64 ((t651.size : Int) - 2)) : Int).toNat) ++ t653)) else (none)))) else (none)) else (none)) = some r := H
      have A10 := Aside0.mk A100
      clear A100
      obtain ⟨ji11, hji11⟩ : ∃ j_ : Int, (wrap64 ((t651.size : Int) - 2)) = j_ := ⟨_, rfl⟩
      replace H : (if 0 ≤ (ji11) then (if (ji11) ≤ (t651.size : Int) then ((spec_Crc16.f k (t651.extract 0 ((ji11) : Int).toNat)).bind fun t652 => ((spec_l1Put.f k t652 2).bind fun t653 => (if (t651.extract 0 ((ji11) : Int).toNat).size + t653.size ≤ 9223372036854775807 then (some ((t651.extract 0 ((ji11) : Int).toNat) ++ t653)) else (none)))) else (none)) else (none)) = some r := by first | (rw [hji11] at H; exact H) | (simp only [hji11] at H ⊢; exact H)
      (try rw [hji11] at A2)
      (try rw [hji11] at A4)
      (try rw [hji11] at A6)
      (try rw [hji11] at A10)
      have hji11w : (IntKind.i64.wrap ((t651.size : Int) - 2)) = ji11 := (i64_w _).trans hji11
      by_cases c12 : 0 ≤ (ji11)
      ·rw [if_pos c12] at H
       have c12b0 := eq_true c12
       have c12b1 : decide (0 ≤ (ji11)) = true := decide_eq_true c12
       clear c12
       by_cases c13 : (ji11) ≤ (t651.size : Int)
       ·rw [if_pos c13] at H
        have c13b0 := eq_true c13
        have c13b1 : decide ((ji11) ≤ (t651.size : Int)) = true := decide_eq_true c13
        clear c13
        have c14b0 := eq_true (of_decide_eq_true (by first | (with_reducible assumption) | assumption) : 0 ≤ (ji11))
        have c15b0 := eq_true (of_decide_eq_true (by first | (with_reducible assumption) | assumption) : (ji11) ≤ (t651.size : Int))
        replace H := Option.bind_eq_some_iff.mp H
        obtain ⟨t652, A160, H⟩ := H
        replace H : ((spec_l1Put.f k t652 2).bind fun t653 => (if (t651.extract 0 ((ji11) : Int).toNat).size + t653.size ≤ 9223372036854775807 then (some ((t651.extract 0 ((ji11) : Int).toNat) ++ t653)) else (none))) = some r := H
        have A16 := Aside0.mk A160
        clear A160
        replace H := Option.bind_eq_some_iff.mp H
        obtain ⟨t653, A170, H⟩ := H
        replace H : (if (t651.extract 0 ((ji11) : Int).toNat).size + t653.size ≤ 9223372036854775807 then (some ((t651.extract 0 ((ji11) : Int).toNat) ++ t653)) else (none)) = some r := H
        have A17 := Aside0.mk A170
        clear A170
        by_cases c18 : (t651.extract 0 ((ji11) : Int).toNat).size + t653.size ≤ 9223372036854775807
        ·rw [if_pos c18] at H
         have c18b0 := eq_true c18
         have c18b1 : decide ((t651.extract 0 ((ji11) : Int).toNat).size + t653.size ≤ 9223372036854775807) = true := decide_eq_true c18
         try have c18b2 : (9223372036854775807 < (t651.extract 0 ((ji11) : Int).toNat).size + t653.size) = False := eq_false (Nat.not_lt.2 c18)
         try (have h_ := c18; have g_ := (of_decide_eq_true (by first | (with_reducible assumption) | assumption) : (ji11) ≤ (t651.size : Int)); rw [ByteArray.size_extract] at h_; have c18b3 : (9223372036854775807 < ji11.toNat + t653.size) = False := eq_false (by omega); clear h_ g_)
         obtain rfl := Option.some.inj H
         go_enter Tryd.func61, Tryd.ntmps61
         try go_wp2_with (first | ((with_reducible refine gate_dst (N := 1) rfl ?_); refine box_event ?hg (N := 1) ?hd (cs := #[.int .i64 a0_0, .int .i64 a0_1, .int .i64 a0_2, .int .i64 a0_3, .int .i64 a0_4, .string a0_5]) (t := 43) ?hr ?_; (case hd => rfl); (case hg => rfl); (case hr => first | (go_simp; done) | (go_simp; rfl)); intro gb647 hg w19 hbox hb; have n0_ := m_ (below_step (bN HB.out) hb); have n1_ := m_ (hbox); have n2_ := m_ ((by rw [hg]; exact (below_size (bN HB.out)) : w.heap.size ≤ gb647)); have n3_ := m_ ((by rw [hg]; exact (below_size (bN HB.out)) : w.heap.size ≤ gb647)); clear HB; have HB := n0_; have BK647 := n1_; have GW647 := n2_; have GE647 := n3_; clear n0_ n1_ n2_ n3_; clear hb hbox hg))
         have n0_ := m_ (blk_drew BK647.out)
         have n1_ := m_ (below_drew1 HB.out)
         clear BK647
         clear HB
         have BK647 := n0_
         have HB := n1_
         clear n0_ n1_
         refine start_ (n := 16) (S := fun w' => w'.cell? ⟨gb647, 0, none⟩ = some (.int .i64 a0_0) ∧ w'.cell? ⟨gb647, 1, none⟩ = some (.int .i64 a0_1) ∧ w'.cell? ⟨gb647, 2, none⟩ = some (.int .i64 a0_2) ∧ w'.cell? ⟨gb647, 3, none⟩ = some (.int .i64 a0_3) ∧ w'.cell? ⟨gb647, 4, none⟩ = some (.int .i64 a0_4) ∧ w'.cell? ⟨gb647, 5, none⟩ = some (.string a0_5)) (ds := []) #[false, false, false, false, false, false, false, false, false, false, false, false, false, false, false, false] (by kernel_rfl) rfl rfl ⟨(blk_cell BK647.out 0).trans rfl, (blk_cell BK647.out 1).trans rfl, (blk_cell BK647.out 2).trans rfl, (blk_cell BK647.out 3).trans rfl, (blk_cell BK647.out 4).trans rfl, (blk_cell BK647.out 5).trans rfl⟩ (fun hHeld => ?_); refine with_tabW spec_l6Cmd.tab1 spec_l6Cmd.bits1 (fun HT_ HW_ => ?_)
         generalize w19.drew = w20 at BK647 HB hHeld ⊢
         refine pu 0 5 HT_ (h := ?_)
         refine pu 4 9 HT_ (h := ?_)
         refine pu 8 13 HT_ (h := ?_)
         refine pu 12 17 HT_ (h := ?_)
         refine take_ (i := 1) (N := some 6) (v := ?_) (a' := ?_) #[true, true, false, false, true, false, false, false, true, false, false, false, true, false, false, false] rfl rfl (take_ofW HT_.out HW_.out (by kernel_rfl)) (fun _ _ _ h => h) (Or.inl ⟨by rfl, ?_⟩) hHeld ?_ ?_
         rotate_left
         ·rintro w' ⟨s0, s1, s2, s3, s4, s5⟩
          go_simp
          with_reducible rfl
         rotate_left
         ·simp only [Act.put, List.setIfInBounds_toArray, List.set_cons_zero, List.set_cons_succ, i64_w, i32_w]
          rfl
         refine take_ (i := 5) (N := some 10) (v := ?_) (a' := ?_) #[true, true, false, false, true, true, false, false, true, false, false, false, true, false, false, false] rfl rfl (take_ofW HT_.out HW_.out (by kernel_rfl)) (fun _ _ _ h => h) (Or.inl ⟨by rfl, ?_⟩) hHeld ?_ ?_
         rotate_left
         ·rintro w' ⟨s0, s1, s2, s3, s4, s5⟩
          go_simp
          with_reducible rfl
         rotate_left
         ·simp only [Act.put, List.setIfInBounds_toArray, List.set_cons_zero, List.set_cons_succ, i64_w, i32_w]
          rfl
         refine take_ (i := 9) (N := some 14) (v := ?_) (a' := ?_) #[true, true, false, false, true, true, false, false, true, true, false, false, true, false, false, false] rfl rfl (take_ofW HT_.out HW_.out (by kernel_rfl)) (fun _ _ _ h => h) (Or.inl ⟨by rfl, ?_⟩) hHeld ?_ ?_
         rotate_left
         ·rintro w' ⟨s0, s1, s2, s3, s4, s5⟩
          go_simp
          with_reducible rfl
         rotate_left
         ·simp only [Act.put, List.setIfInBounds_toArray, List.set_cons_zero, List.set_cons_succ, i64_w, i32_w]
          rfl
         refine take_ (i := 13) (N := some 18) (v := ?_) (a' := ?_) #[true, true, false, false, true, true, false, false, true, true, false, false, true, true, false, false] rfl rfl (take_ofW HT_.out HW_.out (by kernel_rfl)) (fun _ _ _ h => h) (Or.inl ⟨by rfl, ?_⟩) hHeld ?_ ?_
         rotate_left
         ·rintro w' ⟨s0, s1, s2, s3, s4, s5⟩
          go_simp
          with_reducible rfl
         rotate_left
         ·simp only [Act.put, List.setIfInBounds_toArray, List.set_cons_zero, List.set_cons_succ, i64_w, i32_w]
          rfl
         refine one_ (i := 2) (N := some 7) #[true, true, true, false, true, true, false, false, true, true, false, false, true, true, false, false] rfl rfl (one_of HT_.out (by kernel_rfl)) (by decide) (fun K hK => ?_)
         refine goes_ Tryd.func64 (by kernel_rfl) rfl #[.int .i64 a0_3, .int .i64 1] (by rfl) rfl rfl gl_ ?_
         with_reducible refine (spec_l1Put.calls k a0_3 1 t648 _ A2.out).mono ?_
         rintro e w21 ⟨rfl, hb⟩
         refine ⟨_, rfl, ?_⟩
         have n0_ := m_ (blk_below (kN BK647.out) hb)
         have n1_ := m_ (below_step (bN HB.out) hb)
         clear BK647
         clear HB
         have BK647 := n0_
         have HB := n1_
         clear n0_ n1_
         (try clear hb)
         (try clear hb2)
         (try clear hk)
         (try clear hi)
         refine hK.out _ _ ⟨(blk_cell BK647.out 0).trans rfl, (blk_cell BK647.out 1).trans rfl, (blk_cell BK647.out 2).trans rfl, (blk_cell BK647.out 3).trans rfl, (blk_cell BK647.out 4).trans rfl, (blk_cell BK647.out 5).trans rfl⟩ (fun hHeld => ?_)
         clear hK K
         refine norm_ (a' := ?_) ?_ ?_
         rotate_left
         ·show Act.put _ (some 7) _ = _
          simp only [Act.put, List.setIfInBounds_toArray, List.set_cons_zero, List.set_cons_succ, i64_w, i32_w]
          rfl
         refine pu 3 8 HT_ (h := ?_)
         refine one_ (i := 6) (N := some 11) #[true, true, true, true, true, true, true, false, true, true, false, false, true, true, false, false] rfl rfl (one_of HT_.out (by kernel_rfl)) (by decide) (fun K hK => ?_)
         refine goes_ Tryd.func64 (by kernel_rfl) rfl #[.int .i64 a0_4, .int .i64 1] (by rfl) rfl rfl gl_ ?_
         with_reducible refine (spec_l1Put.calls k a0_4 1 t649 _ A4.out).mono ?_
         rintro e w22 ⟨rfl, hb⟩
         refine ⟨_, rfl, ?_⟩
         have n0_ := m_ (blk_below (kN BK647.out) hb)
         have n1_ := m_ (below_step (bN HB.out) hb)
         clear BK647
         clear HB
         have BK647 := n0_
         have HB := n1_
         clear n0_ n1_
         (try clear hb)
         (try clear hb2)
         (try clear hk)
         (try clear hi)
         refine hK.out _ _ ⟨(blk_cell BK647.out 0).trans rfl, (blk_cell BK647.out 1).trans rfl, (blk_cell BK647.out 2).trans rfl, (blk_cell BK647.out 3).trans rfl, (blk_cell BK647.out 4).trans rfl, (blk_cell BK647.out 5).trans rfl⟩ (fun hHeld => ?_)
         clear hK K
         refine norm_ (a' := ?_) ?_ ?_
         rotate_left
         ·show Act.put _ (some 11) _ = _
          simp only [Act.put, List.setIfInBounds_toArray, List.set_cons_zero, List.set_cons_succ, i64_w, i32_w]
          rfl
         refine pu 7 12 HT_ (h := ?_)
         refine one_ (i := 10) (N := some 15) #[true, true, true, true, true, true, true, true, true, true, true, false, true, true, false, false] rfl rfl (one_of HT_.out (by kernel_rfl)) (by decide) (fun K hK => ?_)
         refine goes_ Tryd.func64 (by kernel_rfl) rfl #[.int .i64 a0_2, .int .i64 1] (by rfl) rfl rfl gl_ ?_
         with_reducible refine (spec_l1Put.calls k a0_2 1 t650 _ A6.out).mono ?_
         rintro e w23 ⟨rfl, hb⟩
         refine ⟨_, rfl, ?_⟩
         have n0_ := m_ (blk_below (kN BK647.out) hb)
         have n1_ := m_ (below_step (bN HB.out) hb)
         clear BK647
         clear HB
         have BK647 := n0_
         have HB := n1_
         clear n0_ n1_
         (try clear hb)
         (try clear hb2)
         (try clear hk)
         (try clear hi)
         refine hK.out _ _ ⟨(blk_cell BK647.out 0).trans rfl, (blk_cell BK647.out 1).trans rfl, (blk_cell BK647.out 2).trans rfl, (blk_cell BK647.out 3).trans rfl, (blk_cell BK647.out 4).trans rfl, (blk_cell BK647.out 5).trans rfl⟩ (fun hHeld => ?_)
         clear hK K
         refine norm_ (a' := ?_) ?_ ?_
         rotate_left
         ·show Act.put _ (some 15) _ = _
          simp only [Act.put, List.setIfInBounds_toArray, List.set_cons_zero, List.set_cons_succ, i64_w, i32_w]
          rfl
         refine pu 11 16 HT_ (h := ?_)
         refine pu 14 19 HT_ (h := ?_)
         refine pu 15 3 HT_ (h := ?_)
         refine done_ (done_of HT_.out (by kernel_rfl)) ?_
         have hcz24_0 : w23.cell? ⟨gb647, 0, none⟩ = some (.int .i64 a0_0) := (blk_cell BK647.out 0).trans rfl
         have hcz24_1 : w23.cell? ⟨gb647, 1, none⟩ = some (.int .i64 a0_1) := (blk_cell BK647.out 1).trans rfl
         have hcz24_2 : w23.cell? ⟨gb647, 2, none⟩ = some (.int .i64 a0_2) := (blk_cell BK647.out 2).trans rfl
         have hcz24_3 : w23.cell? ⟨gb647, 3, none⟩ = some (.int .i64 a0_3) := (blk_cell BK647.out 3).trans rfl
         have hcz24_4 : w23.cell? ⟨gb647, 4, none⟩ = some (.int .i64 a0_4) := (blk_cell BK647.out 4).trans rfl
         have hcz24_5 : w23.cell? ⟨gb647, 5, none⟩ = some (.string a0_5) := (blk_cell BK647.out 5).trans rfl
         have hfz24_0 := blk_frozen BK647.out 0
         have hfz24_1 := blk_frozen BK647.out 1
         have hfz24_2 := blk_frozen BK647.out 2
         have hfz24_3 := blk_frozen BK647.out 3
         have hfz24_4 := blk_frozen BK647.out 4
         have hfz24_5 := blk_frozen BK647.out 5
         try go_wp2_with (first | ((with_reducible refine gate_callee (f := 43) rfl ?_); refine goesL_ (some 27) rfl rfl Tryd.func43 (by kernel_rfl) rfl #[.agg #[.bool true, .int .i64 a0_0, .int .i64 a0_1, .string ((((((⟨#[47]⟩ : ByteArray) ++ t648) ++ t649) ++ t650) ++ a0_5) ++ (⟨#[0, 0]⟩ : ByteArray))]] rfl gl_ ?_; (with_reducible refine (spec_l6Put.calls k true a0_0 a0_1 ((((((⟨#[47]⟩ : ByteArray) ++ t648) ++ t649) ++ t650) ++ a0_5) ++ (⟨#[0, 0]⟩ : ByteArray)) t651 _ A10.out).mono ?_); rintro e w25 ⟨rfl, hb⟩; refine ⟨_, rfl, ?_⟩; have n0_ := m_ (blk_below (kN BK647.out) hb); have n1_ := m_ (below_step (bN HB.out) hb); clear BK647; clear HB; have BK647 := n0_; have HB := n1_; clear n0_ n1_; (try clear hb); (try clear hb2); (try clear hk); (try clear hi)))
         have n0_ := m_ (blk_drew BK647.out)
         have n1_ := m_ (below_drew1 HB.out)
         clear BK647
         clear HB
         have BK647 := n0_
         have HB := n1_
         clear n0_ n1_
         refine start_ (n := 14) (S := fun w' => True) (ds := []) #[false, false, false, false, false, false, false, false, false, false, false, false, false, false] (by kernel_rfl) rfl rfl trivial (fun hHeld => ?_); refine with_tabW spec_l6Cmd.tab3 spec_l6Cmd.bits3 (fun HT_ HW_ => ?_)
         generalize w25.drew = w26 at BK647 HB hHeld ⊢
         refine pu 0 28 HT_ (h := ?_)
         refine pu 1 29 HT_ (h := ?_)
         refine pu 2 30 HT_ (h := ?_)
         refine pu 3 31 HT_ (h := ?_)
         refine pu 4 32 HT_ (h := ?_)
         refine pu 5 33 HT_ (h := ?_)
         refine pu 6 34 HT_ (h := ?_)
         refine pu 7 35 HT_ (h := ?_)
         refine pu 8 36 HT_ (h := ?_)
         refine pu 9 37 HT_ (h := ?_)
         refine one_ (i := 10) (N := some 38) #[true, true, true, true, true, true, true, true, true, true, true, false, false, false] rfl rfl (one_of HT_.out (by kernel_rfl)) (by decide) (fun K hK => ?_)
         refine goes_ Tryd.func57 (by kernel_rfl) rfl #[.string (t651.extract 0 ((ji11) : Int).toNat)] (by rfl) rfl rfl (by (try simp only [List.map_toArray, List.map_cons, List.map_nil]); first | done | (simp only [hji11]; rfl) | rfl | (simp only [List.length_drop, List.length_take]; rfl)) ?_
         with_reducible refine (spec_Crc16.calls k (t651.extract 0 ((ji11) : Int).toNat) t652 _ A16.out).mono ?_
         rintro e w' ⟨rfl, ⟨nd, rfl⟩⟩
         refine ⟨_, rfl, ?_⟩
         refine hK.out _ _ trivial (fun hHeld => ?_)
         clear hK K
         refine norm_ (a' := ?_) ?_ ?_
         rotate_left
         ·show Act.put _ (some 38) _ = _
          simp only [Act.put, List.setIfInBounds_toArray, List.set_cons_zero, List.set_cons_succ, i64_w, i32_w]
          rfl
         refine one_ (i := 11) (N := some 39) #[true, true, true, true, true, true, true, true, true, true, true, true, false, false] rfl rfl (one_of HT_.out (by kernel_rfl)) (by decide) (fun K hK => ?_)
         refine goes_ Tryd.func64 (by kernel_rfl) rfl #[.int .i64 t652, .int .i64 2] (by rfl) rfl rfl gl_ ?_
         with_reducible refine (spec_l1Put.calls k t652 2 t653 _ A17.out).mono ?_
         rintro e w27 ⟨rfl, hb⟩
         refine ⟨_, rfl, ?_⟩
         have n0_ := m_ (blk_below (kN BK647.out) hb)
         have n1_ := m_ (below_step (bN HB.out) hb)
         clear BK647
         clear HB
         have BK647 := n0_
         have HB := n1_
         clear n0_ n1_
         (try clear hb)
         (try clear hb2)
         (try clear hk)
         (try clear hi)
         refine hK.out _ _ trivial (fun hHeld => ?_)
         clear hK K
         refine norm_ (a' := ?_) ?_ ?_
         rotate_left
         ·show Act.put _ (some 39) _ = _
          simp only [Act.put, List.setIfInBounds_toArray, List.set_cons_zero, List.set_cons_succ, i64_w, i32_w]
          rfl
         refine pu 12 40 HT_ (h := ?_)
         refine pu 13 2 HT_ (h := ?_)
         refine done_ (done_of HT_.out (by kernel_rfl)) ?_
         try go_wp2
         go_ret
         exact ⟨by first | rfl | (simp [errW_none, errW_some] <;> rfl) | (simp only [← hji11]; first | rfl | (simp [errW_none, errW_some] <;> rfl)) | (simp [*, errW_none, errW_some] <;> rfl), by repeat (first | (with_reducible first | exact HB.out | apply below_alloc | apply pw_below_drewN | apply below_drew1 | refine below_set ?_ GE647.out) | exact HB.out)⟩
        ·rw [if_neg c18] at H
         exact absurd H (by simp)
       ·rw [if_neg c13] at H
        exact absurd H (by simp)
      ·rw [if_neg c12] at H
       exact absurd H (by simp)
     ·rw [if_neg c9] at H
      exact absurd H (by simp)
    ·rw [if_neg c8] at H
     exact absurd H (by simp)
   ·rw [if_neg c7] at H
    exact absurd H (by simp)
  ·rw [if_neg c5] at H
   exact absurd H (by simp)
 ·rw [if_neg c3] at H
  exact absurd H (by simp)

/-! ### spec_CmdPut: function 29 -/
def spec_CmdPut.f (k : Nat) (a0_0 : Int) (a0_1 : Int) (a0_2 : Int) (a0_3 : Int) (a0_4 : Int) (a0_5 : ByteArray) : Option (ByteArray) := (spec_l6CmdOk.f a0_0 a0_1 a0_2 a0_3 a0_4 a0_5).bind fun t655 => (if t655 = true then ((spec_l6Cmd.f k a0_0 a0_1 a0_2 a0_3 a0_4 a0_5).bind fun t656 => (some t656)) else (some (⟨#[]⟩ : ByteArray)))
theorem spec_CmdPut.mono : ∀ a0 a1 a2 a3 a4 a5 k, LeO (spec_CmdPut.f k a0 a1 a2 a3 a4 a5) (spec_CmdPut.f (k + 1) a0 a1 a2 a3 a4 a5) := by
 intro a0 a1 a2 a3 a4 a5 k
 unfold spec_CmdPut.f
 repeat' first
   | (with_reducible exact spec_l6Cmd.mono _ _ _ _ _ _ _)
   | (with_reducible exact LeO.refl _)
   | (with_reducible exact LeO.none _)
   | (with_reducible refine LeO.ite ?_ ?_)
   | (with_reducible refine LeO.bind ?_ (fun _ => ?_))
   | exact spec_l6Cmd.mono _ _ _ _ _ _ _
   | exact LeO.none _
   | refine LeO.ite ?_ ?_
   | refine LeO.bind ?_ (fun _ => ?_)
set_option maxHeartbeats 8000000 in
set_option maxRecDepth 100000 in
theorem spec_CmdPut.calls (k : Nat) (a0_0 : Int) (a0_1 : Int) (a0_2 : Int) (a0_3 : Int) (a0_4 : Int) (a0_5 : ByteArray) (r : ByteArray) (w : World) (h : spec_CmdPut.f k a0_0 a0_1 a0_2 a0_3 a0_4 a0_5 = some r) :
  Calls Tryd.prog 29 #[.agg #[.int .i64 a0_0, .int .i64 a0_1, .int .i64 a0_2, .int .i64 a0_3, .int .i64 a0_4, .string a0_5]] w fun e w' => e = .returned (.string r) ∧ Below w.heap.size w w' := by
 have hu43 := Tryd.underlying43
 have HB := m_ (Below.refl w.heap.size w)
 have H : ((spec_l6CmdOk.f a0_0 a0_1 a0_2 a0_3 a0_4 a0_5).bind fun t655 => (if t655 = true then ((spec_l6Cmd.f k a0_0 a0_1 a0_2 a0_3 a0_4 a0_5).bind fun t656 => (some t656)) else (some (⟨#[]⟩ : ByteArray)))) = some r := h
 clear h
 replace H := Option.bind_eq_some_iff.mp H
 obtain ⟨t655, A20, H⟩ := H
 replace H : (if t655 = true then ((spec_l6Cmd.f k a0_0 a0_1 a0_2 a0_3 a0_4 a0_5).bind fun t656 => (some t656)) else (some (⟨#[]⟩ : ByteArray))) = some r := H
 have A2 := Aside0.mk A20
 clear A20
 by_cases c3 : t655 = true
 ·subst c3
  have H1 : ((spec_l6Cmd.f k a0_0 a0_1 a0_2 a0_3 a0_4 a0_5).bind fun t656 => (some t656)) = some r := by rw [if_pos rfl] at H; exact H
  clear H
  have H := H1
  clear H1
  replace H := Option.bind_eq_some_iff.mp H
  obtain ⟨t656, A40, H⟩ := H
  replace H : (some t656) = some r := H
  have A4 := Aside0.mk A40
  clear A40
  obtain rfl := Option.some.inj H
  go_enter Tryd.func29, Tryd.ntmps29
  go_wp2_with (first | ((with_reducible refine gate_dst (N := 1) rfl ?_); refine box_event ?hg (N := 1) ?hd (cs := #[.int .i64 a0_0, .int .i64 a0_1, .int .i64 a0_2, .int .i64 a0_3, .int .i64 a0_4, .string a0_5]) (t := 43) ?hr ?_; (case hd => rfl); (case hg => rfl); (case hr => first | (go_simp; done) | (go_simp; rfl)); intro gb654 hg w5 hbox hb; have n0_ := m_ (below_step (bN HB.out) hb); have n1_ := m_ (hbox); have n2_ := m_ ((by rw [hg]; exact (below_size (bN HB.out)) : w.heap.size ≤ gb654)); have n3_ := m_ ((by rw [hg]; exact (below_size (bN HB.out)) : w.heap.size ≤ gb654)); clear HB; have HB := n0_; have BK654 := n1_; have GW654 := n2_; have GE654 := n3_; clear n0_ n1_ n2_ n3_; clear hb hbox hg; have hcz6_0 : w5.cell? ⟨gb654, 0, none⟩ = some (.int .i64 a0_0) := (blk_cell BK654.out 0).trans rfl; have hcz6_1 : w5.cell? ⟨gb654, 1, none⟩ = some (.int .i64 a0_1) := (blk_cell BK654.out 1).trans rfl; have hcz6_2 : w5.cell? ⟨gb654, 2, none⟩ = some (.int .i64 a0_2) := (blk_cell BK654.out 2).trans rfl; have hcz6_3 : w5.cell? ⟨gb654, 3, none⟩ = some (.int .i64 a0_3) := (blk_cell BK654.out 3).trans rfl; have hcz6_4 : w5.cell? ⟨gb654, 4, none⟩ = some (.int .i64 a0_4) := (blk_cell BK654.out 4).trans rfl; have hcz6_5 : w5.cell? ⟨gb654, 5, none⟩ = some (.string a0_5) := (blk_cell BK654.out 5).trans rfl; have hfz6_0 := blk_frozen BK654.out 0; have hfz6_1 := blk_frozen BK654.out 1; have hfz6_2 := blk_frozen BK654.out 2; have hfz6_3 := blk_frozen BK654.out 3; have hfz6_4 := blk_frozen BK654.out 4; have hfz6_5 := blk_frozen BK654.out 5) | ((with_reducible refine gate_callee (f := 60) rfl ?_); refine goesL_ (some 4) rfl rfl Tryd.func60 (by kernel_rfl) rfl #[.agg #[.int .i64 a0_0, .int .i64 a0_1, .int .i64 a0_2, .int .i64 a0_3, .int .i64 a0_4, .string a0_5]] rfl gl_ ?_; (with_reducible refine (spec_l6CmdOk.calls a0_0 a0_1 a0_2 a0_3 a0_4 a0_5 true _ A2.out).mono ?_); rintro e w7 ⟨rfl, hb⟩; refine ⟨_, rfl, ?_⟩; have n0_ := m_ (blk_below (kN BK654.out) hb); have n1_ := m_ (below_step (bN HB.out) hb); clear BK654; clear HB; have BK654 := n0_; have HB := n1_; clear n0_ n1_; (try clear hb); (try clear hb2); (try clear hk); (try clear hi); have hcz8_0 : w7.cell? ⟨gb654, 0, none⟩ = some (.int .i64 a0_0) := (blk_cell BK654.out 0).trans rfl; have hcz8_1 : w7.cell? ⟨gb654, 1, none⟩ = some (.int .i64 a0_1) := (blk_cell BK654.out 1).trans rfl; have hcz8_2 : w7.cell? ⟨gb654, 2, none⟩ = some (.int .i64 a0_2) := (blk_cell BK654.out 2).trans rfl; have hcz8_3 : w7.cell? ⟨gb654, 3, none⟩ = some (.int .i64 a0_3) := (blk_cell BK654.out 3).trans rfl; have hcz8_4 : w7.cell? ⟨gb654, 4, none⟩ = some (.int .i64 a0_4) := (blk_cell BK654.out 4).trans rfl; have hcz8_5 : w7.cell? ⟨gb654, 5, none⟩ = some (.string a0_5) := (blk_cell BK654.out 5).trans rfl; have hfz8_0 := blk_frozen BK654.out 0; have hfz8_1 := blk_frozen BK654.out 1; have hfz8_2 := blk_frozen BK654.out 2; have hfz8_3 := blk_frozen BK654.out 3; have hfz8_4 := blk_frozen BK654.out 4; have hfz8_5 := blk_frozen BK654.out 5) | ((with_reducible refine gate_callee (f := 61) rfl ?_); refine goesL_ (some 7) rfl rfl Tryd.func61 (by kernel_rfl) rfl #[.agg #[.int .i64 a0_0, .int .i64 a0_1, .int .i64 a0_2, .int .i64 a0_3, .int .i64 a0_4, .string a0_5]] rfl gl_ ?_; (with_reducible refine (spec_l6Cmd.calls k a0_0 a0_1 a0_2 a0_3 a0_4 a0_5 t656 _ A4.out).mono ?_); rintro e w9 ⟨rfl, hb⟩; refine ⟨_, rfl, ?_⟩; have n0_ := m_ (blk_below (kN BK654.out) hb); have n1_ := m_ (below_step (bN HB.out) hb); clear BK654; clear HB; have BK654 := n0_; have HB := n1_; clear n0_ n1_; (try clear hb); (try clear hb2); (try clear hk); (try clear hi)))
  go_ret
  exact ⟨by first | rfl | (simp [errW_none, errW_some] <;> rfl) | (simp [*, errW_none, errW_some] <;> rfl), by repeat (first | (with_reducible first | exact HB.out | apply below_alloc | apply pw_below_drewN | apply below_drew1 | refine below_set ?_ GE654.out) | exact HB.out)⟩
 ·replace c3 := Bool.eq_false_iff.mpr c3
  subst c3
  have H1 : (some (⟨#[]⟩ : ByteArray)) = some r := by rw [if_neg (show ¬ (false = true) by decide)] at H; exact H
  clear H
  have H := H1
  clear H1
  obtain rfl := Option.some.inj H
  go_enter Tryd.func29, Tryd.ntmps29
  go_wp2_with (first | ((with_reducible refine gate_dst (N := 1) rfl ?_); refine box_event ?hg (N := 1) ?hd (cs := #[.int .i64 a0_0, .int .i64 a0_1, .int .i64 a0_2, .int .i64 a0_3, .int .i64 a0_4, .string a0_5]) (t := 43) ?hr ?_; (case hd => rfl); (case hg => rfl); (case hr => first | (go_simp; done) | (go_simp; rfl)); intro gb654 hg w10 hbox hb; have n0_ := m_ (below_step (bN HB.out) hb); have n1_ := m_ (hbox); have n2_ := m_ ((by rw [hg]; exact (below_size (bN HB.out)) : w.heap.size ≤ gb654)); have n3_ := m_ ((by rw [hg]; exact (below_size (bN HB.out)) : w.heap.size ≤ gb654)); clear HB; have HB := n0_; have BK654 := n1_; have GW654 := n2_; have GE654 := n3_; clear n0_ n1_ n2_ n3_; clear hb hbox hg; have hcz11_0 : w10.cell? ⟨gb654, 0, none⟩ = some (.int .i64 a0_0) := (blk_cell BK654.out 0).trans rfl; have hcz11_1 : w10.cell? ⟨gb654, 1, none⟩ = some (.int .i64 a0_1) := (blk_cell BK654.out 1).trans rfl; have hcz11_2 : w10.cell? ⟨gb654, 2, none⟩ = some (.int .i64 a0_2) := (blk_cell BK654.out 2).trans rfl; have hcz11_3 : w10.cell? ⟨gb654, 3, none⟩ = some (.int .i64 a0_3) := (blk_cell BK654.out 3).trans rfl; have hcz11_4 : w10.cell? ⟨gb654, 4, none⟩ = some (.int .i64 a0_4) := (blk_cell BK654.out 4).trans rfl; have hcz11_5 : w10.cell? ⟨gb654, 5, none⟩ = some (.string a0_5) := (blk_cell BK654.out 5).trans rfl; have hfz11_0 := blk_frozen BK654.out 0; have hfz11_1 := blk_frozen BK654.out 1; have hfz11_2 := blk_frozen BK654.out 2; have hfz11_3 := blk_frozen BK654.out 3; have hfz11_4 := blk_frozen BK654.out 4; have hfz11_5 := blk_frozen BK654.out 5) | ((with_reducible refine gate_callee (f := 60) rfl ?_); refine goesL_ (some 4) rfl rfl Tryd.func60 (by kernel_rfl) rfl #[.agg #[.int .i64 a0_0, .int .i64 a0_1, .int .i64 a0_2, .int .i64 a0_3, .int .i64 a0_4, .string a0_5]] rfl gl_ ?_; (with_reducible refine (spec_l6CmdOk.calls a0_0 a0_1 a0_2 a0_3 a0_4 a0_5 false _ A2.out).mono ?_); rintro e w12 ⟨rfl, hb⟩; refine ⟨_, rfl, ?_⟩; have n0_ := m_ (blk_below (kN BK654.out) hb); have n1_ := m_ (below_step (bN HB.out) hb); clear BK654; clear HB; have BK654 := n0_; have HB := n1_; clear n0_ n1_; (try clear hb); (try clear hb2); (try clear hk); (try clear hi)))
  go_ret
  exact ⟨by first | rfl | (simp [errW_none, errW_some] <;> rfl) | (simp [*, errW_none, errW_some] <;> rfl), by repeat (first | (with_reducible first | exact HB.out | apply below_alloc | apply pw_below_drewN | apply below_drew1 | refine below_set ?_ GE654.out) | exact HB.out)⟩

end Go.Proofs.YtllchgipnfdneaaDoor.P
