/- The machine side of these statements, function by function: what each Go function answers (as a Lean function), and that it does. Written by a program (mp.py) for this claim. -/
import Derived.Test.YtcenmlpfbpogoaaDoorPx0
import Derived.Test.YtcenmlpfbpogoaaDoorPx3
import Derived.Test.YtcenmlpfbpogoaaDoorPx8
import Derived.Test.YtcenmlpfbpogoaaDoorPx12
namespace Go.Proofs.YtcenmlpfbpogoaaDoor.P
open Go.RowKit Go.Proofs.YtcenmlpfbpogoaaDoorW.PrintWords Go.Proofs.YtcenmlpfbpogoaaDoorW.PrintLast Go.Proofs.YtcenmlpfbpogoaaDoorW.PrintMore
attribute [local go_sem] max2_int min2_int max_two min_two max_three min_three max_four min_four   -- for this text's walks alone
set_option linter.unusedVariables false
set_option linter.unusedSimpArgs false

/-! ### spec_l11Turn: function 26 -/
def spec_l11Turn.f (a0_0 : Int) (a0_1 : Int) (l0_2 : List (List (S107))) (l0_3 : List Int) (l0_4 : List Int) (l0_5 : List Int) (l0_6 : List Int) (l0_7 : List Int) (l0_8 : List (S78)) (a0_9 : Int) (a1 : Int) (a2 : Int) : Option (Int) := if a1 = 1 then (if 0 ≤ a2 then (if a2 < (l0_6.length : Int) then (some (rd l0_6 a2)) else (none)) else (none)) else (if 0 ≤ a2 then (if a2 < (l0_5.length : Int) then (some (rd l0_5 a2)) else (none)) else (none))
set_option maxHeartbeats 8000000 in
set_option maxRecDepth 100000 in
theorem spec_l11Turn.calls (a0_0 : Int) (a0_1 : Int) (A0_2 : Option Addr) (c0_2 : Nat) (l0_2 : List (List (S107))) (A0_3 : Option Addr) (c0_3 : Nat) (l0_3 : List Int) (A0_4 : Option Addr) (c0_4 : Nat) (l0_4 : List Int) (A0_5 : Option Addr) (c0_5 : Nat) (l0_5 : List Int) (A0_6 : Option Addr) (c0_6 : Nat) (l0_6 : List Int) (A0_7 : Option Addr) (c0_7 : Nat) (l0_7 : List Int) (A0_8 : Option Addr) (c0_8 : Nat) (l0_8 : List (S78)) (a0_9 : Int) (a1 : Int) (a2 : Int) (r : Int) (w : World) (hr0_2 : Kd.C (Kd.slice 107 k107) w A0_2 l0_2.length l0_2) (hc0_2 : l0_2.length ≤ c0_2) (hr0_3 : Kd.C (Kd.int .i64) w A0_3 l0_3.length l0_3) (hc0_3 : l0_3.length ≤ c0_3) (hr0_4 : Kd.C (Kd.int .i64) w A0_4 l0_4.length l0_4) (hc0_4 : l0_4.length ≤ c0_4) (hr0_5 : Kd.C (Kd.int .i64) w A0_5 l0_5.length l0_5) (hc0_5 : l0_5.length ≤ c0_5) (hr0_6 : Kd.C (Kd.int .i64) w A0_6 l0_6.length l0_6) (hc0_6 : l0_6.length ≤ c0_6) (hr0_7 : Kd.C (Kd.int .i64) w A0_7 l0_7.length l0_7) (hc0_7 : l0_7.length ≤ c0_7) (hr0_8 : Kd.C k78 w A0_8 l0_8.length l0_8) (hc0_8 : l0_8.length ≤ c0_8) (h : spec_l11Turn.f a0_0 a0_1 l0_2 l0_3 l0_4 l0_5 l0_6 l0_7 l0_8 a0_9 a1 a2 = some r) :
  Calls Tryd.prog 26 #[.agg #[.int .i64 a0_0, .int .i64 a0_1, .slice A0_2 l0_2.length c0_2, .slice A0_3 l0_3.length c0_3, .slice A0_4 l0_4.length c0_4, .slice A0_5 l0_5.length c0_5, .slice A0_6 l0_6.length c0_6, .slice A0_7 l0_7.length c0_7, .slice A0_8 l0_8.length c0_8, .int .i64 a0_9], .int .i64 a1, .int .i64 a2] w fun e w' => e = .returned (.int .i64 r) ∧ Below w.heap.size w w' := by
 have hu32 := Tryd.underlying32
 have HR0_2 := Aside0.mk hr0_2
 have HC0_2 := Aside0.mk hc0_2
 clear hr0_2 hc0_2
 have HR0_3 := Aside0.mk hr0_3
 have HC0_3 := Aside0.mk hc0_3
 clear hr0_3 hc0_3
 have HR0_4 := Aside0.mk hr0_4
 have HC0_4 := Aside0.mk hc0_4
 clear hr0_4 hc0_4
 have HR0_5 := Aside0.mk hr0_5
 have HC0_5 := Aside0.mk hc0_5
 clear hr0_5 hc0_5
 have HR0_6 := Aside0.mk hr0_6
 have HC0_6 := Aside0.mk hc0_6
 clear hr0_6 hc0_6
 have HR0_7 := Aside0.mk hr0_7
 have HC0_7 := Aside0.mk hc0_7
 clear hr0_7 hc0_7
 have HR0_8 := Aside0.mk hr0_8
 have HC0_8 := Aside0.mk hc0_8
 clear hr0_8 hc0_8
 have HB := m_ (Below.refl w.heap.size w)
 have H : (if a1 = 1 then (if 0 ≤ a2 then (if a2 < (l0_6.length : Int) then (some (rd l0_6 a2)) else (none)) else (none)) else (if 0 ≤ a2 then (if a2 < (l0_5.length : Int) then (some (rd l0_5 a2)) else (none)) else (none))) = some r := h
 clear h
 by_cases c4 : a1 = 1
 ·rw [if_pos c4] at H
  have c4b0 : (a1 == 1) = true := beq_iff_eq.mpr c4
  have c4b1 : (a1 != 1) = false := bne_eq_false_iff_eq.mpr c4
  clear c4
  by_cases c5 : 0 ≤ a2
  ·rw [if_pos c5] at H
   have c5b0 : decide (0 ≤ a2) = true := decide_eq_true c5
   clear c5
   by_cases c6 : a2 < (l0_6.length : Int)
   ·rw [if_pos c6] at H
    have c6b0 : decide (a2 < (l0_6.length : Int)) = true := decide_eq_true c6
    clear c6
    obtain rfl := Option.some.inj H
    go_enter Tryd.func26, Tryd.ntmps26
    go_wp2_with (first | ((with_reducible refine gate_dst (N := 3) rfl ?_); refine box_event ?hg (N := 3) ?hd (cs := #[.int .i64 a0_0, .int .i64 a0_1, .slice A0_2 l0_2.length c0_2, .slice A0_3 l0_3.length c0_3, .slice A0_4 l0_4.length c0_4, .slice A0_5 l0_5.length c0_5, .slice A0_6 l0_6.length c0_6, .slice A0_7 l0_7.length c0_7, .slice A0_8 l0_8.length c0_8, .int .i64 a0_9]) (t := 32) ?hr ?_; (case hd => rfl); (case hg => rfl); (case hr => first | (go_simp; done) | (go_simp; rfl)); intro gb446 hg w7 hbox hb; have n0_ := m_ (below_step (bN HB.out) hb); have n1_ := m_ (hbox); have n2_ := m_ ((by rw [hg]; exact (below_size (bN HB.out)) : w.heap.size ≤ gb446)); have n3_ := m_ ((by rw [hg]; exact (below_size (bN HB.out)) : w.heap.size ≤ gb446)); clear HB; have HB := n0_; have BK446 := n1_; have GW446 := n2_; have GE446 := n3_; clear n0_ n1_ n2_ n3_; clear hb hbox hg; have hcz8_0 : w7.cell? ⟨gb446, 0, none⟩ = some (.int .i64 a0_0) := bc BK446 0; have hcz8_1 : w7.cell? ⟨gb446, 1, none⟩ = some (.int .i64 a0_1) := bc BK446 1; have hcz8_2 : w7.cell? ⟨gb446, 2, none⟩ = some (.slice A0_2 l0_2.length c0_2) := bc BK446 2; have hcz8_3 : w7.cell? ⟨gb446, 3, none⟩ = some (.slice A0_3 l0_3.length c0_3) := bc BK446 3; have hcz8_4 : w7.cell? ⟨gb446, 4, none⟩ = some (.slice A0_4 l0_4.length c0_4) := bc BK446 4; have hcz8_5 : w7.cell? ⟨gb446, 5, none⟩ = some (.slice A0_5 l0_5.length c0_5) := bc BK446 5; have hcz8_6 : w7.cell? ⟨gb446, 6, none⟩ = some (.slice A0_6 l0_6.length c0_6) := bc BK446 6; have hcz8_7 : w7.cell? ⟨gb446, 7, none⟩ = some (.slice A0_7 l0_7.length c0_7) := bc BK446 7; have hcz8_8 : w7.cell? ⟨gb446, 8, none⟩ = some (.slice A0_8 l0_8.length c0_8) := bc BK446 8; have hcz8_9 : w7.cell? ⟨gb446, 9, none⟩ = some (.int .i64 a0_9) := bc BK446 9; have hfz8_0 := blk_frozen BK446.out 0; have hfz8_1 := blk_frozen BK446.out 1; have hfz8_2 := blk_frozen BK446.out 2; have hfz8_3 := blk_frozen BK446.out 3; have hfz8_4 := blk_frozen BK446.out 4; have hfz8_5 := blk_frozen BK446.out 5; have hfz8_6 := blk_frozen BK446.out 6; have hfz8_7 := blk_frozen BK446.out 7; have hfz8_8 := blk_frozen BK446.out 8; have hfz8_9 := blk_frozen BK446.out 9; have p447 : 0 ≤ (a2 : Int) := of_decide_eq_true (by first | (with_reducible assumption) | assumption); have q447 : a2 < (l0_6.length : Int) := of_decide_eq_true (by first | (with_reducible assumption) | assumption); obtain ⟨ad447, e447, hx447_0⟩ := Kd.at_int HR0_6.out a2 p447 q447; cases e447; replace hx447_0 := (HB.out.cell (World.block_lt_of_cell? w _ hx447_0)).trans hx447_0; replace p447 := eq_true p447; replace q447 := eq_true q447))
    go_ret
    exact ⟨by first | rfl | (simp [errW_none, errW_some] <;> rfl) | (simp [*, errW_none, errW_some] <;> rfl), by repeat (first | (with_reducible first | exact HB.out | apply below_alloc | apply pw_below_drewN | apply below_drew1 | refine below_set ?_ GE446.out) | exact HB.out)⟩
   ·rw [if_neg c6] at H
    exact absurd H (by simp)
  ·rw [if_neg c5] at H
   exact absurd H (by simp)
 ·rw [if_neg c4] at H
  have c4b0 : (a1 == 1) = false := beq_eq_false_iff_ne.mpr c4
  have c4b1 : (a1 != 1) = true := bne_iff_ne.mpr c4
  by_cases c9 : 0 ≤ a2
  ·rw [if_pos c9] at H
   have c9b0 : decide (0 ≤ a2) = true := decide_eq_true c9
   clear c9
   by_cases c10 : a2 < (l0_5.length : Int)
   ·rw [if_pos c10] at H
    have c10b0 : decide (a2 < (l0_5.length : Int)) = true := decide_eq_true c10
    clear c10
    obtain rfl := Option.some.inj H
    go_enter Tryd.func26, Tryd.ntmps26
    go_wp2_with (first | ((with_reducible refine gate_dst (N := 3) rfl ?_); refine box_event ?hg (N := 3) ?hd (cs := #[.int .i64 a0_0, .int .i64 a0_1, .slice A0_2 l0_2.length c0_2, .slice A0_3 l0_3.length c0_3, .slice A0_4 l0_4.length c0_4, .slice A0_5 l0_5.length c0_5, .slice A0_6 l0_6.length c0_6, .slice A0_7 l0_7.length c0_7, .slice A0_8 l0_8.length c0_8, .int .i64 a0_9]) (t := 32) ?hr ?_; (case hd => rfl); (case hg => rfl); (case hr => first | (go_simp; done) | (go_simp; rfl)); intro gb446 hg w11 hbox hb; have n0_ := m_ (below_step (bN HB.out) hb); have n1_ := m_ (hbox); have n2_ := m_ ((by rw [hg]; exact (below_size (bN HB.out)) : w.heap.size ≤ gb446)); have n3_ := m_ ((by rw [hg]; exact (below_size (bN HB.out)) : w.heap.size ≤ gb446)); clear HB; have HB := n0_; have BK446 := n1_; have GW446 := n2_; have GE446 := n3_; clear n0_ n1_ n2_ n3_; clear hb hbox hg; have hcz12_0 : w11.cell? ⟨gb446, 0, none⟩ = some (.int .i64 a0_0) := bc BK446 0; have hcz12_1 : w11.cell? ⟨gb446, 1, none⟩ = some (.int .i64 a0_1) := bc BK446 1; have hcz12_2 : w11.cell? ⟨gb446, 2, none⟩ = some (.slice A0_2 l0_2.length c0_2) := bc BK446 2; have hcz12_3 : w11.cell? ⟨gb446, 3, none⟩ = some (.slice A0_3 l0_3.length c0_3) := bc BK446 3; have hcz12_4 : w11.cell? ⟨gb446, 4, none⟩ = some (.slice A0_4 l0_4.length c0_4) := bc BK446 4; have hcz12_5 : w11.cell? ⟨gb446, 5, none⟩ = some (.slice A0_5 l0_5.length c0_5) := bc BK446 5; have hcz12_6 : w11.cell? ⟨gb446, 6, none⟩ = some (.slice A0_6 l0_6.length c0_6) := bc BK446 6; have hcz12_7 : w11.cell? ⟨gb446, 7, none⟩ = some (.slice A0_7 l0_7.length c0_7) := bc BK446 7; have hcz12_8 : w11.cell? ⟨gb446, 8, none⟩ = some (.slice A0_8 l0_8.length c0_8) := bc BK446 8; have hcz12_9 : w11.cell? ⟨gb446, 9, none⟩ = some (.int .i64 a0_9) := bc BK446 9; have hfz12_0 := blk_frozen BK446.out 0; have hfz12_1 := blk_frozen BK446.out 1; have hfz12_2 := blk_frozen BK446.out 2; have hfz12_3 := blk_frozen BK446.out 3; have hfz12_4 := blk_frozen BK446.out 4; have hfz12_5 := blk_frozen BK446.out 5; have hfz12_6 := blk_frozen BK446.out 6; have hfz12_7 := blk_frozen BK446.out 7; have hfz12_8 := blk_frozen BK446.out 8; have hfz12_9 := blk_frozen BK446.out 9; have p448 : 0 ≤ (a2 : Int) := of_decide_eq_true (by first | (with_reducible assumption) | assumption); have q448 : a2 < (l0_5.length : Int) := of_decide_eq_true (by first | (with_reducible assumption) | assumption); obtain ⟨ad448, e448, hx448_0⟩ := Kd.at_int HR0_5.out a2 p448 q448; cases e448; replace hx448_0 := (HB.out.cell (World.block_lt_of_cell? w _ hx448_0)).trans hx448_0; replace p448 := eq_true p448; replace q448 := eq_true q448))
    go_ret
    exact ⟨by first | rfl | (simp [errW_none, errW_some] <;> rfl) | (simp [*, errW_none, errW_some] <;> rfl), by repeat (first | (with_reducible first | exact HB.out | apply below_alloc | apply pw_below_drewN | apply below_drew1 | refine below_set ?_ GE446.out) | exact HB.out)⟩
   ·rw [if_neg c10] at H
    exact absurd H (by simp)
  ·rw [if_neg c9] at H
   exact absurd H (by simp)

/-! ### spec_ConfTurn: function 10 -/
def spec_ConfTurn.f (k : Nat) (a0_0 : Int) (a0_1 : Int) (l0_2 : List (List (S107))) (l0_3 : List Int) (l0_4 : List Int) (l0_5 : List Int) (l0_6 : List Int) (l0_7 : List Int) (l0_8 : List (S78)) (a0_9 : Int) (a1 : Int) (a2 : Int) : Option (Int) := (spec_ConfCheck.f k a0_0 a0_1 l0_2 l0_3 l0_4 l0_5 l0_6 l0_7 l0_8 a0_9).bind fun t450 => (if t450 = 0 then ((spec_l1In.f a1 0 1).bind fun t451 => (if t451 = true then ((spec_l1In.f a2 0 (wrap64 ((l0_5.length : Int) - 1))).bind fun t452 => (if t452 = true then ((spec_l11Turn.f a0_0 a0_1 l0_2 l0_3 l0_4 l0_5 l0_6 l0_7 l0_8 a0_9 a1 a2).bind fun t453 => (some t453)) else (some (-1)))) else (some (-1)))) else (some (-1)))
theorem spec_ConfTurn.mono : ∀ a0 a1 a2 a3 a4 a5 a6 a7 a8 a9 a10 a11 k, LeO (spec_ConfTurn.f k a0 a1 a2 a3 a4 a5 a6 a7 a8 a9 a10 a11) (spec_ConfTurn.f (k + 1) a0 a1 a2 a3 a4 a5 a6 a7 a8 a9 a10 a11) := by
 intro a0 a1 a2 a3 a4 a5 a6 a7 a8 a9 a10 a11 k
 unfold spec_ConfTurn.f
 repeat' first
   | (with_reducible exact spec_ConfCheck.mono _ _ _ _ _ _ _ _ _ _ _)
   | (with_reducible exact LeO.refl _)
   | (with_reducible exact LeO.none _)
   | (with_reducible refine LeO.ite ?_ ?_)
   | (with_reducible refine LeO.bind ?_ (fun _ => ?_))
   | exact spec_ConfCheck.mono _ _ _ _ _ _ _ _ _ _ _
   | exact LeO.none _
   | refine LeO.ite ?_ ?_
   | refine LeO.bind ?_ (fun _ => ?_)
set_option maxHeartbeats 8000000 in
set_option maxRecDepth 100000 in
theorem spec_ConfTurn.calls (k : Nat) (a0_0 : Int) (a0_1 : Int) (A0_2 : Option Addr) (c0_2 : Nat) (l0_2 : List (List (S107))) (A0_3 : Option Addr) (c0_3 : Nat) (l0_3 : List Int) (A0_4 : Option Addr) (c0_4 : Nat) (l0_4 : List Int) (A0_5 : Option Addr) (c0_5 : Nat) (l0_5 : List Int) (A0_6 : Option Addr) (c0_6 : Nat) (l0_6 : List Int) (A0_7 : Option Addr) (c0_7 : Nat) (l0_7 : List Int) (A0_8 : Option Addr) (c0_8 : Nat) (l0_8 : List (S78)) (a0_9 : Int) (a1 : Int) (a2 : Int) (r : Int) (w : World) (hr0_2 : Kd.C (Kd.slice 107 k107) w A0_2 l0_2.length l0_2) (hc0_2 : l0_2.length ≤ c0_2) (hr0_3 : Kd.C (Kd.int .i64) w A0_3 l0_3.length l0_3) (hc0_3 : l0_3.length ≤ c0_3) (hr0_4 : Kd.C (Kd.int .i64) w A0_4 l0_4.length l0_4) (hc0_4 : l0_4.length ≤ c0_4) (hr0_5 : Kd.C (Kd.int .i64) w A0_5 l0_5.length l0_5) (hc0_5 : l0_5.length ≤ c0_5) (hr0_6 : Kd.C (Kd.int .i64) w A0_6 l0_6.length l0_6) (hc0_6 : l0_6.length ≤ c0_6) (hr0_7 : Kd.C (Kd.int .i64) w A0_7 l0_7.length l0_7) (hc0_7 : l0_7.length ≤ c0_7) (hr0_8 : Kd.C k78 w A0_8 l0_8.length l0_8) (hc0_8 : l0_8.length ≤ c0_8) (h : spec_ConfTurn.f k a0_0 a0_1 l0_2 l0_3 l0_4 l0_5 l0_6 l0_7 l0_8 a0_9 a1 a2 = some r) :
  Calls Tryd.prog 10 #[.agg #[.int .i64 a0_0, .int .i64 a0_1, .slice A0_2 l0_2.length c0_2, .slice A0_3 l0_3.length c0_3, .slice A0_4 l0_4.length c0_4, .slice A0_5 l0_5.length c0_5, .slice A0_6 l0_6.length c0_6, .slice A0_7 l0_7.length c0_7, .slice A0_8 l0_8.length c0_8, .int .i64 a0_9], .int .i64 a1, .int .i64 a2] w fun e w' => e = .returned (.int .i64 r) ∧ Below w.heap.size w w' := by
 have hu32 := Tryd.underlying32
 have HR0_2 := Aside0.mk hr0_2
 have HC0_2 := Aside0.mk hc0_2
 clear hr0_2 hc0_2
 have HR0_3 := Aside0.mk hr0_3
 have HC0_3 := Aside0.mk hc0_3
 clear hr0_3 hc0_3
 have HR0_4 := Aside0.mk hr0_4
 have HC0_4 := Aside0.mk hc0_4
 clear hr0_4 hc0_4
 have HR0_5 := Aside0.mk hr0_5
 have HC0_5 := Aside0.mk hc0_5
 clear hr0_5 hc0_5
 have HR0_6 := Aside0.mk hr0_6
 have HC0_6 := Aside0.mk hc0_6
 clear hr0_6 hc0_6
 have HR0_7 := Aside0.mk hr0_7
 have HC0_7 := Aside0.mk hc0_7
 clear hr0_7 hc0_7
 have HR0_8 := Aside0.mk hr0_8
 have HC0_8 := Aside0.mk hc0_8
 clear hr0_8 hc0_8
 have HB := m_ (Below.refl w.heap.size w)
 have H : ((spec_ConfCheck.f k a0_0 a0_1 l0_2 l0_3 l0_4 l0_5 l0_6 l0_7 l0_8 a0_9).bind fun t450 => (if t450 = 0 then ((spec_l1In.f a1 0 1).bind fun t451 => (if t451 = true then ((spec_l1In.f a2 0 (wrap64 ((l0_5.length : Int) - 1))).bind fun t452 => (if t452 = true then ((spec_l11Turn.f a0_0 a0_1 l0_2 l0_3 l0_4 l0_5 l0_6 l0_7 l0_8 a0_9 a1 a2).bind fun t453 => (some t453)) else (some (-1)))) else (some (-1)))) else (some (-1)))) = some r := h
 clear h
 replace H := Option.bind_eq_some_iff.mp H
 obtain ⟨t450, A40, H⟩ := H
 replace H : (if t450 = 0 then ((spec_l1In.f a1 0 1).bind fun t451 => (if t451 = true then ((spec_l1In.f a2 0 (wrap64 ((l0_5.length : Int) - 1))).bind fun t452 => (if t452 = true then ((spec_l11Turn.f a0_0 a0_1 l0_2 l0_3 l0_4 l0_5 l0_6 l0_7 l0_8 a0_9 a1 a2).bind fun t453 => (some t453)) else (some (-1)))) else (some (-1)))) else (some (-1))) = some r := H
 have A4 := Aside0.mk A40
 clear A40
 by_cases c5 : t450 = 0
 ·rw [if_pos c5] at H
  have c5b0 : (t450 == 0) = true := beq_iff_eq.mpr c5
  have c5b1 : (t450 != 0) = false := bne_eq_false_iff_eq.mpr c5
  clear c5
  replace H := Option.bind_eq_some_iff.mp H
  obtain ⟨t451, A60, H⟩ := H
  replace H : (if t451 = true then ((spec_l1In.f a2 0 (wrap64 ((l0_5.length : Int) - 1))).bind fun t452 => (if t452 = true then ((spec_l11Turn.f a0_0 a0_1 l0_2 l0_3 l0_4 l0_5 l0_6 l0_7 l0_8 a0_9 a1 a2).bind fun t453 => (some t453)) else (some (-1)))) else (some (-1))) = some r := H
  have A6 := Aside0.mk A60
  clear A60
  by_cases c7 : t451 = true
  ·subst c7
   have H1 : ((spec_l1In.f a2 0 (wrap64 ((l0_5.length : Int) - 1))).bind fun t452 => (if t452 = true then ((spec_l11Turn.f a0_0 a0_1 l0_2 l0_3 l0_4 l0_5 l0_6 l0_7 l0_8 a0_9 a1 a2).bind fun t453 => (some t453)) else (some (-1)))) = some r := by rw [if_pos rfl] at H; exact H
   clear H
   have H := H1
   clear H1
   replace H := Option.bind_eq_some_iff.mp H
   obtain ⟨t452, A80, H⟩ := H
   replace H : (if t452 = true then ((spec_l11Turn.f a0_0 a0_1 l0_2 l0_3 l0_4 l0_5 l0_6 l0_7 l0_8 a0_9 a1 a2).bind fun t453 => (some t453)) else (some (-1))) = some r := H
   have A8 := Aside0.mk A80
   clear A80
   by_cases c9 : t452 = true
   ·subst c9
    have H1 : ((spec_l11Turn.f a0_0 a0_1 l0_2 l0_3 l0_4 l0_5 l0_6 l0_7 l0_8 a0_9 a1 a2).bind fun t453 => (some t453)) = some r := by rw [if_pos rfl] at H; exact H
    clear H
    have H := H1
    clear H1
    replace H := Option.bind_eq_some_iff.mp H
    obtain ⟨t453, A100, H⟩ := H
    replace H : (some t453) = some r := H
    have A10 := Aside0.mk A100
    clear A100
    obtain rfl := Option.some.inj H
    go_enter Tryd.func10, Tryd.ntmps10
    go_wp2_with (first | ((with_reducible refine gate_dst (N := 3) rfl ?_); (try (refine gate_guard (by rfl) ?_; dsimp only)); refine box_event ?hg (N := 3) ?hd (cs := #[.int .i64 a0_0, .int .i64 a0_1, .slice A0_2 l0_2.length c0_2, .slice A0_3 l0_3.length c0_3, .slice A0_4 l0_4.length c0_4, .slice A0_5 l0_5.length c0_5, .slice A0_6 l0_6.length c0_6, .slice A0_7 l0_7.length c0_7, .slice A0_8 l0_8.length c0_8, .int .i64 a0_9]) (t := 32) ?hr ?_; (case hd => rfl); (case hg => rfl); (case hr => first | (go_simp; done) | (go_simp; rfl)); intro gb449 hg w11 hbox hb; have n0_ := m_ (below_step (bN HB.out) hb); have n1_ := m_ (hbox); have n2_ := m_ ((by rw [hg]; exact (below_size (bN HB.out)) : w.heap.size ≤ gb449)); have n3_ := m_ ((by rw [hg]; exact (below_size (bN HB.out)) : w.heap.size ≤ gb449)); clear HB; have HB := n0_; have BK449 := n1_; have GW449 := n2_; have GE449 := n3_; clear n0_ n1_ n2_ n3_; clear hb hbox hg; have hcz12_0 : w11.cell? ⟨gb449, 0, none⟩ = some (.int .i64 a0_0) := bc BK449 0; have hcz12_1 : w11.cell? ⟨gb449, 1, none⟩ = some (.int .i64 a0_1) := bc BK449 1; have hcz12_2 : w11.cell? ⟨gb449, 2, none⟩ = some (.slice A0_2 l0_2.length c0_2) := bc BK449 2; have hcz12_3 : w11.cell? ⟨gb449, 3, none⟩ = some (.slice A0_3 l0_3.length c0_3) := bc BK449 3; have hcz12_4 : w11.cell? ⟨gb449, 4, none⟩ = some (.slice A0_4 l0_4.length c0_4) := bc BK449 4; have hcz12_5 : w11.cell? ⟨gb449, 5, none⟩ = some (.slice A0_5 l0_5.length c0_5) := bc BK449 5; have hcz12_6 : w11.cell? ⟨gb449, 6, none⟩ = some (.slice A0_6 l0_6.length c0_6) := bc BK449 6; have hcz12_7 : w11.cell? ⟨gb449, 7, none⟩ = some (.slice A0_7 l0_7.length c0_7) := bc BK449 7; have hcz12_8 : w11.cell? ⟨gb449, 8, none⟩ = some (.slice A0_8 l0_8.length c0_8) := bc BK449 8; have hcz12_9 : w11.cell? ⟨gb449, 9, none⟩ = some (.int .i64 a0_9) := bc BK449 9; have hfz12_0 := blk_frozen BK449.out 0; have hfz12_1 := blk_frozen BK449.out 1; have hfz12_2 := blk_frozen BK449.out 2; have hfz12_3 := blk_frozen BK449.out 3; have hfz12_4 := blk_frozen BK449.out 4; have hfz12_5 := blk_frozen BK449.out 5; have hfz12_6 := blk_frozen BK449.out 6; have hfz12_7 := blk_frozen BK449.out 7; have hfz12_8 := blk_frozen BK449.out 8; have hfz12_9 := blk_frozen BK449.out 9) | ((with_reducible refine gate_callee (f := 16) rfl ?_); refine goesL_ (some 8) rfl rfl Tryd.func16 (by kernel_rfl) rfl #[.agg #[.int .i64 a0_0, .int .i64 a0_1, .slice A0_2 l0_2.length c0_2, .slice A0_3 l0_3.length c0_3, .slice A0_4 l0_4.length c0_4, .slice A0_5 l0_5.length c0_5, .slice A0_6 l0_6.length c0_6, .slice A0_7 l0_7.length c0_7, .slice A0_8 l0_8.length c0_8, .int .i64 a0_9]] rfl gl_ ?_; (with_reducible refine (spec_ConfCheck.calls k a0_0 a0_1 _ _ l0_2 _ _ l0_3 _ _ l0_4 _ _ l0_5 _ _ l0_6 _ _ l0_7 _ _ l0_8 a0_9 t450 _ ?side1 ?side2 ?side3 ?side4 ?side5 ?side6 ?side7 ?side8 ?side9 ?side10 ?side11 ?side12 ?side13 ?side14 A4.out).mono ?_); (case side1 => exact cN (Kd.C_below HR0_2.out HB.out)); (case side2 => exact HC0_2.out); (case side3 => exact cN (Kd.C_below HR0_3.out HB.out)); (case side4 => exact HC0_3.out); (case side5 => exact cN (Kd.C_below HR0_4.out HB.out)); (case side6 => exact HC0_4.out); (case side7 => exact cN (Kd.C_below HR0_5.out HB.out)); (case side8 => exact HC0_5.out); (case side9 => exact cN (Kd.C_below HR0_6.out HB.out)); (case side10 => exact HC0_6.out); (case side11 => exact cN (Kd.C_below HR0_7.out HB.out)); (case side12 => exact HC0_7.out); (case side13 => exact cN (Kd.C_below HR0_8.out HB.out)); (case side14 => exact HC0_8.out); rintro e w13 ⟨rfl, hb⟩; refine ⟨_, rfl, ?_⟩; have n0_ := m_ (blk_below (kN BK449.out) hb); have n1_ := m_ (below_step (bN HB.out) hb); clear BK449; clear HB; have BK449 := n0_; have HB := n1_; clear n0_ n1_; (try clear hb); (try clear hb2); (try clear hk); (try clear hi)) | (go_at_call 25; (with_reducible refine (spec_l1In.calls a1 0 1 true _ A6.out).mono ?_); rintro e w' ⟨rfl, ⟨nd, rfl⟩⟩; have hcz14_0 : w13.cell? ⟨gb449, 0, none⟩ = some (.int .i64 a0_0) := bc BK449 0; have hcz14_1 : w13.cell? ⟨gb449, 1, none⟩ = some (.int .i64 a0_1) := bc BK449 1; have hcz14_2 : w13.cell? ⟨gb449, 2, none⟩ = some (.slice A0_2 l0_2.length c0_2) := bc BK449 2; have hcz14_3 : w13.cell? ⟨gb449, 3, none⟩ = some (.slice A0_3 l0_3.length c0_3) := bc BK449 3; have hcz14_4 : w13.cell? ⟨gb449, 4, none⟩ = some (.slice A0_4 l0_4.length c0_4) := bc BK449 4; have hcz14_5 : w13.cell? ⟨gb449, 5, none⟩ = some (.slice A0_5 l0_5.length c0_5) := bc BK449 5; have hcz14_6 : w13.cell? ⟨gb449, 6, none⟩ = some (.slice A0_6 l0_6.length c0_6) := bc BK449 6; have hcz14_7 : w13.cell? ⟨gb449, 7, none⟩ = some (.slice A0_7 l0_7.length c0_7) := bc BK449 7; have hcz14_8 : w13.cell? ⟨gb449, 8, none⟩ = some (.slice A0_8 l0_8.length c0_8) := bc BK449 8; have hcz14_9 : w13.cell? ⟨gb449, 9, none⟩ = some (.int .i64 a0_9) := bc BK449 9; have hfz14_0 := blk_frozen BK449.out 0; have hfz14_1 := blk_frozen BK449.out 1; have hfz14_2 := blk_frozen BK449.out 2; have hfz14_3 := blk_frozen BK449.out 3; have hfz14_4 := blk_frozen BK449.out 4; have hfz14_5 := blk_frozen BK449.out 5; have hfz14_6 := blk_frozen BK449.out 6; have hfz14_7 := blk_frozen BK449.out 7; have hfz14_8 := blk_frozen BK449.out 8; have hfz14_9 := blk_frozen BK449.out 9) | (go_at_call 25; (with_reducible refine (spec_l1In.calls a2 0 (wrap64 ((l0_5.length : Int) - 1)) true _ A8.out).mono ?_); rintro e w' ⟨rfl, ⟨nd, rfl⟩⟩) | ((with_reducible refine gate_callee (f := 26) rfl ?_); refine goesL_ (some 27) rfl rfl Tryd.func26 (by kernel_rfl) rfl #[.agg #[.int .i64 a0_0, .int .i64 a0_1, .slice A0_2 l0_2.length c0_2, .slice A0_3 l0_3.length c0_3, .slice A0_4 l0_4.length c0_4, .slice A0_5 l0_5.length c0_5, .slice A0_6 l0_6.length c0_6, .slice A0_7 l0_7.length c0_7, .slice A0_8 l0_8.length c0_8, .int .i64 a0_9], .int .i64 a1, .int .i64 a2] rfl gl_ ?_; (with_reducible refine (spec_l11Turn.calls a0_0 a0_1 _ _ l0_2 _ _ l0_3 _ _ l0_4 _ _ l0_5 _ _ l0_6 _ _ l0_7 _ _ l0_8 a0_9 a1 a2 t453 _ ?side1 ?side2 ?side3 ?side4 ?side5 ?side6 ?side7 ?side8 ?side9 ?side10 ?side11 ?side12 ?side13 ?side14 A10.out).mono ?_); (case side1 => exact cN (Kd.C_below HR0_2.out (bN HB.out))); (case side2 => exact HC0_2.out); (case side3 => exact cN (Kd.C_below HR0_3.out (bN HB.out))); (case side4 => exact HC0_3.out); (case side5 => exact cN (Kd.C_below HR0_4.out (bN HB.out))); (case side6 => exact HC0_4.out); (case side7 => exact cN (Kd.C_below HR0_5.out (bN HB.out))); (case side8 => exact HC0_5.out); (case side9 => exact cN (Kd.C_below HR0_6.out (bN HB.out))); (case side10 => exact HC0_6.out); (case side11 => exact cN (Kd.C_below HR0_7.out (bN HB.out))); (case side12 => exact HC0_7.out); (case side13 => exact cN (Kd.C_below HR0_8.out (bN HB.out))); (case side14 => exact HC0_8.out); rintro e w15 ⟨rfl, hb⟩; refine ⟨_, rfl, ?_⟩; have n0_ := m_ (blk_below (kN BK449.out) hb); have n1_ := m_ (below_step (bN HB.out) hb); clear BK449; clear HB; have BK449 := n0_; have HB := n1_; clear n0_ n1_; (try clear hb); (try clear hb2); (try clear hk); (try clear hi)))
    go_ret
    exact ⟨by first | rfl | (simp [errW_none, errW_some] <;> rfl) | (simp [*, errW_none, errW_some] <;> rfl), by repeat (first | (with_reducible first | exact HB.out | apply below_alloc | apply pw_below_drewN | apply below_drew1 | refine below_set ?_ GE449.out) | exact HB.out)⟩
   ·replace c9 := Bool.eq_false_iff.mpr c9
    subst c9
    have H1 : (some (-1)) = some r := by rw [if_neg (show ¬ (false = true) by decide)] at H; exact H
    clear H
    have H := H1
    clear H1
    obtain rfl := Option.some.inj H
    go_enter Tryd.func10, Tryd.ntmps10
    go_wp2_with (first | ((with_reducible refine gate_dst (N := 3) rfl ?_); (try (refine gate_guard (by rfl) ?_; dsimp only)); refine box_event ?hg (N := 3) ?hd (cs := #[.int .i64 a0_0, .int .i64 a0_1, .slice A0_2 l0_2.length c0_2, .slice A0_3 l0_3.length c0_3, .slice A0_4 l0_4.length c0_4, .slice A0_5 l0_5.length c0_5, .slice A0_6 l0_6.length c0_6, .slice A0_7 l0_7.length c0_7, .slice A0_8 l0_8.length c0_8, .int .i64 a0_9]) (t := 32) ?hr ?_; (case hd => rfl); (case hg => rfl); (case hr => first | (go_simp; done) | (go_simp; rfl)); intro gb449 hg w16 hbox hb; have n0_ := m_ (below_step (bN HB.out) hb); have n1_ := m_ (hbox); have n2_ := m_ ((by rw [hg]; exact (below_size (bN HB.out)) : w.heap.size ≤ gb449)); have n3_ := m_ ((by rw [hg]; exact (below_size (bN HB.out)) : w.heap.size ≤ gb449)); clear HB; have HB := n0_; have BK449 := n1_; have GW449 := n2_; have GE449 := n3_; clear n0_ n1_ n2_ n3_; clear hb hbox hg; have hcz17_0 : w16.cell? ⟨gb449, 0, none⟩ = some (.int .i64 a0_0) := bc BK449 0; have hcz17_1 : w16.cell? ⟨gb449, 1, none⟩ = some (.int .i64 a0_1) := bc BK449 1; have hcz17_2 : w16.cell? ⟨gb449, 2, none⟩ = some (.slice A0_2 l0_2.length c0_2) := bc BK449 2; have hcz17_3 : w16.cell? ⟨gb449, 3, none⟩ = some (.slice A0_3 l0_3.length c0_3) := bc BK449 3; have hcz17_4 : w16.cell? ⟨gb449, 4, none⟩ = some (.slice A0_4 l0_4.length c0_4) := bc BK449 4; have hcz17_5 : w16.cell? ⟨gb449, 5, none⟩ = some (.slice A0_5 l0_5.length c0_5) := bc BK449 5; have hcz17_6 : w16.cell? ⟨gb449, 6, none⟩ = some (.slice A0_6 l0_6.length c0_6) := bc BK449 6; have hcz17_7 : w16.cell? ⟨gb449, 7, none⟩ = some (.slice A0_7 l0_7.length c0_7) := bc BK449 7; have hcz17_8 : w16.cell? ⟨gb449, 8, none⟩ = some (.slice A0_8 l0_8.length c0_8) := bc BK449 8; have hcz17_9 : w16.cell? ⟨gb449, 9, none⟩ = some (.int .i64 a0_9) := bc BK449 9; have hfz17_0 := blk_frozen BK449.out 0; have hfz17_1 := blk_frozen BK449.out 1; have hfz17_2 := blk_frozen BK449.out 2; have hfz17_3 := blk_frozen BK449.out 3; have hfz17_4 := blk_frozen BK449.out 4; have hfz17_5 := blk_frozen BK449.out 5; have hfz17_6 := blk_frozen BK449.out 6; have hfz17_7 := blk_frozen BK449.out 7; have hfz17_8 := blk_frozen BK449.out 8; have hfz17_9 := blk_frozen BK449.out 9) | ((with_reducible refine gate_callee (f := 16) rfl ?_); refine goesL_ (some 8) rfl rfl Tryd.func16 (by kernel_rfl) rfl #[.agg #[.int .i64 a0_0, .int .i64 a0_1, .slice A0_2 l0_2.length c0_2, .slice A0_3 l0_3.length c0_3, .slice A0_4 l0_4.length c0_4, .slice A0_5 l0_5.length c0_5, .slice A0_6 l0_6.length c0_6, .slice A0_7 l0_7.length c0_7, .slice A0_8 l0_8.length c0_8, .int .i64 a0_9]] rfl gl_ ?_; (with_reducible refine (spec_ConfCheck.calls k a0_0 a0_1 _ _ l0_2 _ _ l0_3 _ _ l0_4 _ _ l0_5 _ _ l0_6 _ _ l0_7 _ _ l0_8 a0_9 t450 _ ?side1 ?side2 ?side3 ?side4 ?side5 ?side6 ?side7 ?side8 ?side9 ?side10 ?side11 ?side12 ?side13 ?side14 A4.out).mono ?_); (case side1 => exact cN (Kd.C_below HR0_2.out HB.out)); (case side2 => exact HC0_2.out); (case side3 => exact cN (Kd.C_below HR0_3.out HB.out)); (case side4 => exact HC0_3.out); (case side5 => exact cN (Kd.C_below HR0_4.out HB.out)); (case side6 => exact HC0_4.out); (case side7 => exact cN (Kd.C_below HR0_5.out HB.out)); (case side8 => exact HC0_5.out); (case side9 => exact cN (Kd.C_below HR0_6.out HB.out)); (case side10 => exact HC0_6.out); (case side11 => exact cN (Kd.C_below HR0_7.out HB.out)); (case side12 => exact HC0_7.out); (case side13 => exact cN (Kd.C_below HR0_8.out HB.out)); (case side14 => exact HC0_8.out); rintro e w18 ⟨rfl, hb⟩; refine ⟨_, rfl, ?_⟩; have n0_ := m_ (blk_below (kN BK449.out) hb); have n1_ := m_ (below_step (bN HB.out) hb); clear BK449; clear HB; have BK449 := n0_; have HB := n1_; clear n0_ n1_; (try clear hb); (try clear hb2); (try clear hk); (try clear hi)) | (go_at_call 25; (with_reducible refine (spec_l1In.calls a1 0 1 true _ A6.out).mono ?_); rintro e w' ⟨rfl, ⟨nd, rfl⟩⟩; have hcz19_0 : w18.cell? ⟨gb449, 0, none⟩ = some (.int .i64 a0_0) := bc BK449 0; have hcz19_1 : w18.cell? ⟨gb449, 1, none⟩ = some (.int .i64 a0_1) := bc BK449 1; have hcz19_2 : w18.cell? ⟨gb449, 2, none⟩ = some (.slice A0_2 l0_2.length c0_2) := bc BK449 2; have hcz19_3 : w18.cell? ⟨gb449, 3, none⟩ = some (.slice A0_3 l0_3.length c0_3) := bc BK449 3; have hcz19_4 : w18.cell? ⟨gb449, 4, none⟩ = some (.slice A0_4 l0_4.length c0_4) := bc BK449 4; have hcz19_5 : w18.cell? ⟨gb449, 5, none⟩ = some (.slice A0_5 l0_5.length c0_5) := bc BK449 5; have hcz19_6 : w18.cell? ⟨gb449, 6, none⟩ = some (.slice A0_6 l0_6.length c0_6) := bc BK449 6; have hcz19_7 : w18.cell? ⟨gb449, 7, none⟩ = some (.slice A0_7 l0_7.length c0_7) := bc BK449 7; have hcz19_8 : w18.cell? ⟨gb449, 8, none⟩ = some (.slice A0_8 l0_8.length c0_8) := bc BK449 8; have hcz19_9 : w18.cell? ⟨gb449, 9, none⟩ = some (.int .i64 a0_9) := bc BK449 9; have hfz19_0 := blk_frozen BK449.out 0; have hfz19_1 := blk_frozen BK449.out 1; have hfz19_2 := blk_frozen BK449.out 2; have hfz19_3 := blk_frozen BK449.out 3; have hfz19_4 := blk_frozen BK449.out 4; have hfz19_5 := blk_frozen BK449.out 5; have hfz19_6 := blk_frozen BK449.out 6; have hfz19_7 := blk_frozen BK449.out 7; have hfz19_8 := blk_frozen BK449.out 8; have hfz19_9 := blk_frozen BK449.out 9) | (go_at_call 25; (with_reducible refine (spec_l1In.calls a2 0 (wrap64 ((l0_5.length : Int) - 1)) false _ A8.out).mono ?_); rintro e w' ⟨rfl, ⟨nd, rfl⟩⟩))
    go_ret
    exact ⟨by first | rfl | (simp [errW_none, errW_some] <;> rfl) | (simp [*, errW_none, errW_some] <;> rfl), by repeat (first | (with_reducible first | exact HB.out | apply below_alloc | apply pw_below_drewN | apply below_drew1 | refine below_set ?_ GE449.out) | exact HB.out)⟩
  ·replace c7 := Bool.eq_false_iff.mpr c7
   subst c7
   have H1 : (some (-1)) = some r := by rw [if_neg (show ¬ (false = true) by decide)] at H; exact H
   clear H
   have H := H1
   clear H1
   obtain rfl := Option.some.inj H
   go_enter Tryd.func10, Tryd.ntmps10
   go_wp2_with (first | ((with_reducible refine gate_dst (N := 3) rfl ?_); (try (refine gate_guard (by rfl) ?_; dsimp only)); refine box_event ?hg (N := 3) ?hd (cs := #[.int .i64 a0_0, .int .i64 a0_1, .slice A0_2 l0_2.length c0_2, .slice A0_3 l0_3.length c0_3, .slice A0_4 l0_4.length c0_4, .slice A0_5 l0_5.length c0_5, .slice A0_6 l0_6.length c0_6, .slice A0_7 l0_7.length c0_7, .slice A0_8 l0_8.length c0_8, .int .i64 a0_9]) (t := 32) ?hr ?_; (case hd => rfl); (case hg => rfl); (case hr => first | (go_simp; done) | (go_simp; rfl)); intro gb449 hg w20 hbox hb; have n0_ := m_ (below_step (bN HB.out) hb); have n1_ := m_ (hbox); have n2_ := m_ ((by rw [hg]; exact (below_size (bN HB.out)) : w.heap.size ≤ gb449)); have n3_ := m_ ((by rw [hg]; exact (below_size (bN HB.out)) : w.heap.size ≤ gb449)); clear HB; have HB := n0_; have BK449 := n1_; have GW449 := n2_; have GE449 := n3_; clear n0_ n1_ n2_ n3_; clear hb hbox hg; have hcz21_0 : w20.cell? ⟨gb449, 0, none⟩ = some (.int .i64 a0_0) := bc BK449 0; have hcz21_1 : w20.cell? ⟨gb449, 1, none⟩ = some (.int .i64 a0_1) := bc BK449 1; have hcz21_2 : w20.cell? ⟨gb449, 2, none⟩ = some (.slice A0_2 l0_2.length c0_2) := bc BK449 2; have hcz21_3 : w20.cell? ⟨gb449, 3, none⟩ = some (.slice A0_3 l0_3.length c0_3) := bc BK449 3; have hcz21_4 : w20.cell? ⟨gb449, 4, none⟩ = some (.slice A0_4 l0_4.length c0_4) := bc BK449 4; have hcz21_5 : w20.cell? ⟨gb449, 5, none⟩ = some (.slice A0_5 l0_5.length c0_5) := bc BK449 5; have hcz21_6 : w20.cell? ⟨gb449, 6, none⟩ = some (.slice A0_6 l0_6.length c0_6) := bc BK449 6; have hcz21_7 : w20.cell? ⟨gb449, 7, none⟩ = some (.slice A0_7 l0_7.length c0_7) := bc BK449 7; have hcz21_8 : w20.cell? ⟨gb449, 8, none⟩ = some (.slice A0_8 l0_8.length c0_8) := bc BK449 8; have hcz21_9 : w20.cell? ⟨gb449, 9, none⟩ = some (.int .i64 a0_9) := bc BK449 9; have hfz21_0 := blk_frozen BK449.out 0; have hfz21_1 := blk_frozen BK449.out 1; have hfz21_2 := blk_frozen BK449.out 2; have hfz21_3 := blk_frozen BK449.out 3; have hfz21_4 := blk_frozen BK449.out 4; have hfz21_5 := blk_frozen BK449.out 5; have hfz21_6 := blk_frozen BK449.out 6; have hfz21_7 := blk_frozen BK449.out 7; have hfz21_8 := blk_frozen BK449.out 8; have hfz21_9 := blk_frozen BK449.out 9) | ((with_reducible refine gate_callee (f := 16) rfl ?_); refine goesL_ (some 8) rfl rfl Tryd.func16 (by kernel_rfl) rfl #[.agg #[.int .i64 a0_0, .int .i64 a0_1, .slice A0_2 l0_2.length c0_2, .slice A0_3 l0_3.length c0_3, .slice A0_4 l0_4.length c0_4, .slice A0_5 l0_5.length c0_5, .slice A0_6 l0_6.length c0_6, .slice A0_7 l0_7.length c0_7, .slice A0_8 l0_8.length c0_8, .int .i64 a0_9]] rfl gl_ ?_; (with_reducible refine (spec_ConfCheck.calls k a0_0 a0_1 _ _ l0_2 _ _ l0_3 _ _ l0_4 _ _ l0_5 _ _ l0_6 _ _ l0_7 _ _ l0_8 a0_9 t450 _ ?side1 ?side2 ?side3 ?side4 ?side5 ?side6 ?side7 ?side8 ?side9 ?side10 ?side11 ?side12 ?side13 ?side14 A4.out).mono ?_); (case side1 => exact cN (Kd.C_below HR0_2.out HB.out)); (case side2 => exact HC0_2.out); (case side3 => exact cN (Kd.C_below HR0_3.out HB.out)); (case side4 => exact HC0_3.out); (case side5 => exact cN (Kd.C_below HR0_4.out HB.out)); (case side6 => exact HC0_4.out); (case side7 => exact cN (Kd.C_below HR0_5.out HB.out)); (case side8 => exact HC0_5.out); (case side9 => exact cN (Kd.C_below HR0_6.out HB.out)); (case side10 => exact HC0_6.out); (case side11 => exact cN (Kd.C_below HR0_7.out HB.out)); (case side12 => exact HC0_7.out); (case side13 => exact cN (Kd.C_below HR0_8.out HB.out)); (case side14 => exact HC0_8.out); rintro e w22 ⟨rfl, hb⟩; refine ⟨_, rfl, ?_⟩; have n0_ := m_ (blk_below (kN BK449.out) hb); have n1_ := m_ (below_step (bN HB.out) hb); clear BK449; clear HB; have BK449 := n0_; have HB := n1_; clear n0_ n1_; (try clear hb); (try clear hb2); (try clear hk); (try clear hi)) | (go_at_call 25; (with_reducible refine (spec_l1In.calls a1 0 1 false _ A6.out).mono ?_); rintro e w' ⟨rfl, ⟨nd, rfl⟩⟩))
   go_ret
   exact ⟨by first | rfl | (simp [errW_none, errW_some] <;> rfl) | (simp [*, errW_none, errW_some] <;> rfl), by repeat (first | (with_reducible first | exact HB.out | apply below_alloc | apply pw_below_drewN | apply below_drew1 | refine below_set ?_ GE449.out) | exact HB.out)⟩
 ·rw [if_neg c5] at H
  have c5b0 : (t450 == 0) = false := beq_eq_false_iff_ne.mpr c5
  have c5b1 : (t450 != 0) = true := bne_iff_ne.mpr c5
  obtain rfl := Option.some.inj H
  go_enter Tryd.func10, Tryd.ntmps10
  go_wp2_with (first | ((with_reducible refine gate_dst (N := 3) rfl ?_); (try (refine gate_guard (by rfl) ?_; dsimp only)); refine box_event ?hg (N := 3) ?hd (cs := #[.int .i64 a0_0, .int .i64 a0_1, .slice A0_2 l0_2.length c0_2, .slice A0_3 l0_3.length c0_3, .slice A0_4 l0_4.length c0_4, .slice A0_5 l0_5.length c0_5, .slice A0_6 l0_6.length c0_6, .slice A0_7 l0_7.length c0_7, .slice A0_8 l0_8.length c0_8, .int .i64 a0_9]) (t := 32) ?hr ?_; (case hd => rfl); (case hg => rfl); (case hr => first | (go_simp; done) | (go_simp; rfl)); intro gb449 hg w23 hbox hb; have n0_ := m_ (below_step (bN HB.out) hb); have n1_ := m_ (hbox); have n2_ := m_ ((by rw [hg]; exact (below_size (bN HB.out)) : w.heap.size ≤ gb449)); have n3_ := m_ ((by rw [hg]; exact (below_size (bN HB.out)) : w.heap.size ≤ gb449)); clear HB; have HB := n0_; have BK449 := n1_; have GW449 := n2_; have GE449 := n3_; clear n0_ n1_ n2_ n3_; clear hb hbox hg; have hcz24_0 : w23.cell? ⟨gb449, 0, none⟩ = some (.int .i64 a0_0) := bc BK449 0; have hcz24_1 : w23.cell? ⟨gb449, 1, none⟩ = some (.int .i64 a0_1) := bc BK449 1; have hcz24_2 : w23.cell? ⟨gb449, 2, none⟩ = some (.slice A0_2 l0_2.length c0_2) := bc BK449 2; have hcz24_3 : w23.cell? ⟨gb449, 3, none⟩ = some (.slice A0_3 l0_3.length c0_3) := bc BK449 3; have hcz24_4 : w23.cell? ⟨gb449, 4, none⟩ = some (.slice A0_4 l0_4.length c0_4) := bc BK449 4; have hcz24_5 : w23.cell? ⟨gb449, 5, none⟩ = some (.slice A0_5 l0_5.length c0_5) := bc BK449 5; have hcz24_6 : w23.cell? ⟨gb449, 6, none⟩ = some (.slice A0_6 l0_6.length c0_6) := bc BK449 6; have hcz24_7 : w23.cell? ⟨gb449, 7, none⟩ = some (.slice A0_7 l0_7.length c0_7) := bc BK449 7; have hcz24_8 : w23.cell? ⟨gb449, 8, none⟩ = some (.slice A0_8 l0_8.length c0_8) := bc BK449 8; have hcz24_9 : w23.cell? ⟨gb449, 9, none⟩ = some (.int .i64 a0_9) := bc BK449 9; have hfz24_0 := blk_frozen BK449.out 0; have hfz24_1 := blk_frozen BK449.out 1; have hfz24_2 := blk_frozen BK449.out 2; have hfz24_3 := blk_frozen BK449.out 3; have hfz24_4 := blk_frozen BK449.out 4; have hfz24_5 := blk_frozen BK449.out 5; have hfz24_6 := blk_frozen BK449.out 6; have hfz24_7 := blk_frozen BK449.out 7; have hfz24_8 := blk_frozen BK449.out 8; have hfz24_9 := blk_frozen BK449.out 9) | ((with_reducible refine gate_callee (f := 16) rfl ?_); refine goesL_ (some 8) rfl rfl Tryd.func16 (by kernel_rfl) rfl #[.agg #[.int .i64 a0_0, .int .i64 a0_1, .slice A0_2 l0_2.length c0_2, .slice A0_3 l0_3.length c0_3, .slice A0_4 l0_4.length c0_4, .slice A0_5 l0_5.length c0_5, .slice A0_6 l0_6.length c0_6, .slice A0_7 l0_7.length c0_7, .slice A0_8 l0_8.length c0_8, .int .i64 a0_9]] rfl gl_ ?_; (with_reducible refine (spec_ConfCheck.calls k a0_0 a0_1 _ _ l0_2 _ _ l0_3 _ _ l0_4 _ _ l0_5 _ _ l0_6 _ _ l0_7 _ _ l0_8 a0_9 t450 _ ?side1 ?side2 ?side3 ?side4 ?side5 ?side6 ?side7 ?side8 ?side9 ?side10 ?side11 ?side12 ?side13 ?side14 A4.out).mono ?_); (case side1 => exact cN (Kd.C_below HR0_2.out HB.out)); (case side2 => exact HC0_2.out); (case side3 => exact cN (Kd.C_below HR0_3.out HB.out)); (case side4 => exact HC0_3.out); (case side5 => exact cN (Kd.C_below HR0_4.out HB.out)); (case side6 => exact HC0_4.out); (case side7 => exact cN (Kd.C_below HR0_5.out HB.out)); (case side8 => exact HC0_5.out); (case side9 => exact cN (Kd.C_below HR0_6.out HB.out)); (case side10 => exact HC0_6.out); (case side11 => exact cN (Kd.C_below HR0_7.out HB.out)); (case side12 => exact HC0_7.out); (case side13 => exact cN (Kd.C_below HR0_8.out HB.out)); (case side14 => exact HC0_8.out); rintro e w25 ⟨rfl, hb⟩; refine ⟨_, rfl, ?_⟩; have n0_ := m_ (blk_below (kN BK449.out) hb); have n1_ := m_ (below_step (bN HB.out) hb); clear BK449; clear HB; have BK449 := n0_; have HB := n1_; clear n0_ n1_; (try clear hb); (try clear hb2); (try clear hk); (try clear hi)))
  go_ret
  exact ⟨by first | rfl | (simp [errW_none, errW_some] <;> rfl) | (simp [*, errW_none, errW_some] <;> rfl), by repeat (first | (with_reducible first | exact HB.out | apply below_alloc | apply pw_below_drewN | apply below_drew1 | refine below_set ?_ GE449.out) | exact HB.out)⟩

/-! ### impl_ConfTurn: function 12 -/
def impl_ConfTurn.j0 : Nat → Int → Int → Bool → Int → Int → List (List (S107)) → List Int → List Int → List Int → List Int → List Int → List (S78) → Int → Option (Int)
 | 0, _, _, _, _, _, _, _, _, _, _, _, _, _ => none
 | k + 1, x1, x2, x18, x455000, x455001, x455002, x455003, x455004, x455005, x455006, x455007, x455008, x455009 => if x18 = true then (some (-1)) else (if x1 = 0 then (if 0 ≤ x2 then (if x2 < (x455005.length : Int) then (some (rd x455005 x2)) else (none)) else (none)) else (if x1 = 1 then (if 0 ≤ x2 then (if x2 < (x455006.length : Int) then (some (rd x455006 x2)) else (none)) else (none)) else (some (-1))))
def impl_ConfTurn.f (k : Nat) (a0_0 : Int) (a0_1 : Int) (l0_2 : List (List (S107))) (l0_3 : List Int) (l0_4 : List Int) (l0_5 : List Int) (l0_6 : List Int) (l0_7 : List Int) (l0_8 : List (S78)) (a0_9 : Int) (a1 : Int) (a2 : Int) : Option (Int) := (impl_ConfCheck.f k a0_0 a0_1 l0_2 l0_3 l0_4 l0_5 l0_6 l0_7 l0_8 a0_9).bind fun t455 => (if t455 = 0 then ((impl_within.f a2 (wrap64 ((l0_5.length : Int) - 1))).bind fun t456 => (impl_ConfTurn.j0 k a1 a2 (!t456) a0_0 a0_1 l0_2 l0_3 l0_4 l0_5 l0_6 l0_7 l0_8 a0_9)) else (impl_ConfTurn.j0 k a1 a2 true a0_0 a0_1 l0_2 l0_3 l0_4 l0_5 l0_6 l0_7 l0_8 a0_9))
theorem impl_ConfTurn.mono_l : ∀ k, (∀ y0 y1 y2 y3 y4 y5 y6 y7 y8 y9 y10 y11 y12, LeO (impl_ConfTurn.j0 k y0 y1 y2 y3 y4 y5 y6 y7 y8 y9 y10 y11 y12) (impl_ConfTurn.j0 (k + 1) y0 y1 y2 y3 y4 y5 y6 y7 y8 y9 y10 y11 y12))
 | 0 => fun _ _ _ _ _ _ _ _ _ _ _ _ _ r h => by simp [impl_ConfTurn.j0] at h
 | k + 1 => by
  have ih0 := impl_ConfTurn.mono_l k
  ·intro y0 y1 y2 y3 y4 y5 y6 y7 y8 y9 y10 y11 y12
   unfold impl_ConfTurn.j0
   repeat' first
   | (with_reducible exact ih0 _ _ _ _ _ _ _ _ _ _ _ _ _)
   | (with_reducible exact impl_ConfCheck.mono _ _ _ _ _ _ _ _ _ _ _)
   | (with_reducible exact LeO.refl _)
   | (with_reducible exact LeO.none _)
   | (with_reducible refine LeO.ite ?_ ?_)
   | (with_reducible refine LeO.bind ?_ (fun _ => ?_))
   | exact ih0 _ _ _ _ _ _ _ _ _ _ _ _ _
   | exact impl_ConfCheck.mono _ _ _ _ _ _ _ _ _ _ _
   | exact LeO.none _
   | refine LeO.ite ?_ ?_
   | refine LeO.bind ?_ (fun _ => ?_)
theorem impl_ConfTurn.mono : ∀ a0 a1 a2 a3 a4 a5 a6 a7 a8 a9 a10 a11 k, LeO (impl_ConfTurn.f k a0 a1 a2 a3 a4 a5 a6 a7 a8 a9 a10 a11) (impl_ConfTurn.f (k + 1) a0 a1 a2 a3 a4 a5 a6 a7 a8 a9 a10 a11) := by
 intro a0 a1 a2 a3 a4 a5 a6 a7 a8 a9 a10 a11 k
 have ih0 := impl_ConfTurn.mono_l k
 unfold impl_ConfTurn.f
 repeat' first
   | (with_reducible exact ih0 _ _ _ _ _ _ _ _ _ _ _ _ _)
   | (with_reducible exact impl_ConfCheck.mono _ _ _ _ _ _ _ _ _ _ _)
   | (with_reducible exact LeO.refl _)
   | (with_reducible exact LeO.none _)
   | (with_reducible refine LeO.ite ?_ ?_)
   | (with_reducible refine LeO.bind ?_ (fun _ => ?_))
   | exact ih0 _ _ _ _ _ _ _ _ _ _ _ _ _
   | exact impl_ConfCheck.mono _ _ _ _ _ _ _ _ _ _ _
   | exact LeO.none _
   | refine LeO.ite ?_ ?_
   | refine LeO.bind ?_ (fun _ => ?_)
set_option maxHeartbeats 8000000 in
set_option maxRecDepth 100000 in
theorem impl_ConfTurn.calls (k : Nat) (a0_0 : Int) (a0_1 : Int) (A0_2 : Option Addr) (c0_2 : Nat) (l0_2 : List (List (S107))) (A0_3 : Option Addr) (c0_3 : Nat) (l0_3 : List Int) (A0_4 : Option Addr) (c0_4 : Nat) (l0_4 : List Int) (A0_5 : Option Addr) (c0_5 : Nat) (l0_5 : List Int) (A0_6 : Option Addr) (c0_6 : Nat) (l0_6 : List Int) (A0_7 : Option Addr) (c0_7 : Nat) (l0_7 : List Int) (A0_8 : Option Addr) (c0_8 : Nat) (l0_8 : List (S78)) (a0_9 : Int) (a1 : Int) (a2 : Int) (r : Int) (w : World) (hr0_2 : Kd.C (Kd.slice 107 k107) w A0_2 l0_2.length l0_2) (hc0_2 : l0_2.length ≤ c0_2) (hr0_3 : Kd.C (Kd.int .i64) w A0_3 l0_3.length l0_3) (hc0_3 : l0_3.length ≤ c0_3) (hr0_4 : Kd.C (Kd.int .i64) w A0_4 l0_4.length l0_4) (hc0_4 : l0_4.length ≤ c0_4) (hr0_5 : Kd.C (Kd.int .i64) w A0_5 l0_5.length l0_5) (hc0_5 : l0_5.length ≤ c0_5) (hr0_6 : Kd.C (Kd.int .i64) w A0_6 l0_6.length l0_6) (hc0_6 : l0_6.length ≤ c0_6) (hr0_7 : Kd.C (Kd.int .i64) w A0_7 l0_7.length l0_7) (hc0_7 : l0_7.length ≤ c0_7) (hr0_8 : Kd.C k78 w A0_8 l0_8.length l0_8) (hc0_8 : l0_8.length ≤ c0_8) (h : impl_ConfTurn.f k a0_0 a0_1 l0_2 l0_3 l0_4 l0_5 l0_6 l0_7 l0_8 a0_9 a1 a2 = some r) (hG : GErr w) :
  Calls Tryd.prog 12 #[.agg #[.int .i64 a0_0, .int .i64 a0_1, .slice A0_2 l0_2.length c0_2, .slice A0_3 l0_3.length c0_3, .slice A0_4 l0_4.length c0_4, .slice A0_5 l0_5.length c0_5, .slice A0_6 l0_6.length c0_6, .slice A0_7 l0_7.length c0_7, .slice A0_8 l0_8.length c0_8, .int .i64 a0_9], .int .i64 a1, .int .i64 a2] w fun e w' => e = .returned (.int .i64 r) ∧ Below w.heap.size w w' := by
 have HG0 := Aside0.mk hG
 clear hG
 have hu32 := Tryd.underlying32
 have HR0_2 := Aside0.mk hr0_2
 have HC0_2 := Aside0.mk hc0_2
 clear hr0_2 hc0_2
 have HR0_3 := Aside0.mk hr0_3
 have HC0_3 := Aside0.mk hc0_3
 clear hr0_3 hc0_3
 have HR0_4 := Aside0.mk hr0_4
 have HC0_4 := Aside0.mk hc0_4
 clear hr0_4 hc0_4
 have HR0_5 := Aside0.mk hr0_5
 have HC0_5 := Aside0.mk hc0_5
 clear hr0_5 hc0_5
 have HR0_6 := Aside0.mk hr0_6
 have HC0_6 := Aside0.mk hc0_6
 clear hr0_6 hc0_6
 have HR0_7 := Aside0.mk hr0_7
 have HC0_7 := Aside0.mk hc0_7
 clear hr0_7 hc0_7
 have HR0_8 := Aside0.mk hr0_8
 have HC0_8 := Aside0.mk hc0_8
 clear hr0_8 hc0_8
 have HB := m_ (Below.refl w.heap.size w)
 have H : ((impl_ConfCheck.f k a0_0 a0_1 l0_2 l0_3 l0_4 l0_5 l0_6 l0_7 l0_8 a0_9).bind fun t455 => (if t455 = 0 then ((impl_within.f a2 (wrap64 ((l0_5.length : Int) - 1))).bind fun t456 => (impl_ConfTurn.j0 k a1 a2 (!t456) a0_0 a0_1 l0_2 l0_3 l0_4 l0_5 l0_6 l0_7 l0_8 a0_9)) else (impl_ConfTurn.j0 k a1 a2 true a0_0 a0_1 l0_2 l0_3 l0_4 l0_5 l0_6 l0_7 l0_8 a0_9))) = some r := h
 clear h
 have HC4 := Aside0.mk H
 clear H
 go_enter Tryd.func12, Tryd.ntmps12
 go_upto_region 1 with (first | ((with_reducible refine gate_dst (N := 3) rfl ?_); (try (refine gate_guard (by rfl) ?_; dsimp only)); refine box_event ?hg (N := 3) ?hd (cs := #[.int .i64 a0_0, .int .i64 a0_1, .slice A0_2 l0_2.length c0_2, .slice A0_3 l0_3.length c0_3, .slice A0_4 l0_4.length c0_4, .slice A0_5 l0_5.length c0_5, .slice A0_6 l0_6.length c0_6, .slice A0_7 l0_7.length c0_7, .slice A0_8 l0_8.length c0_8, .int .i64 a0_9]) (t := 32) ?hr ?_; (case hd => rfl); (case hg => rfl); (case hr => first | (go_simp; done) | (go_simp; rfl)); intro gb454 hg w5 hbox hb; have n0_ := m_ (below_step (bN HB.out) hb); have n1_ := m_ (hbox); have n2_ := m_ ((by rw [hg]; exact (below_size (bN HB.out)) : w.heap.size ≤ gb454)); have n3_ := m_ ((by rw [hg]; exact (below_size (bN HB.out)) : w.heap.size ≤ gb454)); clear HB; have HB := n0_; have BK454 := n1_; have GW454 := n2_; have GE454 := n3_; clear n0_ n1_ n2_ n3_; clear hb hbox hg))
 (try simp only [Act.put, List.setIfInBounds_toArray, List.set_cons_zero, List.set_cons_succ])
 go_cut [18] (fun v18 wc => ∃ (kq : Nat) (x18_3 : Bool), v18 = .bool x18_3 ∧ Aside0 (impl_ConfTurn.j0 kq a1 a2 x18_3 a0_0 a0_1 l0_2 l0_3 l0_4 l0_5 l0_6 l0_7 l0_8 a0_9 = some r) ∧ Aside0 (kq ≤ k) ∧ Aside0 (wc.heap[gb454]? = some (.cells #[.int .i64 a0_0, .int .i64 a0_1, (.slice A0_2 l0_2.length c0_2), (.slice A0_3 l0_3.length c0_3), (.slice A0_4 l0_4.length c0_4), (.slice A0_5 l0_5.length c0_5), (.slice A0_6 l0_6.length c0_6), (.slice A0_7 l0_7.length c0_7), (.slice A0_8 l0_8.length c0_8), .int .i64 a0_9] 32 (0, 0))) ∧ Aside0 (Below w.heap.size w wc))
 case first =>
  have H := HC4.out
  clear HC4
  replace H := Option.bind_eq_some_iff.mp H
  obtain ⟨t455, A60, H⟩ := H
  replace H : (if t455 = 0 then ((impl_within.f a2 (wrap64 ((l0_5.length : Int) - 1))).bind fun t456 => (impl_ConfTurn.j0 k a1 a2 (!t456) a0_0 a0_1 l0_2 l0_3 l0_4 l0_5 l0_6 l0_7 l0_8 a0_9)) else (impl_ConfTurn.j0 k a1 a2 true a0_0 a0_1 l0_2 l0_3 l0_4 l0_5 l0_6 l0_7 l0_8 a0_9)) = some r := H
  have A6 := Aside0.mk A60
  clear A60
  by_cases c7 : t455 = 0
  ·rw [if_pos c7] at H
   have c7b0 : (t455 == 0) = true := beq_iff_eq.mpr c7
   have c7b1 : (t455 != 0) = false := bne_eq_false_iff_eq.mpr c7
   clear c7
   (first | rw [c7b0] | (simp only [i64_w, i32_w]; rw [c7b0]) | skip)
   replace H := Option.bind_eq_some_iff.mp H
   obtain ⟨t456, A80, H⟩ := H
   replace H : (impl_ConfTurn.j0 k a1 a2 (!t456) a0_0 a0_1 l0_2 l0_3 l0_4 l0_5 l0_6 l0_7 l0_8 a0_9) = some r := H
   have A8 := Aside0.mk A80
   clear A80
   have H' := Aside0.mk H
   clear H
   have hcz9_0 : w5.cell? ⟨gb454, 0, none⟩ = some (.int .i64 a0_0) := bc BK454 0
   have hcz9_1 : w5.cell? ⟨gb454, 1, none⟩ = some (.int .i64 a0_1) := bc BK454 1
   have hcz9_2 : w5.cell? ⟨gb454, 2, none⟩ = some (.slice A0_2 l0_2.length c0_2) := bc BK454 2
   have hcz9_3 : w5.cell? ⟨gb454, 3, none⟩ = some (.slice A0_3 l0_3.length c0_3) := bc BK454 3
   have hcz9_4 : w5.cell? ⟨gb454, 4, none⟩ = some (.slice A0_4 l0_4.length c0_4) := bc BK454 4
   have hcz9_5 : w5.cell? ⟨gb454, 5, none⟩ = some (.slice A0_5 l0_5.length c0_5) := bc BK454 5
   have hcz9_6 : w5.cell? ⟨gb454, 6, none⟩ = some (.slice A0_6 l0_6.length c0_6) := bc BK454 6
   have hcz9_7 : w5.cell? ⟨gb454, 7, none⟩ = some (.slice A0_7 l0_7.length c0_7) := bc BK454 7
   have hcz9_8 : w5.cell? ⟨gb454, 8, none⟩ = some (.slice A0_8 l0_8.length c0_8) := bc BK454 8
   have hcz9_9 : w5.cell? ⟨gb454, 9, none⟩ = some (.int .i64 a0_9) := bc BK454 9
   have hfz9_0 := blk_frozen BK454.out 0
   have hfz9_1 := blk_frozen BK454.out 1
   have hfz9_2 := blk_frozen BK454.out 2
   have hfz9_3 := blk_frozen BK454.out 3
   have hfz9_4 := blk_frozen BK454.out 4
   have hfz9_5 := blk_frozen BK454.out 5
   have hfz9_6 := blk_frozen BK454.out 6
   have hfz9_7 := blk_frozen BK454.out 7
   have hfz9_8 := blk_frozen BK454.out 8
   have hfz9_9 := blk_frozen BK454.out 9
   go_wp2_with (first | ((with_reducible refine gate_callee (f := 15) rfl ?_); refine goesL_ (some 8) rfl rfl Tryd.func15 (by kernel_rfl) rfl #[.agg #[.int .i64 a0_0, .int .i64 a0_1, .slice A0_2 l0_2.length c0_2, .slice A0_3 l0_3.length c0_3, .slice A0_4 l0_4.length c0_4, .slice A0_5 l0_5.length c0_5, .slice A0_6 l0_6.length c0_6, .slice A0_7 l0_7.length c0_7, .slice A0_8 l0_8.length c0_8, .int .i64 a0_9]] rfl gl_ ?_; (with_reducible refine (impl_ConfCheck.calls k a0_0 a0_1 _ _ l0_2 _ _ l0_3 _ _ l0_4 _ _ l0_5 _ _ l0_6 _ _ l0_7 _ _ l0_8 a0_9 t455 _ ?side1 ?side2 ?side3 ?side4 ?side5 ?side6 ?side7 ?side8 ?side9 ?side10 ?side11 ?side12 ?side13 ?side14 A6.out ?sideG).mono ?_); (case sideG => exact GErr.below (bN HB.out) HG0.out); (case side1 => exact cN (Kd.C_below HR0_2.out HB.out)); (case side2 => exact HC0_2.out); (case side3 => exact cN (Kd.C_below HR0_3.out HB.out)); (case side4 => exact HC0_3.out); (case side5 => exact cN (Kd.C_below HR0_4.out HB.out)); (case side6 => exact HC0_4.out); (case side7 => exact cN (Kd.C_below HR0_5.out HB.out)); (case side8 => exact HC0_5.out); (case side9 => exact cN (Kd.C_below HR0_6.out HB.out)); (case side10 => exact HC0_6.out); (case side11 => exact cN (Kd.C_below HR0_7.out HB.out)); (case side12 => exact HC0_7.out); (case side13 => exact cN (Kd.C_below HR0_8.out HB.out)); (case side14 => exact HC0_8.out); rintro e w10 ⟨rfl, hb⟩; refine ⟨_, rfl, ?_⟩; have n0_ := m_ (blk_below (kN BK454.out) hb); have n1_ := m_ (below_step (bN HB.out) hb); clear BK454; clear HB; have BK454 := n0_; have HB := n1_; clear n0_ n1_; (try clear hb); (try clear hb2); (try clear hk); (try clear hi); have hcz11_0 : w10.cell? ⟨gb454, 0, none⟩ = some (.int .i64 a0_0) := bc BK454 0; have hcz11_1 : w10.cell? ⟨gb454, 1, none⟩ = some (.int .i64 a0_1) := bc BK454 1; have hcz11_2 : w10.cell? ⟨gb454, 2, none⟩ = some (.slice A0_2 l0_2.length c0_2) := bc BK454 2; have hcz11_3 : w10.cell? ⟨gb454, 3, none⟩ = some (.slice A0_3 l0_3.length c0_3) := bc BK454 3; have hcz11_4 : w10.cell? ⟨gb454, 4, none⟩ = some (.slice A0_4 l0_4.length c0_4) := bc BK454 4; have hcz11_5 : w10.cell? ⟨gb454, 5, none⟩ = some (.slice A0_5 l0_5.length c0_5) := bc BK454 5; have hcz11_6 : w10.cell? ⟨gb454, 6, none⟩ = some (.slice A0_6 l0_6.length c0_6) := bc BK454 6; have hcz11_7 : w10.cell? ⟨gb454, 7, none⟩ = some (.slice A0_7 l0_7.length c0_7) := bc BK454 7; have hcz11_8 : w10.cell? ⟨gb454, 8, none⟩ = some (.slice A0_8 l0_8.length c0_8) := bc BK454 8; have hcz11_9 : w10.cell? ⟨gb454, 9, none⟩ = some (.int .i64 a0_9) := bc BK454 9; have hfz11_0 := blk_frozen BK454.out 0; have hfz11_1 := blk_frozen BK454.out 1; have hfz11_2 := blk_frozen BK454.out 2; have hfz11_3 := blk_frozen BK454.out 3; have hfz11_4 := blk_frozen BK454.out 4; have hfz11_5 := blk_frozen BK454.out 5; have hfz11_6 := blk_frozen BK454.out 6; have hfz11_7 := blk_frozen BK454.out 7; have hfz11_8 := blk_frozen BK454.out 8; have hfz11_9 := blk_frozen BK454.out 9) | (go_at_call 30; (with_reducible refine (impl_within.calls a2 (wrap64 ((l0_5.length : Int) - 1)) t456 _ A8.out).mono ?_); rintro e w' ⟨rfl, ⟨nd, rfl⟩⟩))
   go_meet
   case rel => exact ⟨_, (!t456), (by first | rfl | (simp; done) | (simp [*]; done)), H', ⟨by first | omega | exact Nat.le_refl _⟩, ⟨kN BK454.out⟩, ⟨by repeat (first | (with_reducible first | exact HB.out | apply below_alloc | apply pw_below_drewN | apply below_drew1 | refine below_set ?_ GE454.out) | exact HB.out)⟩⟩
  ·rw [if_neg c7] at H
   have c7b0 : (t455 == 0) = false := beq_eq_false_iff_ne.mpr c7
   have c7b1 : (t455 != 0) = true := bne_iff_ne.mpr c7
   (first | rw [c7b0] | (simp only [i64_w, i32_w]; rw [c7b0]) | skip)
   have H' := Aside0.mk H
   clear H
   have hcz12_0 : w5.cell? ⟨gb454, 0, none⟩ = some (.int .i64 a0_0) := bc BK454 0
   have hcz12_1 : w5.cell? ⟨gb454, 1, none⟩ = some (.int .i64 a0_1) := bc BK454 1
   have hcz12_2 : w5.cell? ⟨gb454, 2, none⟩ = some (.slice A0_2 l0_2.length c0_2) := bc BK454 2
   have hcz12_3 : w5.cell? ⟨gb454, 3, none⟩ = some (.slice A0_3 l0_3.length c0_3) := bc BK454 3
   have hcz12_4 : w5.cell? ⟨gb454, 4, none⟩ = some (.slice A0_4 l0_4.length c0_4) := bc BK454 4
   have hcz12_5 : w5.cell? ⟨gb454, 5, none⟩ = some (.slice A0_5 l0_5.length c0_5) := bc BK454 5
   have hcz12_6 : w5.cell? ⟨gb454, 6, none⟩ = some (.slice A0_6 l0_6.length c0_6) := bc BK454 6
   have hcz12_7 : w5.cell? ⟨gb454, 7, none⟩ = some (.slice A0_7 l0_7.length c0_7) := bc BK454 7
   have hcz12_8 : w5.cell? ⟨gb454, 8, none⟩ = some (.slice A0_8 l0_8.length c0_8) := bc BK454 8
   have hcz12_9 : w5.cell? ⟨gb454, 9, none⟩ = some (.int .i64 a0_9) := bc BK454 9
   have hfz12_0 := blk_frozen BK454.out 0
   have hfz12_1 := blk_frozen BK454.out 1
   have hfz12_2 := blk_frozen BK454.out 2
   have hfz12_3 := blk_frozen BK454.out 3
   have hfz12_4 := blk_frozen BK454.out 4
   have hfz12_5 := blk_frozen BK454.out 5
   have hfz12_6 := blk_frozen BK454.out 6
   have hfz12_7 := blk_frozen BK454.out 7
   have hfz12_8 := blk_frozen BK454.out 8
   have hfz12_9 := blk_frozen BK454.out 9
   go_wp2_with (first | ((with_reducible refine gate_callee (f := 15) rfl ?_); refine goesL_ (some 8) rfl rfl Tryd.func15 (by kernel_rfl) rfl #[.agg #[.int .i64 a0_0, .int .i64 a0_1, .slice A0_2 l0_2.length c0_2, .slice A0_3 l0_3.length c0_3, .slice A0_4 l0_4.length c0_4, .slice A0_5 l0_5.length c0_5, .slice A0_6 l0_6.length c0_6, .slice A0_7 l0_7.length c0_7, .slice A0_8 l0_8.length c0_8, .int .i64 a0_9]] rfl gl_ ?_; (with_reducible refine (impl_ConfCheck.calls k a0_0 a0_1 _ _ l0_2 _ _ l0_3 _ _ l0_4 _ _ l0_5 _ _ l0_6 _ _ l0_7 _ _ l0_8 a0_9 t455 _ ?side1 ?side2 ?side3 ?side4 ?side5 ?side6 ?side7 ?side8 ?side9 ?side10 ?side11 ?side12 ?side13 ?side14 A6.out ?sideG).mono ?_); (case sideG => exact GErr.below (bN HB.out) HG0.out); (case side1 => exact cN (Kd.C_below HR0_2.out HB.out)); (case side2 => exact HC0_2.out); (case side3 => exact cN (Kd.C_below HR0_3.out HB.out)); (case side4 => exact HC0_3.out); (case side5 => exact cN (Kd.C_below HR0_4.out HB.out)); (case side6 => exact HC0_4.out); (case side7 => exact cN (Kd.C_below HR0_5.out HB.out)); (case side8 => exact HC0_5.out); (case side9 => exact cN (Kd.C_below HR0_6.out HB.out)); (case side10 => exact HC0_6.out); (case side11 => exact cN (Kd.C_below HR0_7.out HB.out)); (case side12 => exact HC0_7.out); (case side13 => exact cN (Kd.C_below HR0_8.out HB.out)); (case side14 => exact HC0_8.out); rintro e w13 ⟨rfl, hb⟩; refine ⟨_, rfl, ?_⟩; have n0_ := m_ (blk_below (kN BK454.out) hb); have n1_ := m_ (below_step (bN HB.out) hb); clear BK454; clear HB; have BK454 := n0_; have HB := n1_; clear n0_ n1_; (try clear hb); (try clear hb2); (try clear hk); (try clear hi)))
   go_meet
   case rel => exact ⟨_, (true), (by first | rfl | (simp; done) | (simp [*]; done)), H', ⟨by first | omega | exact Nat.le_refl _⟩, ⟨kN BK454.out⟩, ⟨by repeat (first | (with_reducible first | exact HB.out | apply below_alloc | apply pw_below_drewN | apply below_drew1 | refine below_set ?_ GE454.out) | exact HB.out)⟩⟩
 case rest =>
  clear HC4
  try clear c1
  try clear p2
  try clear p6
  try clear c7
  try clear c7b0
  try clear c7b1
  try clear c12
  try clear hcz11_0
  try clear hcz11_1
  try clear hcz11_2
  try clear hcz11_3
  try clear hcz11_4
  try clear hcz11_5
  try clear hcz11_6
  try clear hcz11_7
  try clear hcz11_8
  try clear hcz11_9
  try clear hcz12_0
  try clear hcz12_1
  try clear hcz12_2
  try clear hcz12_3
  try clear hcz12_4
  try clear hcz12_5
  try clear hcz12_6
  try clear hcz12_7
  try clear hcz12_8
  try clear hcz12_9
  try clear hcz9_0
  try clear hcz9_1
  try clear hcz9_2
  try clear hcz9_3
  try clear hcz9_4
  try clear hcz9_5
  try clear hcz9_6
  try clear hcz9_7
  try clear hcz9_8
  try clear hcz9_9
  try clear hfz11_0
  try clear hfz11_1
  try clear hfz11_2
  try clear hfz11_3
  try clear hfz11_4
  try clear hfz11_5
  try clear hfz11_6
  try clear hfz11_7
  try clear hfz11_8
  try clear hfz11_9
  try clear hfz12_0
  try clear hfz12_1
  try clear hfz12_2
  try clear hfz12_3
  try clear hfz12_4
  try clear hfz12_5
  try clear hfz12_6
  try clear hfz12_7
  try clear hfz12_8
  try clear hfz12_9
  try clear hfz9_0
  try clear hfz9_1
  try clear hfz9_2
  try clear hfz9_3
  try clear hfz9_4
  try clear hfz9_5
  try clear hfz9_6
  try clear hfz9_7
  try clear hfz9_8
  try clear hfz9_9
  obtain ⟨kq, x18_3, rfl, HA, HJ3, BK454, HB⟩ := hcut
  cases kq with
  | zero => exact absurd HA.out (by simp [impl_ConfTurn.j0])
  | succ kj3 =>
   have H := HA.out
   clear HA
   simp only [impl_ConfTurn.j0] at H
   by_cases c14 : x18_3 = true
   ·subst c14
    have H1 : (some (-1)) = some r := by rw [if_pos rfl] at H; exact H
    clear H
    have H := H1
    clear H1
    obtain rfl := Option.some.inj H
    go_wp2
    go_ret
    exact ⟨by first | rfl | (simp [errW_none, errW_some] <;> rfl) | (simp [*, errW_none, errW_some] <;> rfl), by repeat (first | (with_reducible first | exact HB.out | apply below_alloc | apply pw_below_drewN | apply below_drew1 | refine below_set ?_ GE454.out) | exact HB.out)⟩
   ·replace c14 := Bool.eq_false_iff.mpr c14
    subst c14
    have H1 : (if a1 = 0 then (if 0 ≤ a2 then (if a2 < (l0_5.length : Int) then (some (rd l0_5 a2)) else (none)) else (none)) else (if a1 = 1 then (if 0 ≤ a2 then (if a2 < (l0_6.length : Int) then (some (rd l0_6 a2)) else (none)) else (none)) else (some (-1)))) = some r := by rw [if_neg (show ¬ (false = true) by decide)] at H; exact H
    clear H
    have H := H1
    clear H1
    by_cases c15 : a1 = 0
    ·rw [if_pos c15] at H
     have c15b0 : (a1 == 0) = true := beq_iff_eq.mpr c15
     have c15b1 : (a1 != 0) = false := bne_eq_false_iff_eq.mpr c15
     clear c15
     by_cases c16 : 0 ≤ a2
     ·rw [if_pos c16] at H
      have c16b0 : decide (0 ≤ a2) = true := decide_eq_true c16
      clear c16
      by_cases c17 : a2 < (l0_5.length : Int)
      ·rw [if_pos c17] at H
       have c17b0 : decide (a2 < (l0_5.length : Int)) = true := decide_eq_true c17
       clear c17
       obtain rfl := Option.some.inj H
       have hcz18_0 : wc.cell? ⟨gb454, 0, none⟩ = some (.int .i64 a0_0) := bc BK454 0
       have hcz18_1 : wc.cell? ⟨gb454, 1, none⟩ = some (.int .i64 a0_1) := bc BK454 1
       have hcz18_2 : wc.cell? ⟨gb454, 2, none⟩ = some (.slice A0_2 l0_2.length c0_2) := bc BK454 2
       have hcz18_3 : wc.cell? ⟨gb454, 3, none⟩ = some (.slice A0_3 l0_3.length c0_3) := bc BK454 3
       have hcz18_4 : wc.cell? ⟨gb454, 4, none⟩ = some (.slice A0_4 l0_4.length c0_4) := bc BK454 4
       have hcz18_5 : wc.cell? ⟨gb454, 5, none⟩ = some (.slice A0_5 l0_5.length c0_5) := bc BK454 5
       have hcz18_6 : wc.cell? ⟨gb454, 6, none⟩ = some (.slice A0_6 l0_6.length c0_6) := bc BK454 6
       have hcz18_7 : wc.cell? ⟨gb454, 7, none⟩ = some (.slice A0_7 l0_7.length c0_7) := bc BK454 7
       have hcz18_8 : wc.cell? ⟨gb454, 8, none⟩ = some (.slice A0_8 l0_8.length c0_8) := bc BK454 8
       have hcz18_9 : wc.cell? ⟨gb454, 9, none⟩ = some (.int .i64 a0_9) := bc BK454 9
       have hfz18_0 := blk_frozen BK454.out 0
       have hfz18_1 := blk_frozen BK454.out 1
       have hfz18_2 := blk_frozen BK454.out 2
       have hfz18_3 := blk_frozen BK454.out 3
       have hfz18_4 := blk_frozen BK454.out 4
       have hfz18_5 := blk_frozen BK454.out 5
       have hfz18_6 := blk_frozen BK454.out 6
       have hfz18_7 := blk_frozen BK454.out 7
       have hfz18_8 := blk_frozen BK454.out 8
       have hfz18_9 := blk_frozen BK454.out 9
       have p457 : 0 ≤ (a2 : Int) := of_decide_eq_true (by first | (with_reducible assumption) | assumption)
       have q457 : a2 < (l0_5.length : Int) := of_decide_eq_true (by first | (with_reducible assumption) | assumption)
       obtain ⟨ad457, e457, hx457_0⟩ := Kd.at_int HR0_5.out a2 p457 q457
       cases e457
       replace hx457_0 := (HB.out.cell (World.block_lt_of_cell? w _ hx457_0)).trans hx457_0
       replace p457 := eq_true p457
       replace q457 := eq_true q457
       go_wp2
       go_ret
       exact ⟨by first | rfl | (simp [errW_none, errW_some] <;> rfl) | (simp [*, errW_none, errW_some] <;> rfl), by repeat (first | (with_reducible first | exact HB.out | apply below_alloc | apply pw_below_drewN | apply below_drew1 | refine below_set ?_ GE454.out) | exact HB.out)⟩
      ·rw [if_neg c17] at H
       exact absurd H (by simp)
     ·rw [if_neg c16] at H
      exact absurd H (by simp)
    ·rw [if_neg c15] at H
     have c15b0 : (a1 == 0) = false := beq_eq_false_iff_ne.mpr c15
     have c15b1 : (a1 != 0) = true := bne_iff_ne.mpr c15
     by_cases c19 : a1 = 1
     ·rw [if_pos c19] at H
      have c19b0 : (a1 == 1) = true := beq_iff_eq.mpr c19
      have c19b1 : (a1 != 1) = false := bne_eq_false_iff_eq.mpr c19
      clear c19
      by_cases c20 : 0 ≤ a2
      ·rw [if_pos c20] at H
       have c20b0 : decide (0 ≤ a2) = true := decide_eq_true c20
       clear c20
       by_cases c21 : a2 < (l0_6.length : Int)
       ·rw [if_pos c21] at H
        have c21b0 : decide (a2 < (l0_6.length : Int)) = true := decide_eq_true c21
        clear c21
        obtain rfl := Option.some.inj H
        have hcz22_0 : wc.cell? ⟨gb454, 0, none⟩ = some (.int .i64 a0_0) := bc BK454 0
        have hcz22_1 : wc.cell? ⟨gb454, 1, none⟩ = some (.int .i64 a0_1) := bc BK454 1
        have hcz22_2 : wc.cell? ⟨gb454, 2, none⟩ = some (.slice A0_2 l0_2.length c0_2) := bc BK454 2
        have hcz22_3 : wc.cell? ⟨gb454, 3, none⟩ = some (.slice A0_3 l0_3.length c0_3) := bc BK454 3
        have hcz22_4 : wc.cell? ⟨gb454, 4, none⟩ = some (.slice A0_4 l0_4.length c0_4) := bc BK454 4
        have hcz22_5 : wc.cell? ⟨gb454, 5, none⟩ = some (.slice A0_5 l0_5.length c0_5) := bc BK454 5
        have hcz22_6 : wc.cell? ⟨gb454, 6, none⟩ = some (.slice A0_6 l0_6.length c0_6) := bc BK454 6
        have hcz22_7 : wc.cell? ⟨gb454, 7, none⟩ = some (.slice A0_7 l0_7.length c0_7) := bc BK454 7
        have hcz22_8 : wc.cell? ⟨gb454, 8, none⟩ = some (.slice A0_8 l0_8.length c0_8) := bc BK454 8
        have hcz22_9 : wc.cell? ⟨gb454, 9, none⟩ = some (.int .i64 a0_9) := bc BK454 9
        have hfz22_0 := blk_frozen BK454.out 0
        have hfz22_1 := blk_frozen BK454.out 1
        have hfz22_2 := blk_frozen BK454.out 2
        have hfz22_3 := blk_frozen BK454.out 3
        have hfz22_4 := blk_frozen BK454.out 4
        have hfz22_5 := blk_frozen BK454.out 5
        have hfz22_6 := blk_frozen BK454.out 6
        have hfz22_7 := blk_frozen BK454.out 7
        have hfz22_8 := blk_frozen BK454.out 8
        have hfz22_9 := blk_frozen BK454.out 9
        have p458 : 0 ≤ (a2 : Int) := of_decide_eq_true (by first | (with_reducible assumption) | assumption)
        have q458 : a2 < (l0_6.length : Int) := of_decide_eq_true (by first | (with_reducible assumption) | assumption)
        obtain ⟨ad458, e458, hx458_0⟩ := Kd.at_int HR0_6.out a2 p458 q458
        cases e458
        replace hx458_0 := (HB.out.cell (World.block_lt_of_cell? w _ hx458_0)).trans hx458_0
        replace p458 := eq_true p458
        replace q458 := eq_true q458
        go_wp2
        go_ret
        exact ⟨by first | rfl | (simp [errW_none, errW_some] <;> rfl) | (simp [*, errW_none, errW_some] <;> rfl), by repeat (first | (with_reducible first | exact HB.out | apply below_alloc | apply pw_below_drewN | apply below_drew1 | refine below_set ?_ GE454.out) | exact HB.out)⟩
       ·rw [if_neg c21] at H
        exact absurd H (by simp)
      ·rw [if_neg c20] at H
       exact absurd H (by simp)
     ·rw [if_neg c19] at H
      have c19b0 : (a1 == 1) = false := beq_eq_false_iff_ne.mpr c19
      have c19b1 : (a1 != 1) = true := bne_iff_ne.mpr c19
      obtain rfl := Option.some.inj H
      go_wp2
      go_ret
      exact ⟨by first | rfl | (simp [errW_none, errW_some] <;> rfl) | (simp [*, errW_none, errW_some] <;> rfl), by repeat (first | (with_reducible first | exact HB.out | apply below_alloc | apply pw_below_drewN | apply below_drew1 | refine below_set ?_ GE454.out) | exact HB.out)⟩

end Go.Proofs.YtcenmlpfbpogoaaDoor.P
