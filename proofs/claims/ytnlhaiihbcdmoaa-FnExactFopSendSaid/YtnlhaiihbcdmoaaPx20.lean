/- The machine side of these statements, function by function: what each Go function answers (as a Lean function), and that it does. Written by a program (mp.py) for this claim. -/
import Derived.Test.YtnlhaiihbcdmoaaPx0
import Derived.Test.YtnlhaiihbcdmoaaPx12
namespace Go.Proofs.Ytnlhaiihbcdmoaa.P
open Go.RowKit Go.Proofs.YtnlhaiihbcdmoaaW.PrintWords Go.Proofs.YtnlhaiihbcdmoaaW.PrintLast Go.Proofs.YtnlhaiihbcdmoaaW.PrintMore
attribute [local go_sem] max2_int min2_int max_two min_two max_three min_three max_four min_four   -- for this text's walks alone
set_option linter.unusedVariables false
set_option linter.unusedSimpArgs false

/-! ### laws_eqFrame: function 56 -/
def laws_eqFrame.f (a0_0 : Bool) (a0_1 : Bool) (a0_2 : Int) (a0_3 : Int) (a0_4 : Int) (a0_5 : ByteArray) (a1_0 : Bool) (a1_1 : Bool) (a1_2 : Int) (a1_3 : Int) (a1_4 : Int) (a1_5 : ByteArray) : Option (Bool) := if (a0_0 != a1_0) = true then (some false) else (if (a0_1 != a1_1) = true then (some false) else (if a0_2 = a1_2 then (if a0_3 = a1_3 then (if a0_4 = a1_4 then (if a0_5.toList = a1_5.toList then (some true) else (some false)) else (some false)) else (some false)) else (some false)))
set_option maxHeartbeats 8000000 in
set_option maxRecDepth 100000 in
theorem laws_eqFrame.calls (a0_0 : Bool) (a0_1 : Bool) (a0_2 : Int) (a0_3 : Int) (a0_4 : Int) (a0_5 : ByteArray) (a1_0 : Bool) (a1_1 : Bool) (a1_2 : Int) (a1_3 : Int) (a1_4 : Int) (a1_5 : ByteArray) (r : Bool) (w : World) (h : laws_eqFrame.f a0_0 a0_1 a0_2 a0_3 a0_4 a0_5 a1_0 a1_1 a1_2 a1_3 a1_4 a1_5 = some r) :
  Calls Try.prog 56 #[.agg #[.bool a0_0, .bool a0_1, .int .i64 a0_2, .int .i64 a0_3, .int .i64 a0_4, .string a0_5], .agg #[.bool a1_0, .bool a1_1, .int .i64 a1_2, .int .i64 a1_3, .int .i64 a1_4, .string a1_5]] w fun e w' => e = .returned (.bool r) ∧ Below w.heap.size w w' := by
 have hu35 := Try.underlying35
 have HB := m_ (Below.refl w.heap.size w)
 have H : (if (a0_0 != a1_0) = true then (some false) else (if (a0_1 != a1_1) = true then (some false) else (if a0_2 = a1_2 then (if a0_3 = a1_3 then (if a0_4 = a1_4 then (if a0_5.toList = a1_5.toList then (some true) else (some false)) else (some false)) else (some false)) else (some false)))) = some r := h
 clear h
 by_cases c3 : (a0_0 != a1_0) = true
 ·rw [if_pos c3] at H
  have c3b0 : (a0_0 != a1_0) = true := c3
  (try (have c3b1 : decide (a0_0 = a1_0) = false := by simpa using c3))
  (try (have c3b2 : (a0_0 == a1_0) = false := by simpa using c3))
  (try (have c3b3 : ¬ (a0_0 = a1_0) := by simpa using c3))
  clear c3
  obtain rfl := Option.some.inj H
  go_enter Try.func56, Try.ntmps56
  go_wp2_with (first | ((with_reducible refine gate_dst (N := 2) rfl ?_); refine box_event ?hg (N := 2) ?hd (cs := #[.bool a0_0, .bool a0_1, .int .i64 a0_2, .int .i64 a0_3, .int .i64 a0_4, .string a0_5]) (t := 35) ?hr ?_; (case hd => rfl); (case hg => rfl); (case hr => first | (go_simp; done) | (go_simp; rfl)); intro gb572 hg w4 hbox hb; have n0_ := m_ (below_step (bN HB.out) hb); have n1_ := m_ (hbox); have n2_ := m_ ((by rw [hg]; exact (below_size (bN HB.out)) : w.heap.size ≤ gb572)); have n3_ := m_ ((by rw [hg]; exact (below_size (bN HB.out)) : w.heap.size ≤ gb572)); clear HB; have HB := n0_; have BK572 := n1_; have GW572 := n2_; have GE572 := n3_; clear n0_ n1_ n2_ n3_; clear hb hbox hg) | ((with_reducible refine gate_dst (N := 3) rfl ?_); refine box_event ?hg (N := 3) ?hd (cs := #[.bool a1_0, .bool a1_1, .int .i64 a1_2, .int .i64 a1_3, .int .i64 a1_4, .string a1_5]) (t := 35) ?hr ?_; (case hd => rfl); (case hg => rfl); (case hr => first | (go_simp; done) | (go_simp; rfl)); intro gb573 hg w5 hbox hb; have n0_ := m_ (blk_below (kN BK572.out) hb); have n1_ := m_ (below_step (bN HB.out) hb); have n2_ := m_ (hbox); have n3_ := m_ ((by rw [hg]; exact (below_size (bN HB.out)) : w.heap.size ≤ gb573)); have n4_ := m_ ((by rw [hg]; exact (below_size (bN HB.out)) : w.heap.size ≤ gb573)); have n5_ := m_ (nL hg BK572.out); have n6_ := m_ (nG hg BK572.out); clear BK572; clear HB; have BK572 := n0_; have HB := n1_; have BK573 := n2_; have GW573 := n3_; have GE573 := n4_; have NB572_573 := n5_; have NB573_572 := n6_; clear n0_ n1_ n2_ n3_ n4_ n5_ n6_; clear hb hbox hg; have hnb6 := NB572_573.out; have hnc6 := NB573_572.out; have hcz7_0 : w5.cell? ⟨gb572, 0, none⟩ = some (.bool a0_0) := bc BK572 0; have hcz7_1 : w5.cell? ⟨gb572, 1, none⟩ = some (.bool a0_1) := bc BK572 1; have hcz7_2 : w5.cell? ⟨gb572, 2, none⟩ = some (.int .i64 a0_2) := bc BK572 2; have hcz7_3 : w5.cell? ⟨gb572, 3, none⟩ = some (.int .i64 a0_3) := bc BK572 3; have hcz7_4 : w5.cell? ⟨gb572, 4, none⟩ = some (.int .i64 a0_4) := bc BK572 4; have hcz7_5 : w5.cell? ⟨gb572, 5, none⟩ = some (.string a0_5) := bc BK572 5; have hfz7_0 := blk_frozen BK572.out 0; have hfz7_1 := blk_frozen BK572.out 1; have hfz7_2 := blk_frozen BK572.out 2; have hfz7_3 := blk_frozen BK572.out 3; have hfz7_4 := blk_frozen BK572.out 4; have hfz7_5 := blk_frozen BK572.out 5; have hcz8_0 : w5.cell? ⟨gb573, 0, none⟩ = some (.bool a1_0) := bc BK573 0; have hcz8_1 : w5.cell? ⟨gb573, 1, none⟩ = some (.bool a1_1) := bc BK573 1; have hcz8_2 : w5.cell? ⟨gb573, 2, none⟩ = some (.int .i64 a1_2) := bc BK573 2; have hcz8_3 : w5.cell? ⟨gb573, 3, none⟩ = some (.int .i64 a1_3) := bc BK573 3; have hcz8_4 : w5.cell? ⟨gb573, 4, none⟩ = some (.int .i64 a1_4) := bc BK573 4; have hcz8_5 : w5.cell? ⟨gb573, 5, none⟩ = some (.string a1_5) := bc BK573 5; have hfz8_0 := blk_frozen BK573.out 0; have hfz8_1 := blk_frozen BK573.out 1; have hfz8_2 := blk_frozen BK573.out 2; have hfz8_3 := blk_frozen BK573.out 3; have hfz8_4 := blk_frozen BK573.out 4; have hfz8_5 := blk_frozen BK573.out 5))
  go_ret
  exact ⟨by first | rfl | (simp [errW_none, errW_some] <;> rfl) | (simp [*, errW_none, errW_some] <;> rfl), by repeat (first | (with_reducible first | exact HB.out | apply below_alloc | apply pw_below_drewN | apply below_drew1 | refine below_set ?_ GE572.out | refine below_set ?_ GE573.out) | exact HB.out)⟩
 ·rw [if_neg c3] at H
  have c3b0 : (a0_0 != a1_0) = false := by simpa using c3
  (try (have c3b1 : decide (a0_0 = a1_0) = true := by simpa using c3))
  (try (have c3b2 : (a0_0 == a1_0) = true := by simpa using c3))
  clear c3
  by_cases c9 : (a0_1 != a1_1) = true
  ·rw [if_pos c9] at H
   have c9b0 : (a0_1 != a1_1) = true := c9
   (try (have c9b1 : decide (a0_1 = a1_1) = false := by simpa using c9))
   (try (have c9b2 : (a0_1 == a1_1) = false := by simpa using c9))
   (try (have c9b3 : ¬ (a0_1 = a1_1) := by simpa using c9))
   clear c9
   obtain rfl := Option.some.inj H
   go_enter Try.func56, Try.ntmps56
   go_wp2_with (first | ((with_reducible refine gate_dst (N := 2) rfl ?_); refine box_event ?hg (N := 2) ?hd (cs := #[.bool a0_0, .bool a0_1, .int .i64 a0_2, .int .i64 a0_3, .int .i64 a0_4, .string a0_5]) (t := 35) ?hr ?_; (case hd => rfl); (case hg => rfl); (case hr => first | (go_simp; done) | (go_simp; rfl)); intro gb572 hg w10 hbox hb; have n0_ := m_ (below_step (bN HB.out) hb); have n1_ := m_ (hbox); have n2_ := m_ ((by rw [hg]; exact (below_size (bN HB.out)) : w.heap.size ≤ gb572)); have n3_ := m_ ((by rw [hg]; exact (below_size (bN HB.out)) : w.heap.size ≤ gb572)); clear HB; have HB := n0_; have BK572 := n1_; have GW572 := n2_; have GE572 := n3_; clear n0_ n1_ n2_ n3_; clear hb hbox hg) | ((with_reducible refine gate_dst (N := 3) rfl ?_); refine box_event ?hg (N := 3) ?hd (cs := #[.bool a1_0, .bool a1_1, .int .i64 a1_2, .int .i64 a1_3, .int .i64 a1_4, .string a1_5]) (t := 35) ?hr ?_; (case hd => rfl); (case hg => rfl); (case hr => first | (go_simp; done) | (go_simp; rfl)); intro gb573 hg w11 hbox hb; have n0_ := m_ (blk_below (kN BK572.out) hb); have n1_ := m_ (below_step (bN HB.out) hb); have n2_ := m_ (hbox); have n3_ := m_ ((by rw [hg]; exact (below_size (bN HB.out)) : w.heap.size ≤ gb573)); have n4_ := m_ ((by rw [hg]; exact (below_size (bN HB.out)) : w.heap.size ≤ gb573)); have n5_ := m_ (nL hg BK572.out); have n6_ := m_ (nG hg BK572.out); clear BK572; clear HB; have BK572 := n0_; have HB := n1_; have BK573 := n2_; have GW573 := n3_; have GE573 := n4_; have NB572_573 := n5_; have NB573_572 := n6_; clear n0_ n1_ n2_ n3_ n4_ n5_ n6_; clear hb hbox hg; have hnb12 := NB572_573.out; have hnc12 := NB573_572.out; have hcz13_0 : w11.cell? ⟨gb572, 0, none⟩ = some (.bool a0_0) := bc BK572 0; have hcz13_1 : w11.cell? ⟨gb572, 1, none⟩ = some (.bool a0_1) := bc BK572 1; have hcz13_2 : w11.cell? ⟨gb572, 2, none⟩ = some (.int .i64 a0_2) := bc BK572 2; have hcz13_3 : w11.cell? ⟨gb572, 3, none⟩ = some (.int .i64 a0_3) := bc BK572 3; have hcz13_4 : w11.cell? ⟨gb572, 4, none⟩ = some (.int .i64 a0_4) := bc BK572 4; have hcz13_5 : w11.cell? ⟨gb572, 5, none⟩ = some (.string a0_5) := bc BK572 5; have hfz13_0 := blk_frozen BK572.out 0; have hfz13_1 := blk_frozen BK572.out 1; have hfz13_2 := blk_frozen BK572.out 2; have hfz13_3 := blk_frozen BK572.out 3; have hfz13_4 := blk_frozen BK572.out 4; have hfz13_5 := blk_frozen BK572.out 5; have hcz14_0 : w11.cell? ⟨gb573, 0, none⟩ = some (.bool a1_0) := bc BK573 0; have hcz14_1 : w11.cell? ⟨gb573, 1, none⟩ = some (.bool a1_1) := bc BK573 1; have hcz14_2 : w11.cell? ⟨gb573, 2, none⟩ = some (.int .i64 a1_2) := bc BK573 2; have hcz14_3 : w11.cell? ⟨gb573, 3, none⟩ = some (.int .i64 a1_3) := bc BK573 3; have hcz14_4 : w11.cell? ⟨gb573, 4, none⟩ = some (.int .i64 a1_4) := bc BK573 4; have hcz14_5 : w11.cell? ⟨gb573, 5, none⟩ = some (.string a1_5) := bc BK573 5; have hfz14_0 := blk_frozen BK573.out 0; have hfz14_1 := blk_frozen BK573.out 1; have hfz14_2 := blk_frozen BK573.out 2; have hfz14_3 := blk_frozen BK573.out 3; have hfz14_4 := blk_frozen BK573.out 4; have hfz14_5 := blk_frozen BK573.out 5))
   go_ret
   exact ⟨by first | rfl | (simp [errW_none, errW_some] <;> rfl) | (simp [*, errW_none, errW_some] <;> rfl), by repeat (first | (with_reducible first | exact HB.out | apply below_alloc | apply pw_below_drewN | apply below_drew1 | refine below_set ?_ GE572.out | refine below_set ?_ GE573.out) | exact HB.out)⟩
  ·rw [if_neg c9] at H
   have c9b0 : (a0_1 != a1_1) = false := by simpa using c9
   (try (have c9b1 : decide (a0_1 = a1_1) = true := by simpa using c9))
   (try (have c9b2 : (a0_1 == a1_1) = true := by simpa using c9))
   clear c9
   by_cases c15 : a0_2 = a1_2
   ·rw [if_pos c15] at H
    have c15b0 : (a0_2 == a1_2) = true := beq_iff_eq.mpr c15
    have c15b1 : (a0_2 != a1_2) = false := bne_eq_false_iff_eq.mpr c15
    clear c15
    by_cases c16 : a0_3 = a1_3
    ·rw [if_pos c16] at H
     have c16b0 : (a0_3 == a1_3) = true := beq_iff_eq.mpr c16
     have c16b1 : (a0_3 != a1_3) = false := bne_eq_false_iff_eq.mpr c16
     clear c16
     by_cases c17 : a0_4 = a1_4
     ·rw [if_pos c17] at H
      have c17b0 : (a0_4 == a1_4) = true := beq_iff_eq.mpr c17
      have c17b1 : (a0_4 != a1_4) = false := bne_eq_false_iff_eq.mpr c17
      clear c17
      by_cases c18 : a0_5.toList = a1_5.toList
      ·rw [if_pos c18] at H
       have c18b0 : (a0_5.toList == a1_5.toList) = true := beq_iff_eq.mpr c18
       have c18b1 : (a0_5.toList != a1_5.toList) = false := bne_eq_false_iff_eq.mpr c18
       clear c18
       obtain rfl := Option.some.inj H
       go_enter Try.func56, Try.ntmps56
       go_wp2_with (first | ((with_reducible refine gate_dst (N := 2) rfl ?_); refine box_event ?hg (N := 2) ?hd (cs := #[.bool a0_0, .bool a0_1, .int .i64 a0_2, .int .i64 a0_3, .int .i64 a0_4, .string a0_5]) (t := 35) ?hr ?_; (case hd => rfl); (case hg => rfl); (case hr => first | (go_simp; done) | (go_simp; rfl)); intro gb572 hg w19 hbox hb; have n0_ := m_ (below_step (bN HB.out) hb); have n1_ := m_ (hbox); have n2_ := m_ ((by rw [hg]; exact (below_size (bN HB.out)) : w.heap.size ≤ gb572)); have n3_ := m_ ((by rw [hg]; exact (below_size (bN HB.out)) : w.heap.size ≤ gb572)); clear HB; have HB := n0_; have BK572 := n1_; have GW572 := n2_; have GE572 := n3_; clear n0_ n1_ n2_ n3_; clear hb hbox hg) | ((with_reducible refine gate_dst (N := 3) rfl ?_); refine box_event ?hg (N := 3) ?hd (cs := #[.bool a1_0, .bool a1_1, .int .i64 a1_2, .int .i64 a1_3, .int .i64 a1_4, .string a1_5]) (t := 35) ?hr ?_; (case hd => rfl); (case hg => rfl); (case hr => first | (go_simp; done) | (go_simp; rfl)); intro gb573 hg w20 hbox hb; have n0_ := m_ (blk_below (kN BK572.out) hb); have n1_ := m_ (below_step (bN HB.out) hb); have n2_ := m_ (hbox); have n3_ := m_ ((by rw [hg]; exact (below_size (bN HB.out)) : w.heap.size ≤ gb573)); have n4_ := m_ ((by rw [hg]; exact (below_size (bN HB.out)) : w.heap.size ≤ gb573)); have n5_ := m_ (nL hg BK572.out); have n6_ := m_ (nG hg BK572.out); clear BK572; clear HB; have BK572 := n0_; have HB := n1_; have BK573 := n2_; have GW573 := n3_; have GE573 := n4_; have NB572_573 := n5_; have NB573_572 := n6_; clear n0_ n1_ n2_ n3_ n4_ n5_ n6_; clear hb hbox hg; have hnb21 := NB572_573.out; have hnc21 := NB573_572.out; have hcz22_0 : w20.cell? ⟨gb572, 0, none⟩ = some (.bool a0_0) := bc BK572 0; have hcz22_1 : w20.cell? ⟨gb572, 1, none⟩ = some (.bool a0_1) := bc BK572 1; have hcz22_2 : w20.cell? ⟨gb572, 2, none⟩ = some (.int .i64 a0_2) := bc BK572 2; have hcz22_3 : w20.cell? ⟨gb572, 3, none⟩ = some (.int .i64 a0_3) := bc BK572 3; have hcz22_4 : w20.cell? ⟨gb572, 4, none⟩ = some (.int .i64 a0_4) := bc BK572 4; have hcz22_5 : w20.cell? ⟨gb572, 5, none⟩ = some (.string a0_5) := bc BK572 5; have hfz22_0 := blk_frozen BK572.out 0; have hfz22_1 := blk_frozen BK572.out 1; have hfz22_2 := blk_frozen BK572.out 2; have hfz22_3 := blk_frozen BK572.out 3; have hfz22_4 := blk_frozen BK572.out 4; have hfz22_5 := blk_frozen BK572.out 5; have hcz23_0 : w20.cell? ⟨gb573, 0, none⟩ = some (.bool a1_0) := bc BK573 0; have hcz23_1 : w20.cell? ⟨gb573, 1, none⟩ = some (.bool a1_1) := bc BK573 1; have hcz23_2 : w20.cell? ⟨gb573, 2, none⟩ = some (.int .i64 a1_2) := bc BK573 2; have hcz23_3 : w20.cell? ⟨gb573, 3, none⟩ = some (.int .i64 a1_3) := bc BK573 3; have hcz23_4 : w20.cell? ⟨gb573, 4, none⟩ = some (.int .i64 a1_4) := bc BK573 4; have hcz23_5 : w20.cell? ⟨gb573, 5, none⟩ = some (.string a1_5) := bc BK573 5; have hfz23_0 := blk_frozen BK573.out 0; have hfz23_1 := blk_frozen BK573.out 1; have hfz23_2 := blk_frozen BK573.out 2; have hfz23_3 := blk_frozen BK573.out 3; have hfz23_4 := blk_frozen BK573.out 4; have hfz23_5 := blk_frozen BK573.out 5))
       go_ret
       exact ⟨by first | rfl | (simp [errW_none, errW_some] <;> rfl) | (simp [*, errW_none, errW_some] <;> rfl), by repeat (first | (with_reducible first | exact HB.out | apply below_alloc | apply pw_below_drewN | apply below_drew1 | refine below_set ?_ GE572.out | refine below_set ?_ GE573.out) | exact HB.out)⟩
      ·rw [if_neg c18] at H
       have c18b0 : (a0_5.toList == a1_5.toList) = false := beq_eq_false_iff_ne.mpr c18
       have c18b1 : (a0_5.toList != a1_5.toList) = true := bne_iff_ne.mpr c18
       obtain rfl := Option.some.inj H
       go_enter Try.func56, Try.ntmps56
       go_wp2_with (first | ((with_reducible refine gate_dst (N := 2) rfl ?_); refine box_event ?hg (N := 2) ?hd (cs := #[.bool a0_0, .bool a0_1, .int .i64 a0_2, .int .i64 a0_3, .int .i64 a0_4, .string a0_5]) (t := 35) ?hr ?_; (case hd => rfl); (case hg => rfl); (case hr => first | (go_simp; done) | (go_simp; rfl)); intro gb572 hg w24 hbox hb; have n0_ := m_ (below_step (bN HB.out) hb); have n1_ := m_ (hbox); have n2_ := m_ ((by rw [hg]; exact (below_size (bN HB.out)) : w.heap.size ≤ gb572)); have n3_ := m_ ((by rw [hg]; exact (below_size (bN HB.out)) : w.heap.size ≤ gb572)); clear HB; have HB := n0_; have BK572 := n1_; have GW572 := n2_; have GE572 := n3_; clear n0_ n1_ n2_ n3_; clear hb hbox hg) | ((with_reducible refine gate_dst (N := 3) rfl ?_); refine box_event ?hg (N := 3) ?hd (cs := #[.bool a1_0, .bool a1_1, .int .i64 a1_2, .int .i64 a1_3, .int .i64 a1_4, .string a1_5]) (t := 35) ?hr ?_; (case hd => rfl); (case hg => rfl); (case hr => first | (go_simp; done) | (go_simp; rfl)); intro gb573 hg w25 hbox hb; have n0_ := m_ (blk_below (kN BK572.out) hb); have n1_ := m_ (below_step (bN HB.out) hb); have n2_ := m_ (hbox); have n3_ := m_ ((by rw [hg]; exact (below_size (bN HB.out)) : w.heap.size ≤ gb573)); have n4_ := m_ ((by rw [hg]; exact (below_size (bN HB.out)) : w.heap.size ≤ gb573)); have n5_ := m_ (nL hg BK572.out); have n6_ := m_ (nG hg BK572.out); clear BK572; clear HB; have BK572 := n0_; have HB := n1_; have BK573 := n2_; have GW573 := n3_; have GE573 := n4_; have NB572_573 := n5_; have NB573_572 := n6_; clear n0_ n1_ n2_ n3_ n4_ n5_ n6_; clear hb hbox hg; have hnb26 := NB572_573.out; have hnc26 := NB573_572.out; have hcz27_0 : w25.cell? ⟨gb572, 0, none⟩ = some (.bool a0_0) := bc BK572 0; have hcz27_1 : w25.cell? ⟨gb572, 1, none⟩ = some (.bool a0_1) := bc BK572 1; have hcz27_2 : w25.cell? ⟨gb572, 2, none⟩ = some (.int .i64 a0_2) := bc BK572 2; have hcz27_3 : w25.cell? ⟨gb572, 3, none⟩ = some (.int .i64 a0_3) := bc BK572 3; have hcz27_4 : w25.cell? ⟨gb572, 4, none⟩ = some (.int .i64 a0_4) := bc BK572 4; have hcz27_5 : w25.cell? ⟨gb572, 5, none⟩ = some (.string a0_5) := bc BK572 5; have hfz27_0 := blk_frozen BK572.out 0; have hfz27_1 := blk_frozen BK572.out 1; have hfz27_2 := blk_frozen BK572.out 2; have hfz27_3 := blk_frozen BK572.out 3; have hfz27_4 := blk_frozen BK572.out 4; have hfz27_5 := blk_frozen BK572.out 5; have hcz28_0 : w25.cell? ⟨gb573, 0, none⟩ = some (.bool a1_0) := bc BK573 0; have hcz28_1 : w25.cell? ⟨gb573, 1, none⟩ = some (.bool a1_1) := bc BK573 1; have hcz28_2 : w25.cell? ⟨gb573, 2, none⟩ = some (.int .i64 a1_2) := bc BK573 2; have hcz28_3 : w25.cell? ⟨gb573, 3, none⟩ = some (.int .i64 a1_3) := bc BK573 3; have hcz28_4 : w25.cell? ⟨gb573, 4, none⟩ = some (.int .i64 a1_4) := bc BK573 4; have hcz28_5 : w25.cell? ⟨gb573, 5, none⟩ = some (.string a1_5) := bc BK573 5; have hfz28_0 := blk_frozen BK573.out 0; have hfz28_1 := blk_frozen BK573.out 1; have hfz28_2 := blk_frozen BK573.out 2; have hfz28_3 := blk_frozen BK573.out 3; have hfz28_4 := blk_frozen BK573.out 4; have hfz28_5 := blk_frozen BK573.out 5))
       go_ret
       exact ⟨by first | rfl | (simp [errW_none, errW_some] <;> rfl) | (simp [*, errW_none, errW_some] <;> rfl), by repeat (first | (with_reducible first | exact HB.out | apply below_alloc | apply pw_below_drewN | apply below_drew1 | refine below_set ?_ GE572.out | refine below_set ?_ GE573.out) | exact HB.out)⟩
     ·rw [if_neg c17] at H
      have c17b0 : (a0_4 == a1_4) = false := beq_eq_false_iff_ne.mpr c17
      have c17b1 : (a0_4 != a1_4) = true := bne_iff_ne.mpr c17
      obtain rfl := Option.some.inj H
      go_enter Try.func56, Try.ntmps56
      go_wp2_with (first | ((with_reducible refine gate_dst (N := 2) rfl ?_); refine box_event ?hg (N := 2) ?hd (cs := #[.bool a0_0, .bool a0_1, .int .i64 a0_2, .int .i64 a0_3, .int .i64 a0_4, .string a0_5]) (t := 35) ?hr ?_; (case hd => rfl); (case hg => rfl); (case hr => first | (go_simp; done) | (go_simp; rfl)); intro gb572 hg w29 hbox hb; have n0_ := m_ (below_step (bN HB.out) hb); have n1_ := m_ (hbox); have n2_ := m_ ((by rw [hg]; exact (below_size (bN HB.out)) : w.heap.size ≤ gb572)); have n3_ := m_ ((by rw [hg]; exact (below_size (bN HB.out)) : w.heap.size ≤ gb572)); clear HB; have HB := n0_; have BK572 := n1_; have GW572 := n2_; have GE572 := n3_; clear n0_ n1_ n2_ n3_; clear hb hbox hg) | ((with_reducible refine gate_dst (N := 3) rfl ?_); refine box_event ?hg (N := 3) ?hd (cs := #[.bool a1_0, .bool a1_1, .int .i64 a1_2, .int .i64 a1_3, .int .i64 a1_4, .string a1_5]) (t := 35) ?hr ?_; (case hd => rfl); (case hg => rfl); (case hr => first | (go_simp; done) | (go_simp; rfl)); intro gb573 hg w30 hbox hb; have n0_ := m_ (blk_below (kN BK572.out) hb); have n1_ := m_ (below_step (bN HB.out) hb); have n2_ := m_ (hbox); have n3_ := m_ ((by rw [hg]; exact (below_size (bN HB.out)) : w.heap.size ≤ gb573)); have n4_ := m_ ((by rw [hg]; exact (below_size (bN HB.out)) : w.heap.size ≤ gb573)); have n5_ := m_ (nL hg BK572.out); have n6_ := m_ (nG hg BK572.out); clear BK572; clear HB; have BK572 := n0_; have HB := n1_; have BK573 := n2_; have GW573 := n3_; have GE573 := n4_; have NB572_573 := n5_; have NB573_572 := n6_; clear n0_ n1_ n2_ n3_ n4_ n5_ n6_; clear hb hbox hg; have hnb31 := NB572_573.out; have hnc31 := NB573_572.out; have hcz32_0 : w30.cell? ⟨gb572, 0, none⟩ = some (.bool a0_0) := bc BK572 0; have hcz32_1 : w30.cell? ⟨gb572, 1, none⟩ = some (.bool a0_1) := bc BK572 1; have hcz32_2 : w30.cell? ⟨gb572, 2, none⟩ = some (.int .i64 a0_2) := bc BK572 2; have hcz32_3 : w30.cell? ⟨gb572, 3, none⟩ = some (.int .i64 a0_3) := bc BK572 3; have hcz32_4 : w30.cell? ⟨gb572, 4, none⟩ = some (.int .i64 a0_4) := bc BK572 4; have hcz32_5 : w30.cell? ⟨gb572, 5, none⟩ = some (.string a0_5) := bc BK572 5; have hfz32_0 := blk_frozen BK572.out 0; have hfz32_1 := blk_frozen BK572.out 1; have hfz32_2 := blk_frozen BK572.out 2; have hfz32_3 := blk_frozen BK572.out 3; have hfz32_4 := blk_frozen BK572.out 4; have hfz32_5 := blk_frozen BK572.out 5; have hcz33_0 : w30.cell? ⟨gb573, 0, none⟩ = some (.bool a1_0) := bc BK573 0; have hcz33_1 : w30.cell? ⟨gb573, 1, none⟩ = some (.bool a1_1) := bc BK573 1; have hcz33_2 : w30.cell? ⟨gb573, 2, none⟩ = some (.int .i64 a1_2) := bc BK573 2; have hcz33_3 : w30.cell? ⟨gb573, 3, none⟩ = some (.int .i64 a1_3) := bc BK573 3; have hcz33_4 : w30.cell? ⟨gb573, 4, none⟩ = some (.int .i64 a1_4) := bc BK573 4; have hcz33_5 : w30.cell? ⟨gb573, 5, none⟩ = some (.string a1_5) := bc BK573 5; have hfz33_0 := blk_frozen BK573.out 0; have hfz33_1 := blk_frozen BK573.out 1; have hfz33_2 := blk_frozen BK573.out 2; have hfz33_3 := blk_frozen BK573.out 3; have hfz33_4 := blk_frozen BK573.out 4; have hfz33_5 := blk_frozen BK573.out 5))
      go_ret
      exact ⟨by first | rfl | (simp [errW_none, errW_some] <;> rfl) | (simp [*, errW_none, errW_some] <;> rfl), by repeat (first | (with_reducible first | exact HB.out | apply below_alloc | apply pw_below_drewN | apply below_drew1 | refine below_set ?_ GE572.out | refine below_set ?_ GE573.out) | exact HB.out)⟩
    ·rw [if_neg c16] at H
     have c16b0 : (a0_3 == a1_3) = false := beq_eq_false_iff_ne.mpr c16
     have c16b1 : (a0_3 != a1_3) = true := bne_iff_ne.mpr c16
     obtain rfl := Option.some.inj H
     go_enter Try.func56, Try.ntmps56
     go_wp2_with (first | ((with_reducible refine gate_dst (N := 2) rfl ?_); refine box_event ?hg (N := 2) ?hd (cs := #[.bool a0_0, .bool a0_1, .int .i64 a0_2, .int .i64 a0_3, .int .i64 a0_4, .string a0_5]) (t := 35) ?hr ?_; (case hd => rfl); (case hg => rfl); (case hr => first | (go_simp; done) | (go_simp; rfl)); intro gb572 hg w34 hbox hb; have n0_ := m_ (below_step (bN HB.out) hb); have n1_ := m_ (hbox); have n2_ := m_ ((by rw [hg]; exact (below_size (bN HB.out)) : w.heap.size ≤ gb572)); have n3_ := m_ ((by rw [hg]; exact (below_size (bN HB.out)) : w.heap.size ≤ gb572)); clear HB; have HB := n0_; have BK572 := n1_; have GW572 := n2_; have GE572 := n3_; clear n0_ n1_ n2_ n3_; clear hb hbox hg) | ((with_reducible refine gate_dst (N := 3) rfl ?_); refine box_event ?hg (N := 3) ?hd (cs := #[.bool a1_0, .bool a1_1, .int .i64 a1_2, .int .i64 a1_3, .int .i64 a1_4, .string a1_5]) (t := 35) ?hr ?_; (case hd => rfl); (case hg => rfl); (case hr => first | (go_simp; done) | (go_simp; rfl)); intro gb573 hg w35 hbox hb; have n0_ := m_ (blk_below (kN BK572.out) hb); have n1_ := m_ (below_step (bN HB.out) hb); have n2_ := m_ (hbox); have n3_ := m_ ((by rw [hg]; exact (below_size (bN HB.out)) : w.heap.size ≤ gb573)); have n4_ := m_ ((by rw [hg]; exact (below_size (bN HB.out)) : w.heap.size ≤ gb573)); have n5_ := m_ (nL hg BK572.out); have n6_ := m_ (nG hg BK572.out); clear BK572; clear HB; have BK572 := n0_; have HB := n1_; have BK573 := n2_; have GW573 := n3_; have GE573 := n4_; have NB572_573 := n5_; have NB573_572 := n6_; clear n0_ n1_ n2_ n3_ n4_ n5_ n6_; clear hb hbox hg; have hnb36 := NB572_573.out; have hnc36 := NB573_572.out; have hcz37_0 : w35.cell? ⟨gb572, 0, none⟩ = some (.bool a0_0) := bc BK572 0; have hcz37_1 : w35.cell? ⟨gb572, 1, none⟩ = some (.bool a0_1) := bc BK572 1; have hcz37_2 : w35.cell? ⟨gb572, 2, none⟩ = some (.int .i64 a0_2) := bc BK572 2; have hcz37_3 : w35.cell? ⟨gb572, 3, none⟩ = some (.int .i64 a0_3) := bc BK572 3; have hcz37_4 : w35.cell? ⟨gb572, 4, none⟩ = some (.int .i64 a0_4) := bc BK572 4; have hcz37_5 : w35.cell? ⟨gb572, 5, none⟩ = some (.string a0_5) := bc BK572 5; have hfz37_0 := blk_frozen BK572.out 0; have hfz37_1 := blk_frozen BK572.out 1; have hfz37_2 := blk_frozen BK572.out 2; have hfz37_3 := blk_frozen BK572.out 3; have hfz37_4 := blk_frozen BK572.out 4; have hfz37_5 := blk_frozen BK572.out 5; have hcz38_0 : w35.cell? ⟨gb573, 0, none⟩ = some (.bool a1_0) := bc BK573 0; have hcz38_1 : w35.cell? ⟨gb573, 1, none⟩ = some (.bool a1_1) := bc BK573 1; have hcz38_2 : w35.cell? ⟨gb573, 2, none⟩ = some (.int .i64 a1_2) := bc BK573 2; have hcz38_3 : w35.cell? ⟨gb573, 3, none⟩ = some (.int .i64 a1_3) := bc BK573 3; have hcz38_4 : w35.cell? ⟨gb573, 4, none⟩ = some (.int .i64 a1_4) := bc BK573 4; have hcz38_5 : w35.cell? ⟨gb573, 5, none⟩ = some (.string a1_5) := bc BK573 5; have hfz38_0 := blk_frozen BK573.out 0; have hfz38_1 := blk_frozen BK573.out 1; have hfz38_2 := blk_frozen BK573.out 2; have hfz38_3 := blk_frozen BK573.out 3; have hfz38_4 := blk_frozen BK573.out 4; have hfz38_5 := blk_frozen BK573.out 5))
     go_ret
     exact ⟨by first | rfl | (simp [errW_none, errW_some] <;> rfl) | (simp [*, errW_none, errW_some] <;> rfl), by repeat (first | (with_reducible first | exact HB.out | apply below_alloc | apply pw_below_drewN | apply below_drew1 | refine below_set ?_ GE572.out | refine below_set ?_ GE573.out) | exact HB.out)⟩
   ·rw [if_neg c15] at H
    have c15b0 : (a0_2 == a1_2) = false := beq_eq_false_iff_ne.mpr c15
    have c15b1 : (a0_2 != a1_2) = true := bne_iff_ne.mpr c15
    obtain rfl := Option.some.inj H
    go_enter Try.func56, Try.ntmps56
    go_wp2_with (first | ((with_reducible refine gate_dst (N := 2) rfl ?_); refine box_event ?hg (N := 2) ?hd (cs := #[.bool a0_0, .bool a0_1, .int .i64 a0_2, .int .i64 a0_3, .int .i64 a0_4, .string a0_5]) (t := 35) ?hr ?_; (case hd => rfl); (case hg => rfl); (case hr => first | (go_simp; done) | (go_simp; rfl)); intro gb572 hg w39 hbox hb; have n0_ := m_ (below_step (bN HB.out) hb); have n1_ := m_ (hbox); have n2_ := m_ ((by rw [hg]; exact (below_size (bN HB.out)) : w.heap.size ≤ gb572)); have n3_ := m_ ((by rw [hg]; exact (below_size (bN HB.out)) : w.heap.size ≤ gb572)); clear HB; have HB := n0_; have BK572 := n1_; have GW572 := n2_; have GE572 := n3_; clear n0_ n1_ n2_ n3_; clear hb hbox hg) | ((with_reducible refine gate_dst (N := 3) rfl ?_); refine box_event ?hg (N := 3) ?hd (cs := #[.bool a1_0, .bool a1_1, .int .i64 a1_2, .int .i64 a1_3, .int .i64 a1_4, .string a1_5]) (t := 35) ?hr ?_; (case hd => rfl); (case hg => rfl); (case hr => first | (go_simp; done) | (go_simp; rfl)); intro gb573 hg w40 hbox hb; have n0_ := m_ (blk_below (kN BK572.out) hb); have n1_ := m_ (below_step (bN HB.out) hb); have n2_ := m_ (hbox); have n3_ := m_ ((by rw [hg]; exact (below_size (bN HB.out)) : w.heap.size ≤ gb573)); have n4_ := m_ ((by rw [hg]; exact (below_size (bN HB.out)) : w.heap.size ≤ gb573)); have n5_ := m_ (nL hg BK572.out); have n6_ := m_ (nG hg BK572.out); clear BK572; clear HB; have BK572 := n0_; have HB := n1_; have BK573 := n2_; have GW573 := n3_; have GE573 := n4_; have NB572_573 := n5_; have NB573_572 := n6_; clear n0_ n1_ n2_ n3_ n4_ n5_ n6_; clear hb hbox hg; have hnb41 := NB572_573.out; have hnc41 := NB573_572.out; have hcz42_0 : w40.cell? ⟨gb572, 0, none⟩ = some (.bool a0_0) := bc BK572 0; have hcz42_1 : w40.cell? ⟨gb572, 1, none⟩ = some (.bool a0_1) := bc BK572 1; have hcz42_2 : w40.cell? ⟨gb572, 2, none⟩ = some (.int .i64 a0_2) := bc BK572 2; have hcz42_3 : w40.cell? ⟨gb572, 3, none⟩ = some (.int .i64 a0_3) := bc BK572 3; have hcz42_4 : w40.cell? ⟨gb572, 4, none⟩ = some (.int .i64 a0_4) := bc BK572 4; have hcz42_5 : w40.cell? ⟨gb572, 5, none⟩ = some (.string a0_5) := bc BK572 5; have hfz42_0 := blk_frozen BK572.out 0; have hfz42_1 := blk_frozen BK572.out 1; have hfz42_2 := blk_frozen BK572.out 2; have hfz42_3 := blk_frozen BK572.out 3; have hfz42_4 := blk_frozen BK572.out 4; have hfz42_5 := blk_frozen BK572.out 5; have hcz43_0 : w40.cell? ⟨gb573, 0, none⟩ = some (.bool a1_0) := bc BK573 0; have hcz43_1 : w40.cell? ⟨gb573, 1, none⟩ = some (.bool a1_1) := bc BK573 1; have hcz43_2 : w40.cell? ⟨gb573, 2, none⟩ = some (.int .i64 a1_2) := bc BK573 2; have hcz43_3 : w40.cell? ⟨gb573, 3, none⟩ = some (.int .i64 a1_3) := bc BK573 3; have hcz43_4 : w40.cell? ⟨gb573, 4, none⟩ = some (.int .i64 a1_4) := bc BK573 4; have hcz43_5 : w40.cell? ⟨gb573, 5, none⟩ = some (.string a1_5) := bc BK573 5; have hfz43_0 := blk_frozen BK573.out 0; have hfz43_1 := blk_frozen BK573.out 1; have hfz43_2 := blk_frozen BK573.out 2; have hfz43_3 := blk_frozen BK573.out 3; have hfz43_4 := blk_frozen BK573.out 4; have hfz43_5 := blk_frozen BK573.out 5))
    go_ret
    exact ⟨by first | rfl | (simp [errW_none, errW_some] <;> rfl) | (simp [*, errW_none, errW_some] <;> rfl), by repeat (first | (with_reducible first | exact HB.out | apply below_alloc | apply pw_below_drewN | apply below_drew1 | refine below_set ?_ GE572.out | refine below_set ?_ GE573.out) | exact HB.out)⟩

/-! ### laws_eqFrameS: function 25 -/
def laws_eqFrameS.l0 : Nat → List (S35) → List (S35) → Int → Option (Bool)
 | 0, _, _, _ => none
 | k + 1, x0, x1, x5 => if x5 < (x0.length : Int) then (if 0 ≤ x5 then (if x5 < (x1.length : Int) then ((laws_eqFrame.f ((rd_T35 x0 x5).f0) ((rd_T35 x0 x5).f1) ((rd_T35 x0 x5).f2) ((rd_T35 x0 x5).f3) ((rd_T35 x0 x5).f4) ((rd_T35 x0 x5).f5) ((rd_T35 x1 x5).f0) ((rd_T35 x1 x5).f1) ((rd_T35 x1 x5).f2) ((rd_T35 x1 x5).f3) ((rd_T35 x1 x5).f4) ((rd_T35 x1 x5).f5)).bind fun t576 => (if t576 = true then (laws_eqFrameS.l0 k x0 x1 (wrap64 (x5 + 1))) else (some false))) else (none)) else (none)) else (some true)
def laws_eqFrameS.f (k : Nat) (l0 : List (S35)) (l1 : List (S35)) : Option (Bool) := if (l0.length : Int) = (l1.length : Int) then (laws_eqFrameS.l0 k l0 l1 0) else (some false)
theorem laws_eqFrameS.mono_l : ∀ k, (∀ y0 y1 y2, LeO (laws_eqFrameS.l0 k y0 y1 y2) (laws_eqFrameS.l0 (k + 1) y0 y1 y2))
 | 0 => fun _ _ _ r h => by simp [laws_eqFrameS.l0] at h
 | k + 1 => by
  have ih0 := laws_eqFrameS.mono_l k
  ·intro y0 y1 y2
   unfold laws_eqFrameS.l0
   repeat' first
   | (with_reducible exact ih0 _ _ _)
   | (with_reducible exact LeO.refl _)
   | (with_reducible exact LeO.none _)
   | (with_reducible refine LeO.ite ?_ ?_)
   | (with_reducible refine LeO.bind ?_ (fun _ => ?_))
   | exact ih0 _ _ _
   | exact LeO.none _
   | refine LeO.ite ?_ ?_
   | refine LeO.bind ?_ (fun _ => ?_)
theorem laws_eqFrameS.mono : ∀ a0 a1 k, LeO (laws_eqFrameS.f k a0 a1) (laws_eqFrameS.f (k + 1) a0 a1) := by
 intro a0 a1 k
 have ih0 := laws_eqFrameS.mono_l k
 unfold laws_eqFrameS.f
 repeat' first
   | (with_reducible exact ih0 _ _ _)
   | (with_reducible exact LeO.refl _)
   | (with_reducible exact LeO.none _)
   | (with_reducible refine LeO.ite ?_ ?_)
   | (with_reducible refine LeO.bind ?_ (fun _ => ?_))
   | exact ih0 _ _ _
   | exact LeO.none _
   | refine LeO.ite ?_ ?_
   | refine LeO.bind ?_ (fun _ => ?_)
def laws_eqFrameS.T6 : Bool × List (List Nat × List Nat) := (true, [([], []), ([], []), ([0, 1], [0, 1]), ([2], [2]), ([], []), ([], []), ([4, 5], [4, 5]), ([6], [6]), ([3, 7], [3, 7]), ([8], [8])])
def laws_eqFrameS.B6 : List Nat := [0, 0, 3, 7, 0, 0, 48, 112, 255, 511]
theorem laws_eqFrameS.tab6 : rtab .any (opsOf Try.f25 6) = laws_eqFrameS.T6 := by kernel_rfl
theorem laws_eqFrameS.bits6 : waitsOk laws_eqFrameS.T6.2 laws_eqFrameS.B6 = true := by kernel_rfl
set_option maxHeartbeats 8000000 in
set_option maxRecDepth 100000 in
theorem laws_eqFrameS.calls (k : Nat) (A0 : Option Addr) (c0 : Nat) (l0 : List (S35)) (A1 : Option Addr) (c1 : Nat) (l1 : List (S35)) (r : Bool) (w : World) (hr0 : Kd.C k35 w A0 l0.length l0) (hc0 : l0.length ≤ c0) (hr1 : Kd.C k35 w A1 l1.length l1) (hc1 : l1.length ≤ c1) (h : laws_eqFrameS.f k l0 l1 = some r) :
  Calls Try.prog 25 #[.slice A0 l0.length c0, .slice A1 l1.length c1] w fun e w' => e = .returned (.bool r) ∧ Below w.heap.size w w' := by
 have hu35 := Try.underlying35
 have HR0 := Aside0.mk hr0
 have HC0 := Aside0.mk hc0
 clear hr0 hc0
 have HR1 := Aside0.mk hr1
 have HC1 := Aside0.mk hc1
 clear hr1 hc1
 have HB := m_ (Below.refl w.heap.size w)
 have H : (if (l0.length : Int) = (l1.length : Int) then (laws_eqFrameS.l0 k l0 l1 0) else (some false)) = some r := h
 clear h
 by_cases c3 : (l0.length : Int) = (l1.length : Int)
 ·rw [if_pos c3] at H
  have c3b0 : ((l0.length : Int) == (l1.length : Int)) = true := beq_iff_eq.mpr c3
  have c3b1 : ((l0.length : Int) != (l1.length : Int)) = false := bne_eq_false_iff_eq.mpr c3
  have c3b2 : (l0.length == l1.length) = true := by first | simpa using c3 | (simp at c3 ⊢; omega)
  clear c3
  have H' := Aside0.mk H
  clear H
  go_enter Try.func25, Try.ntmps25
  go_wp2
  go_loopg [5] k (fun kq v5 w' => ∃ (x5_1 : Int), v5 = .int .i64 x5_1 ∧ Aside0 (laws_eqFrameS.l0 kq l0 l1 x5_1 = some r) ∧ Aside0 (kq ≤ k) ∧ Aside0 (Below w.heap.size w w'))
  case atStart => exact ⟨(0), (by first | rfl | (simp; done) | (simp [*]; done)), H', ⟨Nat.le_refl _⟩, ⟨by repeat (first | (with_reducible first | exact HB.out | apply below_alloc | apply pw_below_drewN | apply below_drew1) | exact HB.out)⟩⟩
  case round =>
   clear H'
   try clear c1
   try clear c2
   try clear p2
   try clear c3
   try clear c3b0
   try clear c3b1
   try clear c3b2
   obtain ⟨x5_1, rfl, HA, HK1, HB⟩ := hrel
   cases gk with
   | zero => exact absurd HA.out (by simp [laws_eqFrameS.l0])
   | succ k1 =>
    have H := HA.out
    clear HA
    simp only [laws_eqFrameS.l0] at H
    by_cases c4 : x5_1 < (l0.length : Int)
    ·rw [if_pos c4] at H
     have c4b0 : decide (x5_1 < (l0.length : Int)) = true := decide_eq_true c4
     clear c4
     by_cases c5 : 0 ≤ x5_1
     ·rw [if_pos c5] at H
      have c5b0 : decide (0 ≤ x5_1) = true := decide_eq_true c5
      clear c5
      by_cases c6 : x5_1 < (l1.length : Int)
      ·rw [if_pos c6] at H
       have c6b0 : decide (x5_1 < (l1.length : Int)) = true := decide_eq_true c6
       clear c6
       replace H := Option.bind_eq_some_iff.mp H
       obtain ⟨t576, A70, H⟩ := H
       replace H : (if t576 = true then (laws_eqFrameS.l0 k1 l0 l1 (wrap64 (x5_1 + 1))) else (some false)) = some r := H
       have A7 := Aside0.mk A70
       clear A70
       by_cases c8 : t576 = true
       ·subst c8
        have H1 : (laws_eqFrameS.l0 k1 l0 l1 (wrap64 (x5_1 + 1))) = some r := by rw [if_pos rfl] at H; exact H
        clear H
        have H := H1
        clear H1
        have H' := Aside0.mk H
        clear H
        try go_wp2
        have n0_ := m_ (below_drew1 HB.out)
        clear HB
        have HB := n0_
        clear n0_
        have p574 : 0 ≤ (x5_1 : Int) := of_decide_eq_true (by first | (with_reducible assumption) | assumption)
        have q574 : x5_1 < (l0.length : Int) := of_decide_eq_true (by first | (with_reducible assumption) | assumption)
        obtain ⟨ad574, e574, hx574_0, hx574_1, hx574_2, hx574_3, hx574_4, hx574_5⟩ := at_T35 HR0.out x5_1 p574 q574
        have hw574_5 := hx574_5
        have hw574_4 := hx574_4
        have hw574_3 := hx574_3
        have hw574_2 := hx574_2
        have hw574_1 := hx574_1
        have hw574_0 := hx574_0
        cases e574
        replace hx574_0 := (HB.out.cell (World.block_lt_of_cell? w _ hx574_0)).trans hx574_0
        replace hx574_1 := (HB.out.cell (World.block_lt_of_cell? w _ hx574_1)).trans hx574_1
        replace hx574_2 := (HB.out.cell (World.block_lt_of_cell? w _ hx574_2)).trans hx574_2
        replace hx574_3 := (HB.out.cell (World.block_lt_of_cell? w _ hx574_3)).trans hx574_3
        replace hx574_4 := (HB.out.cell (World.block_lt_of_cell? w _ hx574_4)).trans hx574_4
        replace hx574_5 := (HB.out.cell (World.block_lt_of_cell? w _ hx574_5)).trans hx574_5
        replace p574 := eq_true p574
        replace q574 := eq_true q574
        have p575 : 0 ≤ (x5_1 : Int) := of_decide_eq_true (by first | (with_reducible assumption) | assumption)
        have q575 : x5_1 < (l1.length : Int) := of_decide_eq_true (by first | (with_reducible assumption) | assumption)
        obtain ⟨ad575, e575, hx575_0, hx575_1, hx575_2, hx575_3, hx575_4, hx575_5⟩ := at_T35 HR1.out x5_1 p575 q575
        have hw575_5 := hx575_5
        have hw575_4 := hx575_4
        have hw575_3 := hx575_3
        have hw575_2 := hx575_2
        have hw575_1 := hx575_1
        have hw575_0 := hx575_0
        cases e575
        replace hx575_0 := (HB.out.cell (World.block_lt_of_cell? w _ hx575_0)).trans hx575_0
        replace hx575_1 := (HB.out.cell (World.block_lt_of_cell? w _ hx575_1)).trans hx575_1
        replace hx575_2 := (HB.out.cell (World.block_lt_of_cell? w _ hx575_2)).trans hx575_2
        replace hx575_3 := (HB.out.cell (World.block_lt_of_cell? w _ hx575_3)).trans hx575_3
        replace hx575_4 := (HB.out.cell (World.block_lt_of_cell? w _ hx575_4)).trans hx575_4
        replace hx575_5 := (HB.out.cell (World.block_lt_of_cell? w _ hx575_5)).trans hx575_5
        replace p575 := eq_true p575
        replace q575 := eq_true q575
        refine start_ (n := 10) (S := fun w' => w'.cell? (ad574.add ((x5_1).toNat * 6)) = some (.bool ((rd_T35 l0 x5_1).f0)) ∧ w'.cell? ⟨(ad574.add ((x5_1).toNat * 6)).block, (ad574.add ((x5_1).toNat * 6)).off + 1, none⟩ = some (.bool ((rd_T35 l0 x5_1).f1)) ∧ w'.cell? ⟨(ad574.add ((x5_1).toNat * 6)).block, (ad574.add ((x5_1).toNat * 6)).off + 2, none⟩ = some (.int .i64 ((rd_T35 l0 x5_1).f2)) ∧ w'.cell? ⟨(ad574.add ((x5_1).toNat * 6)).block, (ad574.add ((x5_1).toNat * 6)).off + 3, none⟩ = some (.int .i64 ((rd_T35 l0 x5_1).f3)) ∧ w'.cell? ⟨(ad574.add ((x5_1).toNat * 6)).block, (ad574.add ((x5_1).toNat * 6)).off + 4, none⟩ = some (.int .i64 ((rd_T35 l0 x5_1).f4)) ∧ w'.cell? ⟨(ad574.add ((x5_1).toNat * 6)).block, (ad574.add ((x5_1).toNat * 6)).off + 5, none⟩ = some (.string ((rd_T35 l0 x5_1).f5)) ∧ w'.cell? (ad575.add ((x5_1).toNat * 6)) = some (.bool ((rd_T35 l1 x5_1).f0)) ∧ w'.cell? ⟨(ad575.add ((x5_1).toNat * 6)).block, (ad575.add ((x5_1).toNat * 6)).off + 1, none⟩ = some (.bool ((rd_T35 l1 x5_1).f1)) ∧ w'.cell? ⟨(ad575.add ((x5_1).toNat * 6)).block, (ad575.add ((x5_1).toNat * 6)).off + 2, none⟩ = some (.int .i64 ((rd_T35 l1 x5_1).f2)) ∧ w'.cell? ⟨(ad575.add ((x5_1).toNat * 6)).block, (ad575.add ((x5_1).toNat * 6)).off + 3, none⟩ = some (.int .i64 ((rd_T35 l1 x5_1).f3)) ∧ w'.cell? ⟨(ad575.add ((x5_1).toNat * 6)).block, (ad575.add ((x5_1).toNat * 6)).off + 4, none⟩ = some (.int .i64 ((rd_T35 l1 x5_1).f4)) ∧ w'.cell? ⟨(ad575.add ((x5_1).toNat * 6)).block, (ad575.add ((x5_1).toNat * 6)).off + 5, none⟩ = some (.string ((rd_T35 l1 x5_1).f5))) (ds := []) #[false, false, false, false, false, false, false, false, false, false] (by kernel_rfl) rfl rfl ⟨((HB.out.cell (World.block_lt_of_cell? w _ hw574_0)).trans hw574_0), ((HB.out.cell (World.block_lt_of_cell? w _ hw574_1)).trans hw574_1), ((HB.out.cell (World.block_lt_of_cell? w _ hw574_2)).trans hw574_2), ((HB.out.cell (World.block_lt_of_cell? w _ hw574_3)).trans hw574_3), ((HB.out.cell (World.block_lt_of_cell? w _ hw574_4)).trans hw574_4), ((HB.out.cell (World.block_lt_of_cell? w _ hw574_5)).trans hw574_5), ((HB.out.cell (World.block_lt_of_cell? w _ hw575_0)).trans hw575_0), ((HB.out.cell (World.block_lt_of_cell? w _ hw575_1)).trans hw575_1), ((HB.out.cell (World.block_lt_of_cell? w _ hw575_2)).trans hw575_2), ((HB.out.cell (World.block_lt_of_cell? w _ hw575_3)).trans hw575_3), ((HB.out.cell (World.block_lt_of_cell? w _ hw575_4)).trans hw575_4), ((HB.out.cell (World.block_lt_of_cell? w _ hw575_5)).trans hw575_5)⟩ (fun hHeld => ?_); refine with_tabW laws_eqFrameS.tab6 laws_eqFrameS.bits6 (fun HT_ HW_ => ?_)
        generalize wr.drew = w9 at HB hx574_0 hx574_1 hx574_2 hx574_3 hx574_4 hx574_5 hx575_0 hx575_1 hx575_2 hx575_3 hx575_4 hx575_5 hHeld ⊢
        refine pu 0 17 HT_ (h := ?_)
        refine pu 1 18 HT_ (h := ?_)
        refine pu 2 19 HT_ (h := ?_)
        refine pu 4 21 HT_ (h := ?_)
        refine pu 5 22 HT_ (h := ?_)
        refine pu 6 23 HT_ (h := ?_)
        refine take_ (i := 3) (N := some 20) (v := ?_) (a' := ?_) #[true, true, true, true, true, true, true, false, false, false] rfl rfl (take_ofW HT_.out HW_.out (by kernel_rfl)) (fun _ _ _ h => h) (Or.inl ⟨by rfl, ?_⟩) hHeld ?_ ?_
        rotate_left
        ·rintro w' ⟨s0, s1, s2, s3, s4, s5, s6, s7, s8, s9, s10, s11⟩
         go_simp
         with_reducible rfl
        rotate_left
        ·simp only [Act.put, List.setIfInBounds_toArray, List.set_cons_zero, List.set_cons_succ, i64_w, i32_w]
         rfl
        refine take_ (i := 7) (N := some 24) (v := ?_) (a' := ?_) #[true, true, true, true, true, true, true, true, false, false] rfl rfl (take_ofW HT_.out HW_.out (by kernel_rfl)) (fun _ _ _ h => h) (Or.inl ⟨by rfl, ?_⟩) hHeld ?_ ?_
        rotate_left
        ·rintro w' ⟨s0, s1, s2, s3, s4, s5, s6, s7, s8, s9, s10, s11⟩
         go_simp
         with_reducible rfl
        rotate_left
        ·simp only [Act.put, List.setIfInBounds_toArray, List.set_cons_zero, List.set_cons_succ, i64_w, i32_w]
         rfl
        refine one_ (i := 8) (N := some 25) #[true, true, true, true, true, true, true, true, true, false] rfl rfl (one_of HT_.out (by kernel_rfl)) (by decide) (fun K hK => ?_)
        refine goes_ Try.func56 (by kernel_rfl) rfl #[.agg #[.bool ((rd_T35 l0 x5_1).f0), .bool ((rd_T35 l0 x5_1).f1), .int .i64 ((rd_T35 l0 x5_1).f2), .int .i64 ((rd_T35 l0 x5_1).f3), .int .i64 ((rd_T35 l0 x5_1).f4), .string ((rd_T35 l0 x5_1).f5)], .agg #[.bool ((rd_T35 l1 x5_1).f0), .bool ((rd_T35 l1 x5_1).f1), .int .i64 ((rd_T35 l1 x5_1).f2), .int .i64 ((rd_T35 l1 x5_1).f3), .int .i64 ((rd_T35 l1 x5_1).f4), .string ((rd_T35 l1 x5_1).f5)]] (by rfl) rfl rfl gl_ ?_
        with_reducible refine (laws_eqFrame.calls ((rd_T35 l0 x5_1).f0) ((rd_T35 l0 x5_1).f1) ((rd_T35 l0 x5_1).f2) ((rd_T35 l0 x5_1).f3) ((rd_T35 l0 x5_1).f4) ((rd_T35 l0 x5_1).f5) ((rd_T35 l1 x5_1).f0) ((rd_T35 l1 x5_1).f1) ((rd_T35 l1 x5_1).f2) ((rd_T35 l1 x5_1).f3) ((rd_T35 l1 x5_1).f4) ((rd_T35 l1 x5_1).f5) true _ A7.out).mono ?_
        rintro e w10 ⟨rfl, hb⟩
        refine ⟨_, rfl, ?_⟩
        have n0_ := m_ (below_step (bN HB.out) hb)
        clear HB
        have HB := n0_
        clear n0_
        (try clear hb)
        (try clear hb2)
        (try clear hk)
        (try clear hi)
        refine hK.out _ _ ⟨((HB.out.cell (World.block_lt_of_cell? w _ hw574_0)).trans hw574_0), ((HB.out.cell (World.block_lt_of_cell? w _ hw574_1)).trans hw574_1), ((HB.out.cell (World.block_lt_of_cell? w _ hw574_2)).trans hw574_2), ((HB.out.cell (World.block_lt_of_cell? w _ hw574_3)).trans hw574_3), ((HB.out.cell (World.block_lt_of_cell? w _ hw574_4)).trans hw574_4), ((HB.out.cell (World.block_lt_of_cell? w _ hw574_5)).trans hw574_5), ((HB.out.cell (World.block_lt_of_cell? w _ hw575_0)).trans hw575_0), ((HB.out.cell (World.block_lt_of_cell? w _ hw575_1)).trans hw575_1), ((HB.out.cell (World.block_lt_of_cell? w _ hw575_2)).trans hw575_2), ((HB.out.cell (World.block_lt_of_cell? w _ hw575_3)).trans hw575_3), ((HB.out.cell (World.block_lt_of_cell? w _ hw575_4)).trans hw575_4), ((HB.out.cell (World.block_lt_of_cell? w _ hw575_5)).trans hw575_5)⟩ (fun hHeld => ?_)
        clear hK K
        refine np (h := ?_)
        refine pu 9 26 HT_ (h := ?_)
        refine done_ (done_of HT_.out (by kernel_rfl)) ?_
        try go_wp2
        go_roundg k1
        case measure => have := HK1.out; omega
        case rel => exact ⟨(wrap64 (x5_1 + 1)), (by first | rfl | (simp; done) | (simp [*]; done)), H', ⟨by have := HK1.out; omega⟩, ⟨by repeat (first | (with_reducible first | exact HB.out | apply below_alloc | apply pw_below_drewN | apply below_drew1) | exact HB.out)⟩⟩
       ·replace c8 := Bool.eq_false_iff.mpr c8
        subst c8
        have H1 : (some false) = some r := by rw [if_neg (show ¬ (false = true) by decide)] at H; exact H
        clear H
        have H := H1
        clear H1
        obtain rfl := Option.some.inj H
        try go_wp2
        have n0_ := m_ (below_drew1 HB.out)
        clear HB
        have HB := n0_
        clear n0_
        have p574 : 0 ≤ (x5_1 : Int) := of_decide_eq_true (by first | (with_reducible assumption) | assumption)
        have q574 : x5_1 < (l0.length : Int) := of_decide_eq_true (by first | (with_reducible assumption) | assumption)
        obtain ⟨ad574, e574, hx574_0, hx574_1, hx574_2, hx574_3, hx574_4, hx574_5⟩ := at_T35 HR0.out x5_1 p574 q574
        have hw574_5 := hx574_5
        have hw574_4 := hx574_4
        have hw574_3 := hx574_3
        have hw574_2 := hx574_2
        have hw574_1 := hx574_1
        have hw574_0 := hx574_0
        cases e574
        replace hx574_0 := (HB.out.cell (World.block_lt_of_cell? w _ hx574_0)).trans hx574_0
        replace hx574_1 := (HB.out.cell (World.block_lt_of_cell? w _ hx574_1)).trans hx574_1
        replace hx574_2 := (HB.out.cell (World.block_lt_of_cell? w _ hx574_2)).trans hx574_2
        replace hx574_3 := (HB.out.cell (World.block_lt_of_cell? w _ hx574_3)).trans hx574_3
        replace hx574_4 := (HB.out.cell (World.block_lt_of_cell? w _ hx574_4)).trans hx574_4
        replace hx574_5 := (HB.out.cell (World.block_lt_of_cell? w _ hx574_5)).trans hx574_5
        replace p574 := eq_true p574
        replace q574 := eq_true q574
        have p575 : 0 ≤ (x5_1 : Int) := of_decide_eq_true (by first | (with_reducible assumption) | assumption)
        have q575 : x5_1 < (l1.length : Int) := of_decide_eq_true (by first | (with_reducible assumption) | assumption)
        obtain ⟨ad575, e575, hx575_0, hx575_1, hx575_2, hx575_3, hx575_4, hx575_5⟩ := at_T35 HR1.out x5_1 p575 q575
        have hw575_5 := hx575_5
        have hw575_4 := hx575_4
        have hw575_3 := hx575_3
        have hw575_2 := hx575_2
        have hw575_1 := hx575_1
        have hw575_0 := hx575_0
        cases e575
        replace hx575_0 := (HB.out.cell (World.block_lt_of_cell? w _ hx575_0)).trans hx575_0
        replace hx575_1 := (HB.out.cell (World.block_lt_of_cell? w _ hx575_1)).trans hx575_1
        replace hx575_2 := (HB.out.cell (World.block_lt_of_cell? w _ hx575_2)).trans hx575_2
        replace hx575_3 := (HB.out.cell (World.block_lt_of_cell? w _ hx575_3)).trans hx575_3
        replace hx575_4 := (HB.out.cell (World.block_lt_of_cell? w _ hx575_4)).trans hx575_4
        replace hx575_5 := (HB.out.cell (World.block_lt_of_cell? w _ hx575_5)).trans hx575_5
        replace p575 := eq_true p575
        replace q575 := eq_true q575
        refine start_ (n := 10) (S := fun w' => w'.cell? (ad574.add ((x5_1).toNat * 6)) = some (.bool ((rd_T35 l0 x5_1).f0)) ∧ w'.cell? ⟨(ad574.add ((x5_1).toNat * 6)).block, (ad574.add ((x5_1).toNat * 6)).off + 1, none⟩ = some (.bool ((rd_T35 l0 x5_1).f1)) ∧ w'.cell? ⟨(ad574.add ((x5_1).toNat * 6)).block, (ad574.add ((x5_1).toNat * 6)).off + 2, none⟩ = some (.int .i64 ((rd_T35 l0 x5_1).f2)) ∧ w'.cell? ⟨(ad574.add ((x5_1).toNat * 6)).block, (ad574.add ((x5_1).toNat * 6)).off + 3, none⟩ = some (.int .i64 ((rd_T35 l0 x5_1).f3)) ∧ w'.cell? ⟨(ad574.add ((x5_1).toNat * 6)).block, (ad574.add ((x5_1).toNat * 6)).off + 4, none⟩ = some (.int .i64 ((rd_T35 l0 x5_1).f4)) ∧ w'.cell? ⟨(ad574.add ((x5_1).toNat * 6)).block, (ad574.add ((x5_1).toNat * 6)).off + 5, none⟩ = some (.string ((rd_T35 l0 x5_1).f5)) ∧ w'.cell? (ad575.add ((x5_1).toNat * 6)) = some (.bool ((rd_T35 l1 x5_1).f0)) ∧ w'.cell? ⟨(ad575.add ((x5_1).toNat * 6)).block, (ad575.add ((x5_1).toNat * 6)).off + 1, none⟩ = some (.bool ((rd_T35 l1 x5_1).f1)) ∧ w'.cell? ⟨(ad575.add ((x5_1).toNat * 6)).block, (ad575.add ((x5_1).toNat * 6)).off + 2, none⟩ = some (.int .i64 ((rd_T35 l1 x5_1).f2)) ∧ w'.cell? ⟨(ad575.add ((x5_1).toNat * 6)).block, (ad575.add ((x5_1).toNat * 6)).off + 3, none⟩ = some (.int .i64 ((rd_T35 l1 x5_1).f3)) ∧ w'.cell? ⟨(ad575.add ((x5_1).toNat * 6)).block, (ad575.add ((x5_1).toNat * 6)).off + 4, none⟩ = some (.int .i64 ((rd_T35 l1 x5_1).f4)) ∧ w'.cell? ⟨(ad575.add ((x5_1).toNat * 6)).block, (ad575.add ((x5_1).toNat * 6)).off + 5, none⟩ = some (.string ((rd_T35 l1 x5_1).f5))) (ds := []) #[false, false, false, false, false, false, false, false, false, false] (by kernel_rfl) rfl rfl ⟨((HB.out.cell (World.block_lt_of_cell? w _ hw574_0)).trans hw574_0), ((HB.out.cell (World.block_lt_of_cell? w _ hw574_1)).trans hw574_1), ((HB.out.cell (World.block_lt_of_cell? w _ hw574_2)).trans hw574_2), ((HB.out.cell (World.block_lt_of_cell? w _ hw574_3)).trans hw574_3), ((HB.out.cell (World.block_lt_of_cell? w _ hw574_4)).trans hw574_4), ((HB.out.cell (World.block_lt_of_cell? w _ hw574_5)).trans hw574_5), ((HB.out.cell (World.block_lt_of_cell? w _ hw575_0)).trans hw575_0), ((HB.out.cell (World.block_lt_of_cell? w _ hw575_1)).trans hw575_1), ((HB.out.cell (World.block_lt_of_cell? w _ hw575_2)).trans hw575_2), ((HB.out.cell (World.block_lt_of_cell? w _ hw575_3)).trans hw575_3), ((HB.out.cell (World.block_lt_of_cell? w _ hw575_4)).trans hw575_4), ((HB.out.cell (World.block_lt_of_cell? w _ hw575_5)).trans hw575_5)⟩ (fun hHeld => ?_); refine with_tabW laws_eqFrameS.tab6 laws_eqFrameS.bits6 (fun HT_ HW_ => ?_)
        generalize wr.drew = w11 at HB hx574_0 hx574_1 hx574_2 hx574_3 hx574_4 hx574_5 hx575_0 hx575_1 hx575_2 hx575_3 hx575_4 hx575_5 hHeld ⊢
        refine pu 0 17 HT_ (h := ?_)
        refine pu 1 18 HT_ (h := ?_)
        refine pu 2 19 HT_ (h := ?_)
        refine pu 4 21 HT_ (h := ?_)
        refine pu 5 22 HT_ (h := ?_)
        refine pu 6 23 HT_ (h := ?_)
        refine take_ (i := 3) (N := some 20) (v := ?_) (a' := ?_) #[true, true, true, true, true, true, true, false, false, false] rfl rfl (take_ofW HT_.out HW_.out (by kernel_rfl)) (fun _ _ _ h => h) (Or.inl ⟨by rfl, ?_⟩) hHeld ?_ ?_
        rotate_left
        ·rintro w' ⟨s0, s1, s2, s3, s4, s5, s6, s7, s8, s9, s10, s11⟩
         go_simp
         with_reducible rfl
        rotate_left
        ·simp only [Act.put, List.setIfInBounds_toArray, List.set_cons_zero, List.set_cons_succ, i64_w, i32_w]
         rfl
        refine take_ (i := 7) (N := some 24) (v := ?_) (a' := ?_) #[true, true, true, true, true, true, true, true, false, false] rfl rfl (take_ofW HT_.out HW_.out (by kernel_rfl)) (fun _ _ _ h => h) (Or.inl ⟨by rfl, ?_⟩) hHeld ?_ ?_
        rotate_left
        ·rintro w' ⟨s0, s1, s2, s3, s4, s5, s6, s7, s8, s9, s10, s11⟩
         go_simp
         with_reducible rfl
        rotate_left
        ·simp only [Act.put, List.setIfInBounds_toArray, List.set_cons_zero, List.set_cons_succ, i64_w, i32_w]
         rfl
        refine one_ (i := 8) (N := some 25) #[true, true, true, true, true, true, true, true, true, false] rfl rfl (one_of HT_.out (by kernel_rfl)) (by decide) (fun K hK => ?_)
        refine goes_ Try.func56 (by kernel_rfl) rfl #[.agg #[.bool ((rd_T35 l0 x5_1).f0), .bool ((rd_T35 l0 x5_1).f1), .int .i64 ((rd_T35 l0 x5_1).f2), .int .i64 ((rd_T35 l0 x5_1).f3), .int .i64 ((rd_T35 l0 x5_1).f4), .string ((rd_T35 l0 x5_1).f5)], .agg #[.bool ((rd_T35 l1 x5_1).f0), .bool ((rd_T35 l1 x5_1).f1), .int .i64 ((rd_T35 l1 x5_1).f2), .int .i64 ((rd_T35 l1 x5_1).f3), .int .i64 ((rd_T35 l1 x5_1).f4), .string ((rd_T35 l1 x5_1).f5)]] (by rfl) rfl rfl gl_ ?_
        with_reducible refine (laws_eqFrame.calls ((rd_T35 l0 x5_1).f0) ((rd_T35 l0 x5_1).f1) ((rd_T35 l0 x5_1).f2) ((rd_T35 l0 x5_1).f3) ((rd_T35 l0 x5_1).f4) ((rd_T35 l0 x5_1).f5) ((rd_T35 l1 x5_1).f0) ((rd_T35 l1 x5_1).f1) ((rd_T35 l1 x5_1).f2) ((rd_T35 l1 x5_1).f3) ((rd_T35 l1 x5_1).f4) ((rd_T35 l1 x5_1).f5) false _ A7.out).mono ?_
        rintro e w12 ⟨rfl, hb⟩
        refine ⟨_, rfl, ?_⟩
        have n0_ := m_ (below_step (bN HB.out) hb)
        clear HB
        have HB := n0_
        clear n0_
        (try clear hb)
        (try clear hb2)
        (try clear hk)
        (try clear hi)
        refine hK.out _ _ ⟨((HB.out.cell (World.block_lt_of_cell? w _ hw574_0)).trans hw574_0), ((HB.out.cell (World.block_lt_of_cell? w _ hw574_1)).trans hw574_1), ((HB.out.cell (World.block_lt_of_cell? w _ hw574_2)).trans hw574_2), ((HB.out.cell (World.block_lt_of_cell? w _ hw574_3)).trans hw574_3), ((HB.out.cell (World.block_lt_of_cell? w _ hw574_4)).trans hw574_4), ((HB.out.cell (World.block_lt_of_cell? w _ hw574_5)).trans hw574_5), ((HB.out.cell (World.block_lt_of_cell? w _ hw575_0)).trans hw575_0), ((HB.out.cell (World.block_lt_of_cell? w _ hw575_1)).trans hw575_1), ((HB.out.cell (World.block_lt_of_cell? w _ hw575_2)).trans hw575_2), ((HB.out.cell (World.block_lt_of_cell? w _ hw575_3)).trans hw575_3), ((HB.out.cell (World.block_lt_of_cell? w _ hw575_4)).trans hw575_4), ((HB.out.cell (World.block_lt_of_cell? w _ hw575_5)).trans hw575_5)⟩ (fun hHeld => ?_)
        clear hK K
        refine np (h := ?_)
        refine pu 9 26 HT_ (h := ?_)
        refine done_ (done_of HT_.out (by kernel_rfl)) ?_
        try go_wp2
        go_ret
        exact ⟨by first | rfl | (simp [errW_none, errW_some] <;> rfl) | (simp [*, errW_none, errW_some] <;> rfl), by repeat (first | (with_reducible first | exact HB.out | apply below_alloc | apply pw_below_drewN | apply below_drew1) | exact HB.out)⟩
      ·rw [if_neg c6] at H
       exact absurd H (by simp)
     ·rw [if_neg c5] at H
      exact absurd H (by simp)
    ·rw [if_neg c4] at H
     have c4b0 : decide (x5_1 < (l0.length : Int)) = false := decide_eq_false c4
     clear c4
     obtain rfl := Option.some.inj H
     go_wp2
     go_ret
     exact ⟨by first | rfl | (simp [errW_none, errW_some] <;> rfl) | (simp [*, errW_none, errW_some] <;> rfl), by repeat (first | (with_reducible first | exact HB.out | apply below_alloc | apply pw_below_drewN | apply below_drew1) | exact HB.out)⟩
 ·rw [if_neg c3] at H
  have c3b0 : ((l0.length : Int) == (l1.length : Int)) = false := beq_eq_false_iff_ne.mpr c3
  have c3b1 : ((l0.length : Int) != (l1.length : Int)) = true := bne_iff_ne.mpr c3
  have c3b2 : (l0.length == l1.length) = false := by first | simpa using c3 | (simp at c3 ⊢; omega)
  obtain rfl := Option.some.inj H
  go_enter Try.func25, Try.ntmps25
  go_wp2
  go_ret
  exact ⟨by first | rfl | (simp [errW_none, errW_some] <;> rfl) | (simp [*, errW_none, errW_some] <;> rfl), by repeat (first | (with_reducible first | exact HB.out | apply below_alloc | apply pw_below_drewN | apply below_drew1) | exact HB.out)⟩

/-! ### laws_markFrameS: function 26 -/
def laws_markFrameS.l0 : Nat → List (S35) → Int → Int → Option (Int × (List (S35)))
 | 0, _, _, _ => none
 | k + 1, x0, x1, x5 => if x5 < (x0.length : Int) then (if 0 ≤ x5 then ((some (x0.set (x5 : Int).toNat (⟨((Int.tmod x1 3) == 0), (rd_T35 x0 x5).f1, (rd_T35 x0 x5).f2, (rd_T35 x0 x5).f3, (rd_T35 x0 x5).f4, (rd_T35 x0 x5).f5⟩ : S35) : List (S35))).bind fun y577 => ((some (y577.set (x5 : Int).toNat (⟨(rd_T35 y577 x5).f0, ((Int.tmod (wrap64 (x1 + 1)) 3) == 0), (rd_T35 y577 x5).f2, (rd_T35 y577 x5).f3, (rd_T35 y577 x5).f4, (rd_T35 y577 x5).f5⟩ : S35) : List (S35))).bind fun y578 => ((some (y578.set (x5 : Int).toNat (⟨(rd_T35 y578 x5).f0, (rd_T35 y578 x5).f1, wrap64 ((wrap64 (x1 + 1)) + 1), (rd_T35 y578 x5).f3, (rd_T35 y578 x5).f4, (rd_T35 y578 x5).f5⟩ : S35) : List (S35))).bind fun y579 => ((some (y579.set (x5 : Int).toNat (⟨(rd_T35 y579 x5).f0, (rd_T35 y579 x5).f1, (rd_T35 y579 x5).f2, wrap64 ((wrap64 ((wrap64 (x1 + 1)) + 1)) + 1), (rd_T35 y579 x5).f4, (rd_T35 y579 x5).f5⟩ : S35) : List (S35))).bind fun y580 => ((some (y580.set (x5 : Int).toNat (⟨(rd_T35 y580 x5).f0, (rd_T35 y580 x5).f1, (rd_T35 y580 x5).f2, (rd_T35 y580 x5).f3, wrap64 ((wrap64 ((wrap64 ((wrap64 (x1 + 1)) + 1)) + 1)) + 1), (rd_T35 y580 x5).f5⟩ : S35) : List (S35))).bind fun y581 => ((laws_markText.f k (wrap64 ((wrap64 ((wrap64 ((wrap64 ((wrap64 (x1 + 1)) + 1)) + 1)) + 1)) + 1))).bind fun t582 => (laws_markFrameS.l0 k (y581.set (x5 : Int).toNat (⟨(rd_T35 y581 x5).f0, (rd_T35 y581 x5).f1, (rd_T35 y581 x5).f2, (rd_T35 y581 x5).f3, (rd_T35 y581 x5).f4, t582⟩ : S35)) (wrap64 ((wrap64 ((wrap64 ((wrap64 ((wrap64 ((wrap64 (x1 + 1)) + 1)) + 1)) + 1)) + 1)) + 1)) (wrap64 (x5 + 1))))))))) else (none)) else (some (x1, x0))
def laws_markFrameS.f (k : Nat) (l0 : List (S35)) (a1 : Int) : Option (Int × (List (S35))) := laws_markFrameS.l0 k l0 a1 0
theorem laws_markFrameS.mono_l : ∀ k, (∀ y0 y1 y2, LeO (laws_markFrameS.l0 k y0 y1 y2) (laws_markFrameS.l0 (k + 1) y0 y1 y2))
 | 0 => fun _ _ _ r h => by simp [laws_markFrameS.l0] at h
 | k + 1 => by
  have ih0 := laws_markFrameS.mono_l k
  ·intro y0 y1 y2
   unfold laws_markFrameS.l0
   repeat' first
   | (with_reducible exact ih0 _ _ _)
   | (with_reducible exact laws_markText.mono _ _)
   | (with_reducible exact LeO.refl _)
   | (with_reducible exact LeO.none _)
   | (with_reducible refine LeO.ite ?_ ?_)
   | (with_reducible refine LeO.bind ?_ (fun _ => ?_))
   | exact ih0 _ _ _
   | exact laws_markText.mono _ _
   | exact LeO.none _
   | refine LeO.ite ?_ ?_
   | refine LeO.bind ?_ (fun _ => ?_)
theorem laws_markFrameS.mono : ∀ a0 a1 k, LeO (laws_markFrameS.f k a0 a1) (laws_markFrameS.f (k + 1) a0 a1) := by
 intro a0 a1 k
 have ih0 := laws_markFrameS.mono_l k
 unfold laws_markFrameS.f
 repeat' first
   | (with_reducible exact ih0 _ _ _)
   | (with_reducible exact laws_markText.mono _ _)
   | (with_reducible exact LeO.refl _)
   | (with_reducible exact LeO.none _)
   | (with_reducible refine LeO.ite ?_ ?_)
   | (with_reducible refine LeO.bind ?_ (fun _ => ?_))
   | exact ih0 _ _ _
   | exact laws_markText.mono _ _
   | exact LeO.none _
   | refine LeO.ite ?_ ?_
   | refine LeO.bind ?_ (fun _ => ?_)
set_option maxHeartbeats 8000000 in
set_option maxRecDepth 100000 in
theorem laws_markFrameS.calls (k : Nat) (P0_ : Nat → Prop) (u9000_ : Value) (l0 : List (S35)) (a1 : Int) (r1 : Int) (r2 : List (S35)) (w0 w : World) (hB : Below w0.heap.size w0 w) (ho0 : Kd.R k35 35 w w0.heap.size P0_ u9000_ l0) (h : laws_markFrameS.f k l0 a1 = some (r1, r2)) :
  Calls Try.prog 26 #[u9000_, .int .i64 a1] w fun e w' => e = .returned (.int .i64 r1) ∧ Kd.R k35 35 w' w0.heap.size (fun k_ => (P0_ k_ ∨ w.heap.size ≤ k_)) u9000_ r2 ∧ Below w0.heap.size w0 w' ∧ Kept w w' (fun k_ => P0_ k_) := by
 have HO0 := m_ (show Kd.R k35 35 w w0.heap.size (fun k_ => (P0_ k_ ∨ w.heap.size ≤ k_)) u9000_ l0 from Kd.R_mono ho0 (fun k_ hk => (.inl hk)))
 have HK := m_ (Kept.refl w (fun k_ => P0_ k_))
 have HW0 := Aside0.mk hB.size
 have HB := Aside0.mk hB
 clear hB
 have H : (laws_markFrameS.l0 k l0 a1 0) = some (r1, r2) := h
 clear h
 have H' := Aside0.mk H
 clear H
 go_enter Try.func26, Try.ntmps26
 go_wp2
 go_loopg [1, 5] k (fun kq v1 v5 w' => ∃ (x0_1 : List (S35)) (x1_1 : Int) (x5_1 : Int), v1 = .int .i64 x1_1 ∧ v5 = .int .i64 x5_1 ∧ Aside0 (laws_markFrameS.l0 kq x0_1 x1_1 x5_1 = some (r1, r2)) ∧ Aside0 (kq ≤ k) ∧ Aside0 (Kd.R k35 35 w' w0.heap.size (fun k_ => (P0_ k_ ∨ w.heap.size ≤ k_)) u9000_ x0_1) ∧ Aside0 (Kept w w' (fun k_ => P0_ k_)) ∧ Aside0 (Below w0.heap.size w0 w'))
 case atStart => exact ⟨(l0), (a1), (0), (by first | rfl | (simp; done) | (simp [*]; done)), (by first | rfl | (simp; done) | (simp [*]; done)), H', ⟨Nat.le_refl _⟩, ⟨by (with_reducible repeat (first | apply Kd.R_alloc | apply Kd.R_drewN | apply Kd.R_drew)); exact HO0.out⟩, ⟨by repeat (first | (with_reducible first | exact HK.out | apply Kept.alloc | apply Kept.drewN | apply Kept.drew) | exact HK.out)⟩, ⟨by repeat (first | (with_reducible first | exact HB.out | apply below_alloc | apply pw_below_drewN | apply below_drew1) | exact HB.out)⟩⟩
 case round =>
  clear H'
  try clear c2
  try clear p2
  obtain ⟨x0_1, x1_1, x5_1, rfl, rfl, HA, HK1, HO_0, HK, HB⟩ := hrel
  cases gk with
  | zero => exact absurd HA.out (by simp [laws_markFrameS.l0])
  | succ k1 =>
   have H := HA.out
   clear HA
   simp only [laws_markFrameS.l0] at H
   by_cases c3 : x5_1 < (x0_1.length : Int)
   ·rw [if_pos c3] at H
    have c3b0 : decide (x5_1 < (x0_1.length : Int)) = true := decide_eq_true c3
    clear c3
    by_cases c4 : 0 ≤ x5_1
    ·rw [if_pos c4] at H
     have c4b0 : decide (0 ≤ x5_1) = true := decide_eq_true c4
     clear c4
     obtain ⟨y577, hy577⟩ : ∃ y_ : List (S35), y_ = (x0_1.set (x5_1 : Int).toNat (⟨((Int.tmod x1_1 3) == 0), (rd_T35 x0_1 x5_1).f1, (rd_T35 x0_1 x5_1).f2, (rd_T35 x0_1 x5_1).f3, (rd_T35 x0_1 x5_1).f4, (rd_T35 x0_1 x5_1).f5⟩ : S35)) := ⟨_, rfl⟩
     replace H : ((some (y577.set (x5_1 : Int).toNat (⟨(rd_T35 y577 x5_1).f0, ((Int.tmod (wrap64 (x1_1 + 1)) 3) == 0), (rd_T35 y577 x5_1).f2, (rd_T35 y577 x5_1).f3, (rd_T35 y577 x5_1).f4, (rd_T35 y577 x5_1).f5⟩ : S35) : List (S35))).bind fun y578 => ((some (y578.set (x5_1 : Int).toNat (⟨(rd_T35 y578 x5_1).f0, (rd_T35 y578 x5_1).f1, wrap64 ((wrap64 (x1_1 + 1)) + 1), (rd_T35 y578 x5_1).f3, (rd_T35 y578 x5_1).f4, (rd_T35 y578 x5_1).f5⟩ : S35) : List (S35))).bind fun y579 => ((some (y579.set (x5_1 : Int).toNat (⟨(rd_T35 y579 x5_1).f0, (rd_T35 y579 x5_1).f1, (rd_T35 y579 x5_1).f2, wrap64 ((wrap64 ((wrap64 (x1_1 + 1)) + 1)) + 1), (rd_T35 y579 x5_1).f4, (rd_T35 y579 x5_1).f5⟩ : S35) : List (S35))).bind fun y580 => ((some (y580.set (x5_1 : Int).toNat (⟨(rd_T35 y580 x5_1).f0, (rd_T35 y580 x5_1).f1, (rd_T35 y580 x5_1).f2, (rd_T35 y580 x5_1).f3, wrap64 ((wrap64 ((wrap64 ((wrap64 (x1_1 + 1)) + 1)) + 1)) + 1), (rd_T35 y580 x5_1).f5⟩ : S35) : List (S35))).bind fun y581 => ((laws_markText.f k1 (wrap64 ((wrap64 ((wrap64 ((wrap64 ((wrap64 (x1_1 + 1)) + 1)) + 1)) + 1)) + 1))).bind fun t582 => (laws_markFrameS.l0 k1 (y581.set (x5_1 : Int).toNat (⟨(rd_T35 y581 x5_1).f0, (rd_T35 y581 x5_1).f1, (rd_T35 y581 x5_1).f2, (rd_T35 y581 x5_1).f3, (rd_T35 y581 x5_1).f4, t582⟩ : S35)) (wrap64 ((wrap64 ((wrap64 ((wrap64 ((wrap64 ((wrap64 (x1_1 + 1)) + 1)) + 1)) + 1)) + 1)) + 1)) (wrap64 (x5_1 + 1)))))))) = some (r1, r2) := by first | (rw [hy577]; with_reducible exact H) | (have H2_ := (Option.bind_some _ _).symm.trans H; rw [hy577]; with_reducible exact H2_) | (have H2_ := (Option.bind_some _ _).symm.trans H; with_reducible exact H2_) | with_reducible exact H | (rw [hy577]; exact H) | exact H
     have Ny577 := Aside0.mk hy577
     clear hy577
     obtain ⟨y578, hy578⟩ : ∃ y_ : List (S35), y_ = (y577.set (x5_1 : Int).toNat (⟨(rd_T35 y577 x5_1).f0, ((Int.tmod (wrap64 (x1_1 + 1)) 3) == 0), (rd_T35 y577 x5_1).f2, (rd_T35 y577 x5_1).f3, (rd_T35 y577 x5_1).f4, (rd_T35 y577 x5_1).f5⟩ : S35)) := ⟨_, rfl⟩
     replace H : ((some (y578.set (x5_1 : Int).toNat (⟨(rd_T35 y578 x5_1).f0, (rd_T35 y578 x5_1).f1, wrap64 ((wrap64 (x1_1 + 1)) + 1), (rd_T35 y578 x5_1).f3, (rd_T35 y578 x5_1).f4, (rd_T35 y578 x5_1).f5⟩ : S35) : List (S35))).bind fun y579 => ((some (y579.set (x5_1 : Int).toNat (⟨(rd_T35 y579 x5_1).f0, (rd_T35 y579 x5_1).f1, (rd_T35 y579 x5_1).f2, wrap64 ((wrap64 ((wrap64 (x1_1 + 1)) + 1)) + 1), (rd_T35 y579 x5_1).f4, (rd_T35 y579 x5_1).f5⟩ : S35) : List (S35))).bind fun y580 => ((some (y580.set (x5_1 : Int).toNat (⟨(rd_T35 y580 x5_1).f0, (rd_T35 y580 x5_1).f1, (rd_T35 y580 x5_1).f2, (rd_T35 y580 x5_1).f3, wrap64 ((wrap64 ((wrap64 ((wrap64 (x1_1 + 1)) + 1)) + 1)) + 1), (rd_T35 y580 x5_1).f5⟩ : S35) : List (S35))).bind fun y581 => ((laws_markText.f k1 (wrap64 ((wrap64 ((wrap64 ((wrap64 ((wrap64 (x1_1 + 1)) + 1)) + 1)) + 1)) + 1))).bind fun t582 => (laws_markFrameS.l0 k1 (y581.set (x5_1 : Int).toNat (⟨(rd_T35 y581 x5_1).f0, (rd_T35 y581 x5_1).f1, (rd_T35 y581 x5_1).f2, (rd_T35 y581 x5_1).f3, (rd_T35 y581 x5_1).f4, t582⟩ : S35)) (wrap64 ((wrap64 ((wrap64 ((wrap64 ((wrap64 ((wrap64 (x1_1 + 1)) + 1)) + 1)) + 1)) + 1)) + 1)) (wrap64 (x5_1 + 1))))))) = some (r1, r2) := by first | (rw [hy578]; with_reducible exact H) | (have H2_ := (Option.bind_some _ _).symm.trans H; rw [hy578]; with_reducible exact H2_) | (have H2_ := (Option.bind_some _ _).symm.trans H; with_reducible exact H2_) | with_reducible exact H | (rw [hy578]; exact H) | exact H
     have Ny578 := Aside0.mk hy578
     clear hy578
     obtain ⟨y579, hy579⟩ : ∃ y_ : List (S35), y_ = (y578.set (x5_1 : Int).toNat (⟨(rd_T35 y578 x5_1).f0, (rd_T35 y578 x5_1).f1, wrap64 ((wrap64 (x1_1 + 1)) + 1), (rd_T35 y578 x5_1).f3, (rd_T35 y578 x5_1).f4, (rd_T35 y578 x5_1).f5⟩ : S35)) := ⟨_, rfl⟩
     replace H : ((some (y579.set (x5_1 : Int).toNat (⟨(rd_T35 y579 x5_1).f0, (rd_T35 y579 x5_1).f1, (rd_T35 y579 x5_1).f2, wrap64 ((wrap64 ((wrap64 (x1_1 + 1)) + 1)) + 1), (rd_T35 y579 x5_1).f4, (rd_T35 y579 x5_1).f5⟩ : S35) : List (S35))).bind fun y580 => ((some (y580.set (x5_1 : Int).toNat (⟨(rd_T35 y580 x5_1).f0, (rd_T35 y580 x5_1).f1, (rd_T35 y580 x5_1).f2, (rd_T35 y580 x5_1).f3, wrap64 ((wrap64 ((wrap64 ((wrap64 (x1_1 + 1)) + 1)) + 1)) + 1), (rd_T35 y580 x5_1).f5⟩ : S35) : List (S35))).bind fun y581 => ((laws_markText.f k1 (wrap64 ((wrap64 ((wrap64 ((wrap64 ((wrap64 (x1_1 + 1)) + 1)) + 1)) + 1)) + 1))).bind fun t582 => (laws_markFrameS.l0 k1 (y581.set (x5_1 : Int).toNat (⟨(rd_T35 y581 x5_1).f0, (rd_T35 y581 x5_1).f1, (rd_T35 y581 x5_1).f2, (rd_T35 y581 x5_1).f3, (rd_T35 y581 x5_1).f4, t582⟩ : S35)) (wrap64 ((wrap64 ((wrap64 ((wrap64 ((wrap64 ((wrap64 (x1_1 + 1)) + 1)) + 1)) + 1)) + 1)) + 1)) (wrap64 (x5_1 + 1)))))) = some (r1, r2) := by first | (rw [hy579]; with_reducible exact H) | (have H2_ := (Option.bind_some _ _).symm.trans H; rw [hy579]; with_reducible exact H2_) | (have H2_ := (Option.bind_some _ _).symm.trans H; with_reducible exact H2_) | with_reducible exact H | (rw [hy579]; exact H) | exact H
     have Ny579 := Aside0.mk hy579
     clear hy579
     obtain ⟨y580, hy580⟩ : ∃ y_ : List (S35), y_ = (y579.set (x5_1 : Int).toNat (⟨(rd_T35 y579 x5_1).f0, (rd_T35 y579 x5_1).f1, (rd_T35 y579 x5_1).f2, wrap64 ((wrap64 ((wrap64 (x1_1 + 1)) + 1)) + 1), (rd_T35 y579 x5_1).f4, (rd_T35 y579 x5_1).f5⟩ : S35)) := ⟨_, rfl⟩
     replace H : ((some (y580.set (x5_1 : Int).toNat (⟨(rd_T35 y580 x5_1).f0, (rd_T35 y580 x5_1).f1, (rd_T35 y580 x5_1).f2, (rd_T35 y580 x5_1).f3, wrap64 ((wrap64 ((wrap64 ((wrap64 (x1_1 + 1)) + 1)) + 1)) + 1), (rd_T35 y580 x5_1).f5⟩ : S35) : List (S35))).bind fun y581 => ((laws_markText.f k1 (wrap64 ((wrap64 ((wrap64 ((wrap64 ((wrap64 (x1_1 + 1)) + 1)) + 1)) + 1)) + 1))).bind fun t582 => (laws_markFrameS.l0 k1 (y581.set (x5_1 : Int).toNat (⟨(rd_T35 y581 x5_1).f0, (rd_T35 y581 x5_1).f1, (rd_T35 y581 x5_1).f2, (rd_T35 y581 x5_1).f3, (rd_T35 y581 x5_1).f4, t582⟩ : S35)) (wrap64 ((wrap64 ((wrap64 ((wrap64 ((wrap64 ((wrap64 (x1_1 + 1)) + 1)) + 1)) + 1)) + 1)) + 1)) (wrap64 (x5_1 + 1))))) = some (r1, r2) := by first | (rw [hy580]; with_reducible exact H) | (have H2_ := (Option.bind_some _ _).symm.trans H; rw [hy580]; with_reducible exact H2_) | (have H2_ := (Option.bind_some _ _).symm.trans H; with_reducible exact H2_) | with_reducible exact H | (rw [hy580]; exact H) | exact H
     have Ny580 := Aside0.mk hy580
     clear hy580
     obtain ⟨y581, hy581⟩ : ∃ y_ : List (S35), y_ = (y580.set (x5_1 : Int).toNat (⟨(rd_T35 y580 x5_1).f0, (rd_T35 y580 x5_1).f1, (rd_T35 y580 x5_1).f2, (rd_T35 y580 x5_1).f3, wrap64 ((wrap64 ((wrap64 ((wrap64 (x1_1 + 1)) + 1)) + 1)) + 1), (rd_T35 y580 x5_1).f5⟩ : S35)) := ⟨_, rfl⟩
     replace H : ((laws_markText.f k1 (wrap64 ((wrap64 ((wrap64 ((wrap64 ((wrap64 (x1_1 + 1)) + 1)) + 1)) + 1)) + 1))).bind fun t582 => (laws_markFrameS.l0 k1 (y581.set (x5_1 : Int).toNat (⟨(rd_T35 y581 x5_1).f0, (rd_T35 y581 x5_1).f1, (rd_T35 y581 x5_1).f2, (rd_T35 y581 x5_1).f3, (rd_T35 y581 x5_1).f4, t582⟩ : S35)) (wrap64 ((wrap64 ((wrap64 ((wrap64 ((wrap64 ((wrap64 (x1_1 + 1)) + 1)) + 1)) + 1)) + 1)) + 1)) (wrap64 (x5_1 + 1)))) = some (r1, r2) := by first | (rw [hy581]; with_reducible exact H) | (have H2_ := (Option.bind_some _ _).symm.trans H; rw [hy581]; with_reducible exact H2_) | (have H2_ := (Option.bind_some _ _).symm.trans H; with_reducible exact H2_) | with_reducible exact H | (rw [hy581]; exact H) | exact H
     have Ny581 := Aside0.mk hy581
     clear hy581
     replace H := Option.bind_eq_some_iff.mp H
     obtain ⟨t582, A100, H⟩ := H
     replace H : (laws_markFrameS.l0 k1 (y581.set (x5_1 : Int).toNat (⟨(rd_T35 y581 x5_1).f0, (rd_T35 y581 x5_1).f1, (rd_T35 y581 x5_1).f2, (rd_T35 y581 x5_1).f3, (rd_T35 y581 x5_1).f4, t582⟩ : S35)) (wrap64 ((wrap64 ((wrap64 ((wrap64 ((wrap64 ((wrap64 (x1_1 + 1)) + 1)) + 1)) + 1)) + 1)) + 1)) (wrap64 (x5_1 + 1))) = some (r1, r2) := H
     have A10 := Aside0.mk A100
     clear A100
     obtain ⟨y583, hy583⟩ : ∃ y_ : List (S35), y_ = (y581.set (x5_1 : Int).toNat (⟨(rd_T35 y581 x5_1).f0, (rd_T35 y581 x5_1).f1, (rd_T35 y581 x5_1).f2, (rd_T35 y581 x5_1).f3, (rd_T35 y581 x5_1).f4, t582⟩ : S35)) := ⟨_, rfl⟩
     replace H : (laws_markFrameS.l0 k1 y583 (wrap64 ((wrap64 ((wrap64 ((wrap64 ((wrap64 ((wrap64 (x1_1 + 1)) + 1)) + 1)) + 1)) + 1)) + 1)) (wrap64 (x5_1 + 1))) = some (r1, r2) := by first | (rw [hy583]; with_reducible exact H) | (have H2_ := (Option.bind_some _ _).symm.trans H; rw [hy583]; with_reducible exact H2_) | (have H2_ := (Option.bind_some _ _).symm.trans H; with_reducible exact H2_) | with_reducible exact H | (rw [hy583]; exact H) | exact H
     have Ny583 := Aside0.mk hy583
     clear hy583
     have H' := Aside0.mk H
     clear H
     obtain ⟨Ao12, co12, eo12⟩ := Kd.R_slice HO_0.out
     subst eo12
     have p5 : 0 ≤ (x5_1 : Int) := of_decide_eq_true (by first | (with_reducible assumption) | assumption)
     have q5 : (x5_1 : Int) < ((x0_1.length : Int) : Int) := of_decide_eq_true (by first | (with_reducible assumption) | assumption)
     obtain ⟨go5, co5, eo5, gb5, gl5, cl5, HG5⟩ := Kd.R_form HO_0.out (by omega)
     (first | cases eo5 | (injection eo5 with ea_ en_ ec_; (first | subst ea_ | (injection ea_ with ea_; subst ea_)); subst ec_; clear en_))
     have GB5 := Aside0.mk gb5
     have GG5 := Aside0.mk HG5
     clear gb5 gl5 HG5
     have HMgo5 := m_ (show (P0_ go5 ∨ w.heap.size ≤ go5) from (HO_0.out.1 _ rfl))
     obtain ⟨ce5, hcl5, hM5, hcc5, hfr5⟩ := Kd.R_elem HO_0.out z35 (x5_1 : Int) p5 q5
     obtain rfl := k35_openM hM5
     have hx5_0 : wr.cell? ⟨go5, (x5_1 : Int).toNat * 6, none⟩ = some (.bool ((rd_T35 x0_1 x5_1).f0)) := hcc5 0 _ rfl
     have hx5_1 : wr.cell? ⟨go5, (x5_1 : Int).toNat * 6 + 1, none⟩ = some (.bool ((rd_T35 x0_1 x5_1).f1)) := hcc5 1 _ rfl
     have hx5_2 : wr.cell? ⟨go5, (x5_1 : Int).toNat * 6 + 2, none⟩ = some (.int .i64 ((rd_T35 x0_1 x5_1).f2)) := hcc5 2 _ rfl
     have hx5_3 : wr.cell? ⟨go5, (x5_1 : Int).toNat * 6 + 3, none⟩ = some (.int .i64 ((rd_T35 x0_1 x5_1).f3)) := hcc5 3 _ rfl
     have hx5_4 : wr.cell? ⟨go5, (x5_1 : Int).toNat * 6 + 4, none⟩ = some (.int .i64 ((rd_T35 x0_1 x5_1).f4)) := hcc5 4 _ rfl
     have hx5_5 : wr.cell? ⟨go5, (x5_1 : Int).toNat * 6 + 5, none⟩ = some (.string ((rd_T35 x0_1 x5_1).f5)) := hcc5 5 _ rfl
     have hf5_0 : wr.frozen? ⟨go5, (x5_1 : Int).toNat * 6, none⟩ = false := hfr5 0
     have hf5_1 : wr.frozen? ⟨go5, (x5_1 : Int).toNat * 6 + 1, none⟩ = false := hfr5 1
     have hf5_2 : wr.frozen? ⟨go5, (x5_1 : Int).toNat * 6 + 2, none⟩ = false := hfr5 2
     have hf5_3 : wr.frozen? ⟨go5, (x5_1 : Int).toNat * 6 + 3, none⟩ = false := hfr5 3
     have hf5_4 : wr.frozen? ⟨go5, (x5_1 : Int).toNat * 6 + 4, none⟩ = false := hfr5 4
     have hf5_5 : wr.frozen? ⟨go5, (x5_1 : Int).toNat * 6 + 5, none⟩ = false := hfr5 5
     clear hcl5 hcc5 hfr5 hM5
     replace p5 := eq_true p5
     replace q5 := eq_true q5
     have HX13 := m_ (show Kd.R k35 35 wr w0.heap.size (fun k_ => (P0_ k_ ∨ w.heap.size ≤ k_)) (.slice (some ⟨go5, 0, none⟩) x0_1.length co12) x0_1 from (rN HO_0.out))
     obtain ⟨ce13, hcl13, hM13, hcc13, hfr13⟩ := Kd.R_elem HX13.out z35 (x5_1 : Int) (of_decide_eq_true (by first | (with_reducible assumption) | assumption)) (by have h_ : (x5_1 : Int) < ((x0_1.length : Int) : Int) := of_decide_eq_true (by first | (with_reducible assumption) | assumption); first | exact h_ | (have e_ := (Kd.R_reads' HO_0.out).1; omega) | simpa using h_)
     obtain rfl := k35_openM hM13
     have HP13 := Kd.R_seg HX13.out (x5_1 : Int) (of_decide_eq_true (by first | (with_reducible assumption) | assumption)) (by have h_ : (x5_1 : Int) < ((x0_1.length : Int) : Int) := of_decide_eq_true (by first | (with_reducible assumption) | assumption); first | exact h_ | (have e_ := (Kd.R_reads' HO_0.out).1; omega) | simpa using h_) (seg := [.bool ((Int.tmod x1_1 3) == 0)]) (j := 0) hcl13 hcc13 (show 1 ≤ 6 from by decide) (x' := (⟨((Int.tmod x1_1 3) == 0), (rd_T35 x0_1 x5_1).f1, (rd_T35 x0_1 x5_1).f2, (rd_T35 x0_1 x5_1).f3, (rd_T35 x0_1 x5_1).f4, (rd_T35 x0_1 x5_1).f5⟩ : S35)) (k35_mkM _ _ _ (⟨((Int.tmod x1_1 3) == 0), (rd_T35 x0_1 x5_1).f1, (rd_T35 x0_1 x5_1).f2, (rd_T35 x0_1 x5_1).f3, (rd_T35 x0_1 x5_1).f4, (rd_T35 x0_1 x5_1).f5⟩ : S35) ) (fun _ hk => hk)
     have hx13_0 := hcc13 0 _ rfl
     (try simp only [show (k35).sz = 6 from rfl, Nat.mul_one, Nat.add_zero] at hx13_0)
     have hf13_0 := hfr13 0
     (try simp only [show (k35).sz = 6 from rfl, Nat.mul_one, Nat.add_zero] at hf13_0)
     clear hcl13 hcc13 hfr13 hM13
     go_wp2_with (first | ((with_reducible refine gate_store (t := 4) (p := 18) rfl ?_); refine store_event (t := 4) (p := 18) (v := ?vo_w14) (w1 := (wr.setCell ⟨go5, (x5_1 : Int).toNat * 6, none⟩ (.bool ((Int.tmod x1_1 3) == 0)))) ?hg ?ho ?hn ?hr ?_; (case ho => rfl); (case hg => rfl); (case hn => rfl); (case hr => first | (go_simp; done) | (go_simp; rfl)); intro w14 hw; have hg : wr.grownBy w14 (some go5) := (by rw [hw]; exact HP13.2); have hp_ : Kd.R k35 35 w14 w0.heap.size (fun k_ => (P0_ k_ ∨ w.heap.size ≤ k_)) (.slice (some ⟨go5, 0, none⟩) x0_1.length co12) y577 := (by rw [hw, Ny577.out]; exact HP13.1); clear HP13; have n0_ := m_ (hp_); have n1_ := m_ ((by rw [hw]; exact below_set (HB.out) GB5.out : Below w0.heap.size w0 w14)); have n2_ := m_ (Kept.of_grown (S := (fun k_ => P0_ k_)) hg (by repeat (first | (with_reducible first | exact HK.out | apply Kept.alloc | apply Kept.drewN | apply Kept.drew) | exact HK.out)) (fun k_ e_ => (HO_0.out.1 k_ e_))); clear HO_0; clear HB; clear HK; have HO_0 := n0_; have HB := n1_; have HK := n2_; clear n0_ n1_ n2_; clear hg hw hp_; have p6 : 0 ≤ (x5_1 : Int) := of_decide_eq_true (by first | (with_reducible assumption) | assumption); have q6 : (x5_1 : Int) < ((x0_1.length : Int) : Int) := of_decide_eq_true (by first | (with_reducible assumption) | assumption); obtain ⟨ce6, hcl6, hM6, hcc6, hfr6⟩ := Kd.R_elem HO_0.out z35 (x5_1 : Int) p6 q6; obtain rfl := k35_openM hM6; have hx6_0 : w14.cell? ⟨go5, (x5_1 : Int).toNat * 6, none⟩ = some (.bool ((rd_T35 y577 x5_1).f0)) := hcc6 0 _ rfl; have hx6_1 : w14.cell? ⟨go5, (x5_1 : Int).toNat * 6 + 1, none⟩ = some (.bool ((rd_T35 y577 x5_1).f1)) := hcc6 1 _ rfl; have hx6_2 : w14.cell? ⟨go5, (x5_1 : Int).toNat * 6 + 2, none⟩ = some (.int .i64 ((rd_T35 y577 x5_1).f2)) := hcc6 2 _ rfl; have hx6_3 : w14.cell? ⟨go5, (x5_1 : Int).toNat * 6 + 3, none⟩ = some (.int .i64 ((rd_T35 y577 x5_1).f3)) := hcc6 3 _ rfl; have hx6_4 : w14.cell? ⟨go5, (x5_1 : Int).toNat * 6 + 4, none⟩ = some (.int .i64 ((rd_T35 y577 x5_1).f4)) := hcc6 4 _ rfl; have hx6_5 : w14.cell? ⟨go5, (x5_1 : Int).toNat * 6 + 5, none⟩ = some (.string ((rd_T35 y577 x5_1).f5)) := hcc6 5 _ rfl; have hf6_0 : w14.frozen? ⟨go5, (x5_1 : Int).toNat * 6, none⟩ = false := hfr6 0; have hf6_1 : w14.frozen? ⟨go5, (x5_1 : Int).toNat * 6 + 1, none⟩ = false := hfr6 1; have hf6_2 : w14.frozen? ⟨go5, (x5_1 : Int).toNat * 6 + 2, none⟩ = false := hfr6 2; have hf6_3 : w14.frozen? ⟨go5, (x5_1 : Int).toNat * 6 + 3, none⟩ = false := hfr6 3; have hf6_4 : w14.frozen? ⟨go5, (x5_1 : Int).toNat * 6 + 4, none⟩ = false := hfr6 4; have hf6_5 : w14.frozen? ⟨go5, (x5_1 : Int).toNat * 6 + 5, none⟩ = false := hfr6 5; clear hcl6 hcc6 hfr6 hM6; replace p6 := eq_true p6; replace q6 := eq_true q6; have HX15 := m_ (show Kd.R k35 35 w14 w0.heap.size (fun k_ => (P0_ k_ ∨ w.heap.size ≤ k_)) (.slice (some ⟨go5, 0, none⟩) x0_1.length co12) y577 from (rN HO_0.out)); obtain ⟨ce15, hcl15, hM15, hcc15, hfr15⟩ := Kd.R_elem HX15.out z35 (x5_1 : Int) (of_decide_eq_true (by first | (with_reducible assumption) | assumption)) (by have h_ : (x5_1 : Int) < ((x0_1.length : Int) : Int) := of_decide_eq_true (by first | (with_reducible assumption) | assumption); first | exact h_ | (have e_ := (Kd.R_reads' HO_0.out).1; omega) | simpa using h_); obtain rfl := k35_openM hM15; have HP15 := Kd.R_seg HX15.out (x5_1 : Int) (of_decide_eq_true (by first | (with_reducible assumption) | assumption)) (by have h_ : (x5_1 : Int) < ((x0_1.length : Int) : Int) := of_decide_eq_true (by first | (with_reducible assumption) | assumption); first | exact h_ | (have e_ := (Kd.R_reads' HO_0.out).1; omega) | simpa using h_) (seg := [.bool ((Int.tmod (wrap64 (x1_1 + 1)) 3) == 0)]) (j := 1) hcl15 hcc15 (show 2 ≤ 6 from by decide) (x' := (⟨(rd_T35 y577 x5_1).f0, ((Int.tmod (wrap64 (x1_1 + 1)) 3) == 0), (rd_T35 y577 x5_1).f2, (rd_T35 y577 x5_1).f3, (rd_T35 y577 x5_1).f4, (rd_T35 y577 x5_1).f5⟩ : S35)) (k35_mkM _ _ _ (⟨(rd_T35 y577 x5_1).f0, ((Int.tmod (wrap64 (x1_1 + 1)) 3) == 0), (rd_T35 y577 x5_1).f2, (rd_T35 y577 x5_1).f3, (rd_T35 y577 x5_1).f4, (rd_T35 y577 x5_1).f5⟩ : S35) ) (fun _ hk => hk); have hx15_1 := hcc15 1 _ rfl; (try simp only [show (k35).sz = 6 from rfl, Nat.mul_one, Nat.add_zero] at hx15_1); have hf15_1 := hfr15 1; (try simp only [show (k35).sz = 6 from rfl, Nat.mul_one, Nat.add_zero] at hf15_1); clear hcl15 hcc15 hfr15 hM15) | ((with_reducible refine gate_store (t := 4) (p := 27) rfl ?_); refine store_event (t := 4) (p := 27) (v := ?vo_w16) (w1 := (w14.setCell ⟨go5, (x5_1 : Int).toNat * 6 + 1, none⟩ (.bool ((Int.tmod (wrap64 (x1_1 + 1)) 3) == 0)))) ?hg ?ho ?hn ?hr ?_; (case ho => rfl); (case hg => rfl); (case hn => rfl); (case hr => first | (go_simp; done) | (go_simp; rfl)); intro w16 hw; have hg : w14.grownBy w16 (some go5) := (by rw [hw]; exact HP15.2); have hp_ : Kd.R k35 35 w16 w0.heap.size (fun k_ => (P0_ k_ ∨ w.heap.size ≤ k_)) (.slice (some ⟨go5, 0, none⟩) x0_1.length co12) y578 := (by rw [hw, Ny578.out]; exact HP15.1); clear HP15; have n0_ := m_ (hp_); have n1_ := m_ ((by rw [hw]; exact below_set (HB.out) GB5.out : Below w0.heap.size w0 w16)); have n2_ := m_ (Kept.of_grown (S := (fun k_ => P0_ k_)) hg (by repeat (first | (with_reducible first | exact HK.out | apply Kept.alloc | apply Kept.drewN | apply Kept.drew) | exact HK.out)) (fun k_ e_ => (HO_0.out.1 k_ e_))); clear HO_0; clear HB; clear HK; have HO_0 := n0_; have HB := n1_; have HK := n2_; clear n0_ n1_ n2_; clear hg hw hp_; have p7 : 0 ≤ (x5_1 : Int) := of_decide_eq_true (by first | (with_reducible assumption) | assumption); have q7 : (x5_1 : Int) < ((x0_1.length : Int) : Int) := of_decide_eq_true (by first | (with_reducible assumption) | assumption); obtain ⟨ce7, hcl7, hM7, hcc7, hfr7⟩ := Kd.R_elem HO_0.out z35 (x5_1 : Int) p7 q7; obtain rfl := k35_openM hM7; have hx7_0 : w16.cell? ⟨go5, (x5_1 : Int).toNat * 6, none⟩ = some (.bool ((rd_T35 y578 x5_1).f0)) := hcc7 0 _ rfl; have hx7_1 : w16.cell? ⟨go5, (x5_1 : Int).toNat * 6 + 1, none⟩ = some (.bool ((rd_T35 y578 x5_1).f1)) := hcc7 1 _ rfl; have hx7_2 : w16.cell? ⟨go5, (x5_1 : Int).toNat * 6 + 2, none⟩ = some (.int .i64 ((rd_T35 y578 x5_1).f2)) := hcc7 2 _ rfl; have hx7_3 : w16.cell? ⟨go5, (x5_1 : Int).toNat * 6 + 3, none⟩ = some (.int .i64 ((rd_T35 y578 x5_1).f3)) := hcc7 3 _ rfl; have hx7_4 : w16.cell? ⟨go5, (x5_1 : Int).toNat * 6 + 4, none⟩ = some (.int .i64 ((rd_T35 y578 x5_1).f4)) := hcc7 4 _ rfl; have hx7_5 : w16.cell? ⟨go5, (x5_1 : Int).toNat * 6 + 5, none⟩ = some (.string ((rd_T35 y578 x5_1).f5)) := hcc7 5 _ rfl; have hf7_0 : w16.frozen? ⟨go5, (x5_1 : Int).toNat * 6, none⟩ = false := hfr7 0; have hf7_1 : w16.frozen? ⟨go5, (x5_1 : Int).toNat * 6 + 1, none⟩ = false := hfr7 1; have hf7_2 : w16.frozen? ⟨go5, (x5_1 : Int).toNat * 6 + 2, none⟩ = false := hfr7 2; have hf7_3 : w16.frozen? ⟨go5, (x5_1 : Int).toNat * 6 + 3, none⟩ = false := hfr7 3; have hf7_4 : w16.frozen? ⟨go5, (x5_1 : Int).toNat * 6 + 4, none⟩ = false := hfr7 4; have hf7_5 : w16.frozen? ⟨go5, (x5_1 : Int).toNat * 6 + 5, none⟩ = false := hfr7 5; clear hcl7 hcc7 hfr7 hM7; replace p7 := eq_true p7; replace q7 := eq_true q7; have HX17 := m_ (show Kd.R k35 35 w16 w0.heap.size (fun k_ => (P0_ k_ ∨ w.heap.size ≤ k_)) (.slice (some ⟨go5, 0, none⟩) x0_1.length co12) y578 from (rN HO_0.out)); obtain ⟨ce17, hcl17, hM17, hcc17, hfr17⟩ := Kd.R_elem HX17.out z35 (x5_1 : Int) (of_decide_eq_true (by first | (with_reducible assumption) | assumption)) (by have h_ : (x5_1 : Int) < ((x0_1.length : Int) : Int) := of_decide_eq_true (by first | (with_reducible assumption) | assumption); first | exact h_ | (have e_ := (Kd.R_reads' HO_0.out).1; omega) | simpa using h_); obtain rfl := k35_openM hM17; have HP17 := Kd.R_seg HX17.out (x5_1 : Int) (of_decide_eq_true (by first | (with_reducible assumption) | assumption)) (by have h_ : (x5_1 : Int) < ((x0_1.length : Int) : Int) := of_decide_eq_true (by first | (with_reducible assumption) | assumption); first | exact h_ | (have e_ := (Kd.R_reads' HO_0.out).1; omega) | simpa using h_) (seg := [.int .i64 (wrap64 ((wrap64 (x1_1 + 1)) + 1))]) (j := 2) hcl17 hcc17 (show 3 ≤ 6 from by decide) (x' := (⟨(rd_T35 y578 x5_1).f0, (rd_T35 y578 x5_1).f1, wrap64 ((wrap64 (x1_1 + 1)) + 1), (rd_T35 y578 x5_1).f3, (rd_T35 y578 x5_1).f4, (rd_T35 y578 x5_1).f5⟩ : S35)) (k35_mkM _ _ _ (⟨(rd_T35 y578 x5_1).f0, (rd_T35 y578 x5_1).f1, wrap64 ((wrap64 (x1_1 + 1)) + 1), (rd_T35 y578 x5_1).f3, (rd_T35 y578 x5_1).f4, (rd_T35 y578 x5_1).f5⟩ : S35) ) (fun _ hk => hk); have hx17_2 := hcc17 2 _ rfl; (try simp only [show (k35).sz = 6 from rfl, Nat.mul_one, Nat.add_zero] at hx17_2); have hf17_2 := hfr17 2; (try simp only [show (k35).sz = 6 from rfl, Nat.mul_one, Nat.add_zero] at hf17_2); clear hcl17 hcc17 hfr17 hM17) | ((with_reducible refine gate_store (t := 3) (p := 34) rfl ?_); refine store_event (t := 3) (p := 34) (v := ?vo_w18) (w1 := (w16.setCell ⟨go5, (x5_1 : Int).toNat * 6 + 2, none⟩ (.int .i64 (wrap64 ((wrap64 (x1_1 + 1)) + 1))))) ?hg ?ho ?hn ?hr ?_; (case ho => rfl); (case hg => rfl); (case hn => rfl); (case hr => first | (go_simp; done) | (go_simp; rfl)); intro w18 hw; have hg : w16.grownBy w18 (some go5) := (by rw [hw]; exact HP17.2); have hp_ : Kd.R k35 35 w18 w0.heap.size (fun k_ => (P0_ k_ ∨ w.heap.size ≤ k_)) (.slice (some ⟨go5, 0, none⟩) x0_1.length co12) y579 := (by rw [hw, Ny579.out]; exact HP17.1); clear HP17; have n0_ := m_ (hp_); have n1_ := m_ ((by rw [hw]; exact below_set (HB.out) GB5.out : Below w0.heap.size w0 w18)); have n2_ := m_ (Kept.of_grown (S := (fun k_ => P0_ k_)) hg (by repeat (first | (with_reducible first | exact HK.out | apply Kept.alloc | apply Kept.drewN | apply Kept.drew) | exact HK.out)) (fun k_ e_ => (HO_0.out.1 k_ e_))); clear HO_0; clear HB; clear HK; have HO_0 := n0_; have HB := n1_; have HK := n2_; clear n0_ n1_ n2_; clear hg hw hp_; have p8 : 0 ≤ (x5_1 : Int) := of_decide_eq_true (by first | (with_reducible assumption) | assumption); have q8 : (x5_1 : Int) < ((x0_1.length : Int) : Int) := of_decide_eq_true (by first | (with_reducible assumption) | assumption); obtain ⟨ce8, hcl8, hM8, hcc8, hfr8⟩ := Kd.R_elem HO_0.out z35 (x5_1 : Int) p8 q8; obtain rfl := k35_openM hM8; have hx8_0 : w18.cell? ⟨go5, (x5_1 : Int).toNat * 6, none⟩ = some (.bool ((rd_T35 y579 x5_1).f0)) := hcc8 0 _ rfl; have hx8_1 : w18.cell? ⟨go5, (x5_1 : Int).toNat * 6 + 1, none⟩ = some (.bool ((rd_T35 y579 x5_1).f1)) := hcc8 1 _ rfl; have hx8_2 : w18.cell? ⟨go5, (x5_1 : Int).toNat * 6 + 2, none⟩ = some (.int .i64 ((rd_T35 y579 x5_1).f2)) := hcc8 2 _ rfl; have hx8_3 : w18.cell? ⟨go5, (x5_1 : Int).toNat * 6 + 3, none⟩ = some (.int .i64 ((rd_T35 y579 x5_1).f3)) := hcc8 3 _ rfl; have hx8_4 : w18.cell? ⟨go5, (x5_1 : Int).toNat * 6 + 4, none⟩ = some (.int .i64 ((rd_T35 y579 x5_1).f4)) := hcc8 4 _ rfl; have hx8_5 : w18.cell? ⟨go5, (x5_1 : Int).toNat * 6 + 5, none⟩ = some (.string ((rd_T35 y579 x5_1).f5)) := hcc8 5 _ rfl; have hf8_0 : w18.frozen? ⟨go5, (x5_1 : Int).toNat * 6, none⟩ = false := hfr8 0; have hf8_1 : w18.frozen? ⟨go5, (x5_1 : Int).toNat * 6 + 1, none⟩ = false := hfr8 1; have hf8_2 : w18.frozen? ⟨go5, (x5_1 : Int).toNat * 6 + 2, none⟩ = false := hfr8 2; have hf8_3 : w18.frozen? ⟨go5, (x5_1 : Int).toNat * 6 + 3, none⟩ = false := hfr8 3; have hf8_4 : w18.frozen? ⟨go5, (x5_1 : Int).toNat * 6 + 4, none⟩ = false := hfr8 4; have hf8_5 : w18.frozen? ⟨go5, (x5_1 : Int).toNat * 6 + 5, none⟩ = false := hfr8 5; clear hcl8 hcc8 hfr8 hM8; replace p8 := eq_true p8; replace q8 := eq_true q8; have HX19 := m_ (show Kd.R k35 35 w18 w0.heap.size (fun k_ => (P0_ k_ ∨ w.heap.size ≤ k_)) (.slice (some ⟨go5, 0, none⟩) x0_1.length co12) y579 from (rN HO_0.out)); obtain ⟨ce19, hcl19, hM19, hcc19, hfr19⟩ := Kd.R_elem HX19.out z35 (x5_1 : Int) (of_decide_eq_true (by first | (with_reducible assumption) | assumption)) (by have h_ : (x5_1 : Int) < ((x0_1.length : Int) : Int) := of_decide_eq_true (by first | (with_reducible assumption) | assumption); first | exact h_ | (have e_ := (Kd.R_reads' HO_0.out).1; omega) | simpa using h_); obtain rfl := k35_openM hM19; have HP19 := Kd.R_seg HX19.out (x5_1 : Int) (of_decide_eq_true (by first | (with_reducible assumption) | assumption)) (by have h_ : (x5_1 : Int) < ((x0_1.length : Int) : Int) := of_decide_eq_true (by first | (with_reducible assumption) | assumption); first | exact h_ | (have e_ := (Kd.R_reads' HO_0.out).1; omega) | simpa using h_) (seg := [.int .i64 (wrap64 ((wrap64 ((wrap64 (x1_1 + 1)) + 1)) + 1))]) (j := 3) hcl19 hcc19 (show 4 ≤ 6 from by decide) (x' := (⟨(rd_T35 y579 x5_1).f0, (rd_T35 y579 x5_1).f1, (rd_T35 y579 x5_1).f2, wrap64 ((wrap64 ((wrap64 (x1_1 + 1)) + 1)) + 1), (rd_T35 y579 x5_1).f4, (rd_T35 y579 x5_1).f5⟩ : S35)) (k35_mkM _ _ _ (⟨(rd_T35 y579 x5_1).f0, (rd_T35 y579 x5_1).f1, (rd_T35 y579 x5_1).f2, wrap64 ((wrap64 ((wrap64 (x1_1 + 1)) + 1)) + 1), (rd_T35 y579 x5_1).f4, (rd_T35 y579 x5_1).f5⟩ : S35) ) (fun _ hk => hk); have hx19_3 := hcc19 3 _ rfl; (try simp only [show (k35).sz = 6 from rfl, Nat.mul_one, Nat.add_zero] at hx19_3); have hf19_3 := hfr19 3; (try simp only [show (k35).sz = 6 from rfl, Nat.mul_one, Nat.add_zero] at hf19_3); clear hcl19 hcc19 hfr19 hM19) | ((with_reducible refine gate_store (t := 3) (p := 41) rfl ?_); refine store_event (t := 3) (p := 41) (v := ?vo_w20) (w1 := (w18.setCell ⟨go5, (x5_1 : Int).toNat * 6 + 3, none⟩ (.int .i64 (wrap64 ((wrap64 ((wrap64 (x1_1 + 1)) + 1)) + 1))))) ?hg ?ho ?hn ?hr ?_; (case ho => rfl); (case hg => rfl); (case hn => rfl); (case hr => first | (go_simp; done) | (go_simp; rfl)); intro w20 hw; have hg : w18.grownBy w20 (some go5) := (by rw [hw]; exact HP19.2); have hp_ : Kd.R k35 35 w20 w0.heap.size (fun k_ => (P0_ k_ ∨ w.heap.size ≤ k_)) (.slice (some ⟨go5, 0, none⟩) x0_1.length co12) y580 := (by rw [hw, Ny580.out]; exact HP19.1); clear HP19; have n0_ := m_ (hp_); have n1_ := m_ ((by rw [hw]; exact below_set (HB.out) GB5.out : Below w0.heap.size w0 w20)); have n2_ := m_ (Kept.of_grown (S := (fun k_ => P0_ k_)) hg (by repeat (first | (with_reducible first | exact HK.out | apply Kept.alloc | apply Kept.drewN | apply Kept.drew) | exact HK.out)) (fun k_ e_ => (HO_0.out.1 k_ e_))); clear HO_0; clear HB; clear HK; have HO_0 := n0_; have HB := n1_; have HK := n2_; clear n0_ n1_ n2_; clear hg hw hp_; have p9 : 0 ≤ (x5_1 : Int) := of_decide_eq_true (by first | (with_reducible assumption) | assumption); have q9 : (x5_1 : Int) < ((x0_1.length : Int) : Int) := of_decide_eq_true (by first | (with_reducible assumption) | assumption); obtain ⟨ce9, hcl9, hM9, hcc9, hfr9⟩ := Kd.R_elem HO_0.out z35 (x5_1 : Int) p9 q9; obtain rfl := k35_openM hM9; have hx9_0 : w20.cell? ⟨go5, (x5_1 : Int).toNat * 6, none⟩ = some (.bool ((rd_T35 y580 x5_1).f0)) := hcc9 0 _ rfl; have hx9_1 : w20.cell? ⟨go5, (x5_1 : Int).toNat * 6 + 1, none⟩ = some (.bool ((rd_T35 y580 x5_1).f1)) := hcc9 1 _ rfl; have hx9_2 : w20.cell? ⟨go5, (x5_1 : Int).toNat * 6 + 2, none⟩ = some (.int .i64 ((rd_T35 y580 x5_1).f2)) := hcc9 2 _ rfl; have hx9_3 : w20.cell? ⟨go5, (x5_1 : Int).toNat * 6 + 3, none⟩ = some (.int .i64 ((rd_T35 y580 x5_1).f3)) := hcc9 3 _ rfl; have hx9_4 : w20.cell? ⟨go5, (x5_1 : Int).toNat * 6 + 4, none⟩ = some (.int .i64 ((rd_T35 y580 x5_1).f4)) := hcc9 4 _ rfl; have hx9_5 : w20.cell? ⟨go5, (x5_1 : Int).toNat * 6 + 5, none⟩ = some (.string ((rd_T35 y580 x5_1).f5)) := hcc9 5 _ rfl; have hf9_0 : w20.frozen? ⟨go5, (x5_1 : Int).toNat * 6, none⟩ = false := hfr9 0; have hf9_1 : w20.frozen? ⟨go5, (x5_1 : Int).toNat * 6 + 1, none⟩ = false := hfr9 1; have hf9_2 : w20.frozen? ⟨go5, (x5_1 : Int).toNat * 6 + 2, none⟩ = false := hfr9 2; have hf9_3 : w20.frozen? ⟨go5, (x5_1 : Int).toNat * 6 + 3, none⟩ = false := hfr9 3; have hf9_4 : w20.frozen? ⟨go5, (x5_1 : Int).toNat * 6 + 4, none⟩ = false := hfr9 4; have hf9_5 : w20.frozen? ⟨go5, (x5_1 : Int).toNat * 6 + 5, none⟩ = false := hfr9 5; clear hcl9 hcc9 hfr9 hM9; replace p9 := eq_true p9; replace q9 := eq_true q9; have HX21 := m_ (show Kd.R k35 35 w20 w0.heap.size (fun k_ => (P0_ k_ ∨ w.heap.size ≤ k_)) (.slice (some ⟨go5, 0, none⟩) x0_1.length co12) y580 from (rN HO_0.out)); obtain ⟨ce21, hcl21, hM21, hcc21, hfr21⟩ := Kd.R_elem HX21.out z35 (x5_1 : Int) (of_decide_eq_true (by first | (with_reducible assumption) | assumption)) (by have h_ : (x5_1 : Int) < ((x0_1.length : Int) : Int) := of_decide_eq_true (by first | (with_reducible assumption) | assumption); first | exact h_ | (have e_ := (Kd.R_reads' HO_0.out).1; omega) | simpa using h_); obtain rfl := k35_openM hM21; have HP21 := Kd.R_seg HX21.out (x5_1 : Int) (of_decide_eq_true (by first | (with_reducible assumption) | assumption)) (by have h_ : (x5_1 : Int) < ((x0_1.length : Int) : Int) := of_decide_eq_true (by first | (with_reducible assumption) | assumption); first | exact h_ | (have e_ := (Kd.R_reads' HO_0.out).1; omega) | simpa using h_) (seg := [.int .i64 (wrap64 ((wrap64 ((wrap64 ((wrap64 (x1_1 + 1)) + 1)) + 1)) + 1))]) (j := 4) hcl21 hcc21 (show 5 ≤ 6 from by decide) (x' := (⟨(rd_T35 y580 x5_1).f0, (rd_T35 y580 x5_1).f1, (rd_T35 y580 x5_1).f2, (rd_T35 y580 x5_1).f3, wrap64 ((wrap64 ((wrap64 ((wrap64 (x1_1 + 1)) + 1)) + 1)) + 1), (rd_T35 y580 x5_1).f5⟩ : S35)) (k35_mkM _ _ _ (⟨(rd_T35 y580 x5_1).f0, (rd_T35 y580 x5_1).f1, (rd_T35 y580 x5_1).f2, (rd_T35 y580 x5_1).f3, wrap64 ((wrap64 ((wrap64 ((wrap64 (x1_1 + 1)) + 1)) + 1)) + 1), (rd_T35 y580 x5_1).f5⟩ : S35) ) (fun _ hk => hk); have hx21_4 := hcc21 4 _ rfl; (try simp only [show (k35).sz = 6 from rfl, Nat.mul_one, Nat.add_zero] at hx21_4); have hf21_4 := hfr21 4; (try simp only [show (k35).sz = 6 from rfl, Nat.mul_one, Nat.add_zero] at hf21_4); clear hcl21 hcc21 hfr21 hM21) | ((with_reducible refine gate_store (t := 3) (p := 48) rfl ?_); refine store_event (t := 3) (p := 48) (v := ?vo_w22) (w1 := (w20.setCell ⟨go5, (x5_1 : Int).toNat * 6 + 4, none⟩ (.int .i64 (wrap64 ((wrap64 ((wrap64 ((wrap64 (x1_1 + 1)) + 1)) + 1)) + 1))))) ?hg ?ho ?hn ?hr ?_; (case ho => rfl); (case hg => rfl); (case hn => rfl); (case hr => first | (go_simp; done) | (go_simp; rfl)); intro w22 hw; have hg : w20.grownBy w22 (some go5) := (by rw [hw]; exact HP21.2); have hp_ : Kd.R k35 35 w22 w0.heap.size (fun k_ => (P0_ k_ ∨ w.heap.size ≤ k_)) (.slice (some ⟨go5, 0, none⟩) x0_1.length co12) y581 := (by rw [hw, Ny581.out]; exact HP21.1); clear HP21; have n0_ := m_ (hp_); have n1_ := m_ ((by rw [hw]; exact below_set (HB.out) GB5.out : Below w0.heap.size w0 w22)); have n2_ := m_ (Kept.of_grown (S := (fun k_ => P0_ k_)) hg (by repeat (first | (with_reducible first | exact HK.out | apply Kept.alloc | apply Kept.drewN | apply Kept.drew) | exact HK.out)) (fun k_ e_ => (HO_0.out.1 k_ e_))); clear HO_0; clear HB; clear HK; have HO_0 := n0_; have HB := n1_; have HK := n2_; clear n0_ n1_ n2_; clear hg hw hp_) | ((with_reducible refine gate_callee (f := 57) rfl ?_); refine goesL_ (some 54) rfl rfl Try.func57 (by kernel_rfl) rfl #[.int .i64 (wrap64 ((wrap64 ((wrap64 ((wrap64 ((wrap64 (x1_1 + 1)) + 1)) + 1)) + 1)) + 1))] rfl gl_ ?_; (with_reducible refine (laws_markText.calls k1 (wrap64 ((wrap64 ((wrap64 ((wrap64 ((wrap64 (x1_1 + 1)) + 1)) + 1)) + 1)) + 1)) t582 _ A10.out).mono ?_); rintro e w23 ⟨rfl, hb⟩; refine ⟨_, rfl, ?_⟩; have n0_ := m_ (Kd.R_below (rN HO_0.out) hb); have n1_ := m_ (Kept.below (S := (fun k_ => P0_ k_)) (by repeat (first | (with_reducible first | exact HK.out | apply Kept.alloc | apply Kept.drewN | apply Kept.drew) | exact HK.out)) hb); have n2_ := m_ (below_step (bN HB.out) hb); clear HO_0; clear HK; clear HB; have HO_0 := n0_; have HK := n1_; have HB := n2_; clear n0_ n1_ n2_; (try clear hb); (try clear hb2); (try clear hk); (try clear hi); have p11 : 0 ≤ (x5_1 : Int) := of_decide_eq_true (by first | (with_reducible assumption) | assumption); have q11 : (x5_1 : Int) < ((x0_1.length : Int) : Int) := of_decide_eq_true (by first | (with_reducible assumption) | assumption); obtain ⟨ce11, hcl11, hM11, hcc11, hfr11⟩ := Kd.R_elem HO_0.out z35 (x5_1 : Int) p11 q11; obtain rfl := k35_openM hM11; have hx11_0 : w23.cell? ⟨go5, (x5_1 : Int).toNat * 6, none⟩ = some (.bool ((rd_T35 y581 x5_1).f0)) := hcc11 0 _ rfl; have hx11_1 : w23.cell? ⟨go5, (x5_1 : Int).toNat * 6 + 1, none⟩ = some (.bool ((rd_T35 y581 x5_1).f1)) := hcc11 1 _ rfl; have hx11_2 : w23.cell? ⟨go5, (x5_1 : Int).toNat * 6 + 2, none⟩ = some (.int .i64 ((rd_T35 y581 x5_1).f2)) := hcc11 2 _ rfl; have hx11_3 : w23.cell? ⟨go5, (x5_1 : Int).toNat * 6 + 3, none⟩ = some (.int .i64 ((rd_T35 y581 x5_1).f3)) := hcc11 3 _ rfl; have hx11_4 : w23.cell? ⟨go5, (x5_1 : Int).toNat * 6 + 4, none⟩ = some (.int .i64 ((rd_T35 y581 x5_1).f4)) := hcc11 4 _ rfl; have hx11_5 : w23.cell? ⟨go5, (x5_1 : Int).toNat * 6 + 5, none⟩ = some (.string ((rd_T35 y581 x5_1).f5)) := hcc11 5 _ rfl; have hf11_0 : w23.frozen? ⟨go5, (x5_1 : Int).toNat * 6, none⟩ = false := hfr11 0; have hf11_1 : w23.frozen? ⟨go5, (x5_1 : Int).toNat * 6 + 1, none⟩ = false := hfr11 1; have hf11_2 : w23.frozen? ⟨go5, (x5_1 : Int).toNat * 6 + 2, none⟩ = false := hfr11 2; have hf11_3 : w23.frozen? ⟨go5, (x5_1 : Int).toNat * 6 + 3, none⟩ = false := hfr11 3; have hf11_4 : w23.frozen? ⟨go5, (x5_1 : Int).toNat * 6 + 4, none⟩ = false := hfr11 4; have hf11_5 : w23.frozen? ⟨go5, (x5_1 : Int).toNat * 6 + 5, none⟩ = false := hfr11 5; clear hcl11 hcc11 hfr11 hM11; replace p11 := eq_true p11; replace q11 := eq_true q11; have HX24 := m_ (show Kd.R k35 35 w23 w0.heap.size (fun k_ => (P0_ k_ ∨ w.heap.size ≤ k_)) (.slice (some ⟨go5, 0, none⟩) x0_1.length co12) y581 from (rN HO_0.out)); obtain ⟨ce24, hcl24, hM24, hcc24, hfr24⟩ := Kd.R_elem HX24.out z35 (x5_1 : Int) (of_decide_eq_true (by first | (with_reducible assumption) | assumption)) (by have h_ : (x5_1 : Int) < ((x0_1.length : Int) : Int) := of_decide_eq_true (by first | (with_reducible assumption) | assumption); first | exact h_ | (have e_ := (Kd.R_reads' HO_0.out).1; omega) | simpa using h_); obtain rfl := k35_openM hM24; have HP24 := Kd.R_seg HX24.out (x5_1 : Int) (of_decide_eq_true (by first | (with_reducible assumption) | assumption)) (by have h_ : (x5_1 : Int) < ((x0_1.length : Int) : Int) := of_decide_eq_true (by first | (with_reducible assumption) | assumption); first | exact h_ | (have e_ := (Kd.R_reads' HO_0.out).1; omega) | simpa using h_) (seg := [.string t582]) (j := 5) hcl24 hcc24 (show 6 ≤ 6 from by decide) (x' := (⟨(rd_T35 y581 x5_1).f0, (rd_T35 y581 x5_1).f1, (rd_T35 y581 x5_1).f2, (rd_T35 y581 x5_1).f3, (rd_T35 y581 x5_1).f4, t582⟩ : S35)) (k35_mkM _ _ _ (⟨(rd_T35 y581 x5_1).f0, (rd_T35 y581 x5_1).f1, (rd_T35 y581 x5_1).f2, (rd_T35 y581 x5_1).f3, (rd_T35 y581 x5_1).f4, t582⟩ : S35) ) (fun _ hk => hk); have hx24_5 := hcc24 5 _ rfl; (try simp only [show (k35).sz = 6 from rfl, Nat.mul_one, Nat.add_zero] at hx24_5); have hf24_5 := hfr24 5; (try simp only [show (k35).sz = 6 from rfl, Nat.mul_one, Nat.add_zero] at hf24_5); clear hcl24 hcc24 hfr24 hM24) | ((with_reducible refine gate_store (t := 9) (p := 56) rfl ?_); refine store_event (t := 9) (p := 56) (v := ?vo_w25) (w1 := (w23.setCell ⟨go5, (x5_1 : Int).toNat * 6 + 5, none⟩ (.string t582))) ?hg ?ho ?hn ?hr ?_; (case ho => rfl); (case hg => rfl); (case hn => rfl); (case hr => first | (go_simp; done) | (go_simp; rfl)); intro w25 hw; have hg : w23.grownBy w25 (some go5) := (by rw [hw]; exact HP24.2); have hp_ : Kd.R k35 35 w25 w0.heap.size (fun k_ => (P0_ k_ ∨ w.heap.size ≤ k_)) (.slice (some ⟨go5, 0, none⟩) x0_1.length co12) y583 := (by rw [hw, Ny583.out]; exact HP24.1); clear HP24; have n0_ := m_ (hp_); have n1_ := m_ ((by rw [hw]; exact below_set (HB.out) GB5.out : Below w0.heap.size w0 w25)); have n2_ := m_ (Kept.of_grown (S := (fun k_ => P0_ k_)) hg (by repeat (first | (with_reducible first | exact HK.out | apply Kept.alloc | apply Kept.drewN | apply Kept.drew) | exact HK.out)) (fun k_ e_ => (HO_0.out.1 k_ e_))); clear HO_0; clear HB; clear HK; have HO_0 := n0_; have HB := n1_; have HK := n2_; clear n0_ n1_ n2_; clear hg hw hp_))
     go_roundg k1
     case measure => have := HK1.out; omega
     case rel => exact ⟨(y583), (wrap64 ((wrap64 ((wrap64 ((wrap64 ((wrap64 ((wrap64 (x1_1 + 1)) + 1)) + 1)) + 1)) + 1)) + 1)), (wrap64 (x5_1 + 1)), (by first | rfl | (simp; done) | (simp [*]; done)), (by first | rfl | (simp; done) | (simp [*]; done)), H', ⟨by have := HK1.out; omega⟩, ⟨by (with_reducible repeat (first | apply Kd.R_alloc | apply Kd.R_drewN | apply Kd.R_drew)); exact HO_0.out⟩, ⟨by repeat (first | (with_reducible first | exact HK.out | apply Kept.alloc | apply Kept.drewN | apply Kept.drew) | exact HK.out)⟩, ⟨by repeat (first | (with_reducible first | exact HB.out | apply below_alloc | apply pw_below_drewN | apply below_drew1) | exact HB.out)⟩⟩
    ·rw [if_neg c4] at H
     exact absurd H (by simp)
   ·rw [if_neg c3] at H
    have c3b0 : decide (x5_1 < (x0_1.length : Int)) = false := decide_eq_false c3
    clear c3
    simp only [Option.some.injEq, Prod.mk.injEq] at H
    obtain ⟨rfl, rfl⟩ := H
    obtain ⟨Ao26, co26, eo26⟩ := Kd.R_slice HO_0.out
    subst eo26
    go_wp2
    go_ret
    exact ⟨by first | rfl | (simp [errW_none, errW_some] <;> rfl) | (simp [*, errW_none, errW_some] <;> rfl), by (with_reducible repeat (first | apply Kd.R_alloc | apply Kd.R_drewN | apply Kd.R_drew)); exact HO_0.out, by repeat (first | (with_reducible first | exact HB.out | apply below_alloc | apply pw_below_drewN | apply below_drew1) | exact HB.out), by repeat (first | (with_reducible first | exact HK.out | apply Kept.alloc | apply Kept.drewN | apply Kept.drew) | exact HK.out)⟩

end Go.Proofs.Ytnlhaiihbcdmoaa.P
