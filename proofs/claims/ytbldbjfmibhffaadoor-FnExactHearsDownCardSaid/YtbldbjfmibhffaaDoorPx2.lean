/- The machine side of these statements, function by function: what each Go function answers (as a Lean function), and that it does. Written by a program (mp.py) for this claim. -/
import Derived.Test.YtbldbjfmibhffaaDoorPx0
namespace Go.Proofs.YtbldbjfmibhffaaDoor.P
open Go.RowKit Go.Proofs.YtbldbjfmibhffaaDoorW.PrintWords Go.Proofs.YtbldbjfmibhffaaDoorW.PrintLast Go.Proofs.YtbldbjfmibhffaaDoorW.PrintMore
attribute [local go_sem] max2_int min2_int max_two min_two max_three min_three max_four min_four   -- for this text's walks alone
set_option linter.unusedVariables false
set_option linter.unusedSimpArgs false

/-! ### laws_szHears: function 4 -/
def laws_szHears.f (a0_0 : Int) (a0_1 : Bool) (a0_2 : ByteArray) (a1 : Int) : Option (Int) := if (wrap64 (a1 - (a0_2.size : Int))) < 0 then (some (-1)) else (some (wrap64 (a1 - (a0_2.size : Int))))
set_option maxHeartbeats 8000000 in
set_option maxRecDepth 100000 in
theorem laws_szHears.calls (a0_0 : Int) (a0_1 : Bool) (a0_2 : ByteArray) (a1 : Int) (r : Int) (w : World) (h : laws_szHears.f a0_0 a0_1 a0_2 a1 = some r) :
  Calls Tryd.prog 4 #[.agg #[.int .i64 a0_0, .bool a0_1, .string a0_2], .int .i64 a1] w fun e w' => e = .returned (.int .i64 r) ∧ Below w.heap.size w w' := by
 have hu23 := Tryd.underlying23
 have HB := m_ (Below.refl w.heap.size w)
 have H : (if (wrap64 (a1 - (a0_2.size : Int))) < 0 then (some (-1)) else (some (wrap64 (a1 - (a0_2.size : Int))))) = some r := h
 clear h
 by_cases c3 : (wrap64 (a1 - (a0_2.size : Int))) < 0
 ·rw [if_pos c3] at H
  have c3b0 : decide ((wrap64 (a1 - (a0_2.size : Int))) < 0) = true := decide_eq_true c3
  clear c3
  obtain rfl := Option.some.inj H
  go_enter Tryd.func4, Tryd.ntmps4
  go_wp2_with (first | ((with_reducible refine gate_dst (N := 2) rfl ?_); refine box_event ?hg (N := 2) ?hd (cs := #[.int .i64 a0_0, .bool a0_1, .string a0_2]) (t := 23) ?hr ?_; (case hd => rfl); (case hg => rfl); (case hr => first | (go_simp; done) | (go_simp; rfl)); intro gb101 hg w4 hbox hb; have n0_ := m_ (below_step (bN HB.out) hb); have n1_ := m_ (hbox); have n2_ := m_ ((by rw [hg]; exact (below_size (bN HB.out)) : w.heap.size ≤ gb101)); have n3_ := m_ ((by rw [hg]; exact (below_size (bN HB.out)) : w.heap.size ≤ gb101)); clear HB; have HB := n0_; have BK101 := n1_; have GW101 := n2_; have GE101 := n3_; clear n0_ n1_ n2_ n3_; clear hb hbox hg; have hcz5_0 : w4.cell? ⟨gb101, 0, none⟩ = some (.int .i64 a0_0) := bc BK101 0; have hcz5_1 : w4.cell? ⟨gb101, 1, none⟩ = some (.bool a0_1) := bc BK101 1; have hcz5_2 : w4.cell? ⟨gb101, 2, none⟩ = some (.string a0_2) := bc BK101 2; have hfz5_0 := blk_frozen BK101.out 0; have hfz5_1 := blk_frozen BK101.out 1; have hfz5_2 := blk_frozen BK101.out 2))
  go_ret
  exact ⟨by first | rfl | (simp [errW_none, errW_some] <;> rfl) | (simp [*, errW_none, errW_some] <;> rfl), by repeat (first | (with_reducible first | exact HB.out | apply below_alloc | apply pw_below_drewN | apply below_drew1 | refine below_set ?_ GE101.out) | exact HB.out)⟩
 ·rw [if_neg c3] at H
  have c3b0 : decide ((wrap64 (a1 - (a0_2.size : Int))) < 0) = false := decide_eq_false c3
  clear c3
  obtain rfl := Option.some.inj H
  go_enter Tryd.func4, Tryd.ntmps4
  go_wp2_with (first | ((with_reducible refine gate_dst (N := 2) rfl ?_); refine box_event ?hg (N := 2) ?hd (cs := #[.int .i64 a0_0, .bool a0_1, .string a0_2]) (t := 23) ?hr ?_; (case hd => rfl); (case hg => rfl); (case hr => first | (go_simp; done) | (go_simp; rfl)); intro gb101 hg w6 hbox hb; have n0_ := m_ (below_step (bN HB.out) hb); have n1_ := m_ (hbox); have n2_ := m_ ((by rw [hg]; exact (below_size (bN HB.out)) : w.heap.size ≤ gb101)); have n3_ := m_ ((by rw [hg]; exact (below_size (bN HB.out)) : w.heap.size ≤ gb101)); clear HB; have HB := n0_; have BK101 := n1_; have GW101 := n2_; have GE101 := n3_; clear n0_ n1_ n2_ n3_; clear hb hbox hg; have hcz7_0 : w6.cell? ⟨gb101, 0, none⟩ = some (.int .i64 a0_0) := bc BK101 0; have hcz7_1 : w6.cell? ⟨gb101, 1, none⟩ = some (.bool a0_1) := bc BK101 1; have hcz7_2 : w6.cell? ⟨gb101, 2, none⟩ = some (.string a0_2) := bc BK101 2; have hfz7_0 := blk_frozen BK101.out 0; have hfz7_1 := blk_frozen BK101.out 1; have hfz7_2 := blk_frozen BK101.out 2))
  go_ret
  exact ⟨by first | rfl | (simp [errW_none, errW_some] <;> rfl) | (simp [*, errW_none, errW_some] <;> rfl), by repeat (first | (with_reducible first | exact HB.out | apply below_alloc | apply pw_below_drewN | apply below_drew1 | refine below_set ?_ GE101.out) | exact HB.out)⟩

/-! ### laws_szDown: function 5 -/
def laws_szDown.f (a0_0 : Int) (a0_1 : Int) (a0_2 : Int) (a0_3 : Int) (a0_4 : Int) (a0_5 : ByteArray) (a0_6 : ByteArray) (a1 : Int) : Option (Int) := if (wrap64 (a1 - (a0_5.size : Int))) < 0 then (some (-1)) else (if (wrap64 ((wrap64 (a1 - (a0_5.size : Int))) - (a0_6.size : Int))) < 0 then (some (-1)) else (some (wrap64 ((wrap64 (a1 - (a0_5.size : Int))) - (a0_6.size : Int)))))
set_option maxHeartbeats 8000000 in
set_option maxRecDepth 100000 in
theorem laws_szDown.calls (a0_0 : Int) (a0_1 : Int) (a0_2 : Int) (a0_3 : Int) (a0_4 : Int) (a0_5 : ByteArray) (a0_6 : ByteArray) (a1 : Int) (r : Int) (w : World) (h : laws_szDown.f a0_0 a0_1 a0_2 a0_3 a0_4 a0_5 a0_6 a1 = some r) :
  Calls Tryd.prog 5 #[.agg #[.int .i64 a0_0, .int .i64 a0_1, .int .i64 a0_2, .int .i64 a0_3, .int .i64 a0_4, .string a0_5, .string a0_6], .int .i64 a1] w fun e w' => e = .returned (.int .i64 r) ∧ Below w.heap.size w w' := by
 have hu25 := Tryd.underlying25
 have HB := m_ (Below.refl w.heap.size w)
 have H : (if (wrap64 (a1 - (a0_5.size : Int))) < 0 then (some (-1)) else (if (wrap64 ((wrap64 (a1 - (a0_5.size : Int))) - (a0_6.size : Int))) < 0 then (some (-1)) else (some (wrap64 ((wrap64 (a1 - (a0_5.size : Int))) - (a0_6.size : Int)))))) = some r := h
 clear h
 by_cases c3 : (wrap64 (a1 - (a0_5.size : Int))) < 0
 ·rw [if_pos c3] at H
  have c3b0 : decide ((wrap64 (a1 - (a0_5.size : Int))) < 0) = true := decide_eq_true c3
  clear c3
  obtain rfl := Option.some.inj H
  go_enter Tryd.func5, Tryd.ntmps5
  go_wp2_with (first | ((with_reducible refine gate_dst (N := 2) rfl ?_); refine box_event ?hg (N := 2) ?hd (cs := #[.int .i64 a0_0, .int .i64 a0_1, .int .i64 a0_2, .int .i64 a0_3, .int .i64 a0_4, .string a0_5, .string a0_6]) (t := 25) ?hr ?_; (case hd => rfl); (case hg => rfl); (case hr => first | (go_simp; done) | (go_simp; rfl)); intro gb102 hg w4 hbox hb; have n0_ := m_ (below_step (bN HB.out) hb); have n1_ := m_ (hbox); have n2_ := m_ ((by rw [hg]; exact (below_size (bN HB.out)) : w.heap.size ≤ gb102)); have n3_ := m_ ((by rw [hg]; exact (below_size (bN HB.out)) : w.heap.size ≤ gb102)); clear HB; have HB := n0_; have BK102 := n1_; have GW102 := n2_; have GE102 := n3_; clear n0_ n1_ n2_ n3_; clear hb hbox hg; have hcz5_0 : w4.cell? ⟨gb102, 0, none⟩ = some (.int .i64 a0_0) := bc BK102 0; have hcz5_1 : w4.cell? ⟨gb102, 1, none⟩ = some (.int .i64 a0_1) := bc BK102 1; have hcz5_2 : w4.cell? ⟨gb102, 2, none⟩ = some (.int .i64 a0_2) := bc BK102 2; have hcz5_3 : w4.cell? ⟨gb102, 3, none⟩ = some (.int .i64 a0_3) := bc BK102 3; have hcz5_4 : w4.cell? ⟨gb102, 4, none⟩ = some (.int .i64 a0_4) := bc BK102 4; have hcz5_5 : w4.cell? ⟨gb102, 5, none⟩ = some (.string a0_5) := bc BK102 5; have hcz5_6 : w4.cell? ⟨gb102, 6, none⟩ = some (.string a0_6) := bc BK102 6; have hfz5_0 := blk_frozen BK102.out 0; have hfz5_1 := blk_frozen BK102.out 1; have hfz5_2 := blk_frozen BK102.out 2; have hfz5_3 := blk_frozen BK102.out 3; have hfz5_4 := blk_frozen BK102.out 4; have hfz5_5 := blk_frozen BK102.out 5; have hfz5_6 := blk_frozen BK102.out 6))
  go_ret
  exact ⟨by first | rfl | (simp [errW_none, errW_some] <;> rfl) | (simp [*, errW_none, errW_some] <;> rfl), by repeat (first | (with_reducible first | exact HB.out | apply below_alloc | apply pw_below_drewN | apply below_drew1 | refine below_set ?_ GE102.out) | exact HB.out)⟩
 ·rw [if_neg c3] at H
  have c3b0 : decide ((wrap64 (a1 - (a0_5.size : Int))) < 0) = false := decide_eq_false c3
  clear c3
  by_cases c6 : (wrap64 ((wrap64 (a1 - (a0_5.size : Int))) - (a0_6.size : Int))) < 0
  ·rw [if_pos c6] at H
   have c6b0 : decide ((wrap64 ((wrap64 (a1 - (a0_5.size : Int))) - (a0_6.size : Int))) < 0) = true := decide_eq_true c6
   clear c6
   obtain rfl := Option.some.inj H
   go_enter Tryd.func5, Tryd.ntmps5
   go_wp2_with (first | ((with_reducible refine gate_dst (N := 2) rfl ?_); refine box_event ?hg (N := 2) ?hd (cs := #[.int .i64 a0_0, .int .i64 a0_1, .int .i64 a0_2, .int .i64 a0_3, .int .i64 a0_4, .string a0_5, .string a0_6]) (t := 25) ?hr ?_; (case hd => rfl); (case hg => rfl); (case hr => first | (go_simp; done) | (go_simp; rfl)); intro gb102 hg w7 hbox hb; have n0_ := m_ (below_step (bN HB.out) hb); have n1_ := m_ (hbox); have n2_ := m_ ((by rw [hg]; exact (below_size (bN HB.out)) : w.heap.size ≤ gb102)); have n3_ := m_ ((by rw [hg]; exact (below_size (bN HB.out)) : w.heap.size ≤ gb102)); clear HB; have HB := n0_; have BK102 := n1_; have GW102 := n2_; have GE102 := n3_; clear n0_ n1_ n2_ n3_; clear hb hbox hg; have hcz8_0 : w7.cell? ⟨gb102, 0, none⟩ = some (.int .i64 a0_0) := bc BK102 0; have hcz8_1 : w7.cell? ⟨gb102, 1, none⟩ = some (.int .i64 a0_1) := bc BK102 1; have hcz8_2 : w7.cell? ⟨gb102, 2, none⟩ = some (.int .i64 a0_2) := bc BK102 2; have hcz8_3 : w7.cell? ⟨gb102, 3, none⟩ = some (.int .i64 a0_3) := bc BK102 3; have hcz8_4 : w7.cell? ⟨gb102, 4, none⟩ = some (.int .i64 a0_4) := bc BK102 4; have hcz8_5 : w7.cell? ⟨gb102, 5, none⟩ = some (.string a0_5) := bc BK102 5; have hcz8_6 : w7.cell? ⟨gb102, 6, none⟩ = some (.string a0_6) := bc BK102 6; have hfz8_0 := blk_frozen BK102.out 0; have hfz8_1 := blk_frozen BK102.out 1; have hfz8_2 := blk_frozen BK102.out 2; have hfz8_3 := blk_frozen BK102.out 3; have hfz8_4 := blk_frozen BK102.out 4; have hfz8_5 := blk_frozen BK102.out 5; have hfz8_6 := blk_frozen BK102.out 6))
   go_ret
   exact ⟨by first | rfl | (simp [errW_none, errW_some] <;> rfl) | (simp [*, errW_none, errW_some] <;> rfl), by repeat (first | (with_reducible first | exact HB.out | apply below_alloc | apply pw_below_drewN | apply below_drew1 | refine below_set ?_ GE102.out) | exact HB.out)⟩
  ·rw [if_neg c6] at H
   have c6b0 : decide ((wrap64 ((wrap64 (a1 - (a0_5.size : Int))) - (a0_6.size : Int))) < 0) = false := decide_eq_false c6
   clear c6
   obtain rfl := Option.some.inj H
   go_enter Tryd.func5, Tryd.ntmps5
   go_wp2_with (first | ((with_reducible refine gate_dst (N := 2) rfl ?_); refine box_event ?hg (N := 2) ?hd (cs := #[.int .i64 a0_0, .int .i64 a0_1, .int .i64 a0_2, .int .i64 a0_3, .int .i64 a0_4, .string a0_5, .string a0_6]) (t := 25) ?hr ?_; (case hd => rfl); (case hg => rfl); (case hr => first | (go_simp; done) | (go_simp; rfl)); intro gb102 hg w9 hbox hb; have n0_ := m_ (below_step (bN HB.out) hb); have n1_ := m_ (hbox); have n2_ := m_ ((by rw [hg]; exact (below_size (bN HB.out)) : w.heap.size ≤ gb102)); have n3_ := m_ ((by rw [hg]; exact (below_size (bN HB.out)) : w.heap.size ≤ gb102)); clear HB; have HB := n0_; have BK102 := n1_; have GW102 := n2_; have GE102 := n3_; clear n0_ n1_ n2_ n3_; clear hb hbox hg; have hcz10_0 : w9.cell? ⟨gb102, 0, none⟩ = some (.int .i64 a0_0) := bc BK102 0; have hcz10_1 : w9.cell? ⟨gb102, 1, none⟩ = some (.int .i64 a0_1) := bc BK102 1; have hcz10_2 : w9.cell? ⟨gb102, 2, none⟩ = some (.int .i64 a0_2) := bc BK102 2; have hcz10_3 : w9.cell? ⟨gb102, 3, none⟩ = some (.int .i64 a0_3) := bc BK102 3; have hcz10_4 : w9.cell? ⟨gb102, 4, none⟩ = some (.int .i64 a0_4) := bc BK102 4; have hcz10_5 : w9.cell? ⟨gb102, 5, none⟩ = some (.string a0_5) := bc BK102 5; have hcz10_6 : w9.cell? ⟨gb102, 6, none⟩ = some (.string a0_6) := bc BK102 6; have hfz10_0 := blk_frozen BK102.out 0; have hfz10_1 := blk_frozen BK102.out 1; have hfz10_2 := blk_frozen BK102.out 2; have hfz10_3 := blk_frozen BK102.out 3; have hfz10_4 := blk_frozen BK102.out 4; have hfz10_5 := blk_frozen BK102.out 5; have hfz10_6 := blk_frozen BK102.out 6))
   go_ret
   exact ⟨by first | rfl | (simp [errW_none, errW_some] <;> rfl) | (simp [*, errW_none, errW_some] <;> rfl), by repeat (first | (with_reducible first | exact HB.out | apply below_alloc | apply pw_below_drewN | apply below_drew1 | refine below_set ?_ GE102.out) | exact HB.out)⟩

/-! ### spec_l1In: function 21 -/
def spec_l1In.f (a0 : Int) (a1 : Int) (a2 : Int) : Option (Bool) := if a0 ≥ a1 then (some (decide (a0 ≤ a2))) else (some false)
set_option maxHeartbeats 8000000 in
set_option maxRecDepth 100000 in
theorem spec_l1In.calls (a0 : Int) (a1 : Int) (a2 : Int) (r : Bool) (w : World) (h : spec_l1In.f a0 a1 a2 = some r) :
  Calls Tryd.prog 21 #[.int .i64 a0, .int .i64 a1, .int .i64 a2] w fun e w' => e = .returned (.bool r) ∧ Drawn0 w w' := by
 have H : (if a0 ≥ a1 then (some (decide (a0 ≤ a2))) else (some false)) = some r := h
 clear h
 by_cases c4 : a0 ≥ a1
 ·rw [if_pos c4] at H
  have c4b0 : decide (a1 ≤ a0) = true := decide_eq_true c4
  clear c4
  obtain rfl := Option.some.inj H
  go_enter Tryd.func21, Tryd.ntmps21
  go_wp2
  go_ret
  exact ⟨by first | rfl | (simp; done) | (simp [*]; done), by repeat (first | exact Drawn0.refl _ | apply Drawn0.step)⟩
 ·rw [if_neg c4] at H
  have c4b0 : decide (a1 ≤ a0) = false := decide_eq_false c4
  clear c4
  obtain rfl := Option.some.inj H
  go_enter Tryd.func21, Tryd.ntmps21
  go_wp2
  go_ret
  exact ⟨by first | rfl | (simp; done) | (simp [*]; done), by repeat (first | exact Drawn0.refl _ | apply Drawn0.step)⟩

/-! ### spec_l12Hears: function 14 -/
def spec_l12Hears.f (a0_0 : Int) (a0_1 : Bool) (a0_2 : ByteArray) : Option (Bool) := (spec_l1In.f a0_0 0 255).bind fun t104 => (if t104 = true then (if (a0_2.size : Int) ≤ 106 then (if a0_1 = true then (some true) else (some (a0_2.toList == ([] : List UInt8)))) else (some false)) else (some false))
set_option maxHeartbeats 8000000 in
set_option maxRecDepth 100000 in
theorem spec_l12Hears.calls (a0_0 : Int) (a0_1 : Bool) (a0_2 : ByteArray) (r : Bool) (w : World) (h : spec_l12Hears.f a0_0 a0_1 a0_2 = some r) :
  Calls Tryd.prog 14 #[.agg #[.int .i64 a0_0, .bool a0_1, .string a0_2]] w fun e w' => e = .returned (.bool r) ∧ Below w.heap.size w w' := by
 have hu28 := Tryd.underlying28
 have HB := m_ (Below.refl w.heap.size w)
 have H : ((spec_l1In.f a0_0 0 255).bind fun t104 => (if t104 = true then (if (a0_2.size : Int) ≤ 106 then (if a0_1 = true then (some true) else (some (a0_2.toList == ([] : List UInt8)))) else (some false)) else (some false))) = some r := h
 clear h
 replace H := Option.bind_eq_some_iff.mp H
 obtain ⟨t104, A20, H⟩ := H
 replace H : (if t104 = true then (if (a0_2.size : Int) ≤ 106 then (if a0_1 = true then (some true) else (some (a0_2.toList == ([] : List UInt8)))) else (some false)) else (some false)) = some r := H
 have A2 := Aside0.mk A20
 clear A20
 by_cases c3 : t104 = true
 ·subst c3
  have H1 : (if (a0_2.size : Int) ≤ 106 then (if a0_1 = true then (some true) else (some (a0_2.toList == ([] : List UInt8)))) else (some false)) = some r := by rw [if_pos rfl] at H; exact H
  clear H
  have H := H1
  clear H1
  by_cases c4 : (a0_2.size : Int) ≤ 106
  ·rw [if_pos c4] at H
   have c4b0 : decide ((a0_2.size : Int) ≤ 106) = true := decide_eq_true c4
   have c4b1 : decide (a0_2.size ≤ 106) = true := decide_eq_true (by omega)
   clear c4
   by_cases c5 : a0_1 = true
   ·subst c5
    have H1 : (some true) = some r := by rw [if_pos rfl] at H; exact H
    clear H
    have H := H1
    clear H1
    obtain rfl := Option.some.inj H
    go_enter Tryd.func14, Tryd.ntmps14
    go_wp2_with (first | ((with_reducible refine gate_dst (N := 1) rfl ?_); (try (refine gate_guard (by rfl) ?_; dsimp only)); refine box_event ?hg (N := 1) ?hd (cs := #[.int .i64 a0_0, .bool true, .string a0_2]) (t := 28) ?hr ?_; (case hd => rfl); (case hg => rfl); (case hr => first | (go_simp; done) | (go_simp; rfl)); intro gb103 hg w6 hbox hb; have n0_ := m_ (below_step (bN HB.out) hb); have n1_ := m_ (hbox); have n2_ := m_ ((by rw [hg]; exact (below_size (bN HB.out)) : w.heap.size ≤ gb103)); have n3_ := m_ ((by rw [hg]; exact (below_size (bN HB.out)) : w.heap.size ≤ gb103)); clear HB; have HB := n0_; have BK103 := n1_; have GW103 := n2_; have GE103 := n3_; clear n0_ n1_ n2_ n3_; clear hb hbox hg; have hcz7_0 : w6.cell? ⟨gb103, 0, none⟩ = some (.int .i64 a0_0) := bc BK103 0; have hcz7_1 : w6.cell? ⟨gb103, 1, none⟩ = some (.bool true) := bc BK103 1; have hcz7_2 : w6.cell? ⟨gb103, 2, none⟩ = some (.string a0_2) := bc BK103 2; have hfz7_0 := blk_frozen BK103.out 0; have hfz7_1 := blk_frozen BK103.out 1; have hfz7_2 := blk_frozen BK103.out 2) | ((with_reducible refine gate_callee (f := 21) rfl ?_); refine goesL_ (some 5) rfl rfl Tryd.func21 (by kernel_rfl) rfl #[.int .i64 a0_0, .int .i64 0, .int .i64 255] rfl gl_ ?_; (with_reducible refine (spec_l1In.calls a0_0 0 255 true _ A2.out).mono ?_); rintro e w' ⟨rfl, ⟨nd, rfl⟩⟩; refine ⟨_, rfl, ?_⟩))
    go_ret
    exact ⟨by first | rfl | (simp [errW_none, errW_some] <;> rfl) | (simp [*, errW_none, errW_some] <;> rfl), by repeat (first | (with_reducible first | exact HB.out | apply below_alloc | apply pw_below_drewN | apply below_drew1 | refine below_set ?_ GE103.out) | exact HB.out)⟩
   ·replace c5 := Bool.eq_false_iff.mpr c5
    subst c5
    have H1 : (some (a0_2.toList == ([] : List UInt8))) = some r := by rw [if_neg (show ¬ (false = true) by decide)] at H; exact H
    clear H
    have H := H1
    clear H1
    obtain rfl := Option.some.inj H
    go_enter Tryd.func14, Tryd.ntmps14
    go_wp2_with (first | ((with_reducible refine gate_dst (N := 1) rfl ?_); (try (refine gate_guard (by rfl) ?_; dsimp only)); refine box_event ?hg (N := 1) ?hd (cs := #[.int .i64 a0_0, .bool false, .string a0_2]) (t := 28) ?hr ?_; (case hd => rfl); (case hg => rfl); (case hr => first | (go_simp; done) | (go_simp; rfl)); intro gb103 hg w8 hbox hb; have n0_ := m_ (below_step (bN HB.out) hb); have n1_ := m_ (hbox); have n2_ := m_ ((by rw [hg]; exact (below_size (bN HB.out)) : w.heap.size ≤ gb103)); have n3_ := m_ ((by rw [hg]; exact (below_size (bN HB.out)) : w.heap.size ≤ gb103)); clear HB; have HB := n0_; have BK103 := n1_; have GW103 := n2_; have GE103 := n3_; clear n0_ n1_ n2_ n3_; clear hb hbox hg; have hcz9_0 : w8.cell? ⟨gb103, 0, none⟩ = some (.int .i64 a0_0) := bc BK103 0; have hcz9_1 : w8.cell? ⟨gb103, 1, none⟩ = some (.bool false) := bc BK103 1; have hcz9_2 : w8.cell? ⟨gb103, 2, none⟩ = some (.string a0_2) := bc BK103 2; have hfz9_0 := blk_frozen BK103.out 0; have hfz9_1 := blk_frozen BK103.out 1; have hfz9_2 := blk_frozen BK103.out 2) | ((with_reducible refine gate_callee (f := 21) rfl ?_); refine goesL_ (some 5) rfl rfl Tryd.func21 (by kernel_rfl) rfl #[.int .i64 a0_0, .int .i64 0, .int .i64 255] rfl gl_ ?_; (with_reducible refine (spec_l1In.calls a0_0 0 255 true _ A2.out).mono ?_); rintro e w' ⟨rfl, ⟨nd, rfl⟩⟩; refine ⟨_, rfl, ?_⟩))
    go_ret
    exact ⟨by first | rfl | (simp [errW_none, errW_some] <;> rfl) | (simp [*, errW_none, errW_some] <;> rfl), by repeat (first | (with_reducible first | exact HB.out | apply below_alloc | apply pw_below_drewN | apply below_drew1 | refine below_set ?_ GE103.out) | exact HB.out)⟩
  ·rw [if_neg c4] at H
   have c4b0 : decide ((a0_2.size : Int) ≤ 106) = false := decide_eq_false c4
   have c4b1 : decide (a0_2.size ≤ 106) = false := decide_eq_false (by omega)
   clear c4
   obtain rfl := Option.some.inj H
   go_enter Tryd.func14, Tryd.ntmps14
   go_wp2_with (first | ((with_reducible refine gate_dst (N := 1) rfl ?_); (try (refine gate_guard (by rfl) ?_; dsimp only)); refine box_event ?hg (N := 1) ?hd (cs := #[.int .i64 a0_0, .bool a0_1, .string a0_2]) (t := 28) ?hr ?_; (case hd => rfl); (case hg => rfl); (case hr => first | (go_simp; done) | (go_simp; rfl)); intro gb103 hg w10 hbox hb; have n0_ := m_ (below_step (bN HB.out) hb); have n1_ := m_ (hbox); have n2_ := m_ ((by rw [hg]; exact (below_size (bN HB.out)) : w.heap.size ≤ gb103)); have n3_ := m_ ((by rw [hg]; exact (below_size (bN HB.out)) : w.heap.size ≤ gb103)); clear HB; have HB := n0_; have BK103 := n1_; have GW103 := n2_; have GE103 := n3_; clear n0_ n1_ n2_ n3_; clear hb hbox hg; have hcz11_0 : w10.cell? ⟨gb103, 0, none⟩ = some (.int .i64 a0_0) := bc BK103 0; have hcz11_1 : w10.cell? ⟨gb103, 1, none⟩ = some (.bool a0_1) := bc BK103 1; have hcz11_2 : w10.cell? ⟨gb103, 2, none⟩ = some (.string a0_2) := bc BK103 2; have hfz11_0 := blk_frozen BK103.out 0; have hfz11_1 := blk_frozen BK103.out 1; have hfz11_2 := blk_frozen BK103.out 2) | ((with_reducible refine gate_callee (f := 21) rfl ?_); refine goesL_ (some 5) rfl rfl Tryd.func21 (by kernel_rfl) rfl #[.int .i64 a0_0, .int .i64 0, .int .i64 255] rfl gl_ ?_; (with_reducible refine (spec_l1In.calls a0_0 0 255 true _ A2.out).mono ?_); rintro e w' ⟨rfl, ⟨nd, rfl⟩⟩; refine ⟨_, rfl, ?_⟩))
   go_ret
   exact ⟨by first | rfl | (simp [errW_none, errW_some] <;> rfl) | (simp [*, errW_none, errW_some] <;> rfl), by repeat (first | (with_reducible first | exact HB.out | apply below_alloc | apply pw_below_drewN | apply below_drew1 | refine below_set ?_ GE103.out) | exact HB.out)⟩
 ·replace c3 := Bool.eq_false_iff.mpr c3
  subst c3
  have H1 : (some false) = some r := by rw [if_neg (show ¬ (false = true) by decide)] at H; exact H
  clear H
  have H := H1
  clear H1
  obtain rfl := Option.some.inj H
  go_enter Tryd.func14, Tryd.ntmps14
  go_wp2_with (first | ((with_reducible refine gate_dst (N := 1) rfl ?_); (try (refine gate_guard (by rfl) ?_; dsimp only)); refine box_event ?hg (N := 1) ?hd (cs := #[.int .i64 a0_0, .bool a0_1, .string a0_2]) (t := 28) ?hr ?_; (case hd => rfl); (case hg => rfl); (case hr => first | (go_simp; done) | (go_simp; rfl)); intro gb103 hg w12 hbox hb; have n0_ := m_ (below_step (bN HB.out) hb); have n1_ := m_ (hbox); have n2_ := m_ ((by rw [hg]; exact (below_size (bN HB.out)) : w.heap.size ≤ gb103)); have n3_ := m_ ((by rw [hg]; exact (below_size (bN HB.out)) : w.heap.size ≤ gb103)); clear HB; have HB := n0_; have BK103 := n1_; have GW103 := n2_; have GE103 := n3_; clear n0_ n1_ n2_ n3_; clear hb hbox hg; have hcz13_0 : w12.cell? ⟨gb103, 0, none⟩ = some (.int .i64 a0_0) := bc BK103 0; have hcz13_1 : w12.cell? ⟨gb103, 1, none⟩ = some (.bool a0_1) := bc BK103 1; have hcz13_2 : w12.cell? ⟨gb103, 2, none⟩ = some (.string a0_2) := bc BK103 2; have hfz13_0 := blk_frozen BK103.out 0; have hfz13_1 := blk_frozen BK103.out 1; have hfz13_2 := blk_frozen BK103.out 2) | ((with_reducible refine gate_callee (f := 21) rfl ?_); refine goesL_ (some 5) rfl rfl Tryd.func21 (by kernel_rfl) rfl #[.int .i64 a0_0, .int .i64 0, .int .i64 255] rfl gl_ ?_; (with_reducible refine (spec_l1In.calls a0_0 0 255 false _ A2.out).mono ?_); rintro e w' ⟨rfl, ⟨nd, rfl⟩⟩; refine ⟨_, rfl, ?_⟩))
  go_ret
  exact ⟨by first | rfl | (simp [errW_none, errW_some] <;> rfl) | (simp [*, errW_none, errW_some] <;> rfl), by repeat (first | (with_reducible first | exact HB.out | apply below_alloc | apply pw_below_drewN | apply below_drew1 | refine below_set ?_ GE103.out) | exact HB.out)⟩

/-! ### spec_FarmOk: function 33 -/
def spec_FarmOk.f (a0_0 : Bool) (a0_1 : Bool) (a0_2 : Bool) (a0_3 : Int) (a0_4 : Int) : Option (Bool) := (spec_l1In.f a0_3 0 3).bind fun t106 => (if t106 = true then ((spec_l1In.f a0_4 0 255).bind fun t107 => (if t107 = true then (if a0_1 = true then (some a0_2) else (some true)) else (some false))) else (some false))
set_option maxHeartbeats 8000000 in
set_option maxRecDepth 100000 in
theorem spec_FarmOk.calls (a0_0 : Bool) (a0_1 : Bool) (a0_2 : Bool) (a0_3 : Int) (a0_4 : Int) (r : Bool) (w : World) (h : spec_FarmOk.f a0_0 a0_1 a0_2 a0_3 a0_4 = some r) :
  Calls Tryd.prog 33 #[.agg #[.bool a0_0, .bool a0_1, .bool a0_2, .int .i64 a0_3, .int .i64 a0_4]] w fun e w' => e = .returned (.bool r) ∧ Below w.heap.size w w' := by
 have hu48 := Tryd.underlying48
 have HB := m_ (Below.refl w.heap.size w)
 have H : ((spec_l1In.f a0_3 0 3).bind fun t106 => (if t106 = true then ((spec_l1In.f a0_4 0 255).bind fun t107 => (if t107 = true then (if a0_1 = true then (some a0_2) else (some true)) else (some false))) else (some false))) = some r := h
 clear h
 replace H := Option.bind_eq_some_iff.mp H
 obtain ⟨t106, A20, H⟩ := H
 replace H : (if t106 = true then ((spec_l1In.f a0_4 0 255).bind fun t107 => (if t107 = true then (if a0_1 = true then (some a0_2) else (some true)) else (some false))) else (some false)) = some r := H
 have A2 := Aside0.mk A20
 clear A20
 by_cases c3 : t106 = true
 ·subst c3
  have H1 : ((spec_l1In.f a0_4 0 255).bind fun t107 => (if t107 = true then (if a0_1 = true then (some a0_2) else (some true)) else (some false))) = some r := by rw [if_pos rfl] at H; exact H
  clear H
  have H := H1
  clear H1
  replace H := Option.bind_eq_some_iff.mp H
  obtain ⟨t107, A40, H⟩ := H
  replace H : (if t107 = true then (if a0_1 = true then (some a0_2) else (some true)) else (some false)) = some r := H
  have A4 := Aside0.mk A40
  clear A40
  by_cases c5 : t107 = true
  ·subst c5
   have H1 : (if a0_1 = true then (some a0_2) else (some true)) = some r := by rw [if_pos rfl] at H; exact H
   clear H
   have H := H1
   clear H1
   by_cases c6 : a0_1 = true
   ·subst c6
    have H1 : (some a0_2) = some r := by rw [if_pos rfl] at H; exact H
    clear H
    have H := H1
    clear H1
    obtain rfl := Option.some.inj H
    go_enter Tryd.func33, Tryd.ntmps33
    go_wp2_with (first | ((with_reducible refine gate_dst (N := 1) rfl ?_); refine box_event ?hg (N := 1) ?hd (cs := #[.bool a0_0, .bool true, .bool a0_2, .int .i64 a0_3, .int .i64 a0_4]) (t := 48) ?hr ?_; (case hd => rfl); (case hg => rfl); (case hr => first | (go_simp; done) | (go_simp; rfl)); intro gb105 hg w7 hbox hb; have n0_ := m_ (below_step (bN HB.out) hb); have n1_ := m_ (hbox); have n2_ := m_ ((by rw [hg]; exact (below_size (bN HB.out)) : w.heap.size ≤ gb105)); have n3_ := m_ ((by rw [hg]; exact (below_size (bN HB.out)) : w.heap.size ≤ gb105)); clear HB; have HB := n0_; have BK105 := n1_; have GW105 := n2_; have GE105 := n3_; clear n0_ n1_ n2_ n3_; clear hb hbox hg; have hcz8_0 : w7.cell? ⟨gb105, 0, none⟩ = some (.bool a0_0) := bc BK105 0; have hcz8_1 : w7.cell? ⟨gb105, 1, none⟩ = some (.bool true) := bc BK105 1; have hcz8_2 : w7.cell? ⟨gb105, 2, none⟩ = some (.bool a0_2) := bc BK105 2; have hcz8_3 : w7.cell? ⟨gb105, 3, none⟩ = some (.int .i64 a0_3) := bc BK105 3; have hcz8_4 : w7.cell? ⟨gb105, 4, none⟩ = some (.int .i64 a0_4) := bc BK105 4; have hfz8_0 := blk_frozen BK105.out 0; have hfz8_1 := blk_frozen BK105.out 1; have hfz8_2 := blk_frozen BK105.out 2; have hfz8_3 := blk_frozen BK105.out 3; have hfz8_4 := blk_frozen BK105.out 4) | ((with_reducible refine gate_callee (f := 21) rfl ?_); refine goesL_ (some 5) rfl rfl Tryd.func21 (by kernel_rfl) rfl #[.int .i64 a0_3, .int .i64 0, .int .i64 3] rfl gl_ ?_; (with_reducible refine (spec_l1In.calls a0_3 0 3 true _ A2.out).mono ?_); rintro e w' ⟨rfl, ⟨nd, rfl⟩⟩; refine ⟨_, rfl, ?_⟩) | (go_at_call 21; (with_reducible refine (spec_l1In.calls a0_4 0 255 true _ A4.out).mono ?_); rintro e w' ⟨rfl, ⟨nd, rfl⟩⟩))
    go_ret
    exact ⟨by first | rfl | (simp [errW_none, errW_some] <;> rfl) | (simp [*, errW_none, errW_some] <;> rfl), by repeat (first | (with_reducible first | exact HB.out | apply below_alloc | apply pw_below_drewN | apply below_drew1 | refine below_set ?_ GE105.out) | exact HB.out)⟩
   ·replace c6 := Bool.eq_false_iff.mpr c6
    subst c6
    have H1 : (some true) = some r := by rw [if_neg (show ¬ (false = true) by decide)] at H; exact H
    clear H
    have H := H1
    clear H1
    obtain rfl := Option.some.inj H
    go_enter Tryd.func33, Tryd.ntmps33
    go_wp2_with (first | ((with_reducible refine gate_dst (N := 1) rfl ?_); refine box_event ?hg (N := 1) ?hd (cs := #[.bool a0_0, .bool false, .bool a0_2, .int .i64 a0_3, .int .i64 a0_4]) (t := 48) ?hr ?_; (case hd => rfl); (case hg => rfl); (case hr => first | (go_simp; done) | (go_simp; rfl)); intro gb105 hg w9 hbox hb; have n0_ := m_ (below_step (bN HB.out) hb); have n1_ := m_ (hbox); have n2_ := m_ ((by rw [hg]; exact (below_size (bN HB.out)) : w.heap.size ≤ gb105)); have n3_ := m_ ((by rw [hg]; exact (below_size (bN HB.out)) : w.heap.size ≤ gb105)); clear HB; have HB := n0_; have BK105 := n1_; have GW105 := n2_; have GE105 := n3_; clear n0_ n1_ n2_ n3_; clear hb hbox hg; have hcz10_0 : w9.cell? ⟨gb105, 0, none⟩ = some (.bool a0_0) := bc BK105 0; have hcz10_1 : w9.cell? ⟨gb105, 1, none⟩ = some (.bool false) := bc BK105 1; have hcz10_2 : w9.cell? ⟨gb105, 2, none⟩ = some (.bool a0_2) := bc BK105 2; have hcz10_3 : w9.cell? ⟨gb105, 3, none⟩ = some (.int .i64 a0_3) := bc BK105 3; have hcz10_4 : w9.cell? ⟨gb105, 4, none⟩ = some (.int .i64 a0_4) := bc BK105 4; have hfz10_0 := blk_frozen BK105.out 0; have hfz10_1 := blk_frozen BK105.out 1; have hfz10_2 := blk_frozen BK105.out 2; have hfz10_3 := blk_frozen BK105.out 3; have hfz10_4 := blk_frozen BK105.out 4) | ((with_reducible refine gate_callee (f := 21) rfl ?_); refine goesL_ (some 5) rfl rfl Tryd.func21 (by kernel_rfl) rfl #[.int .i64 a0_3, .int .i64 0, .int .i64 3] rfl gl_ ?_; (with_reducible refine (spec_l1In.calls a0_3 0 3 true _ A2.out).mono ?_); rintro e w' ⟨rfl, ⟨nd, rfl⟩⟩; refine ⟨_, rfl, ?_⟩) | (go_at_call 21; (with_reducible refine (spec_l1In.calls a0_4 0 255 true _ A4.out).mono ?_); rintro e w' ⟨rfl, ⟨nd, rfl⟩⟩))
    go_ret
    exact ⟨by first | rfl | (simp [errW_none, errW_some] <;> rfl) | (simp [*, errW_none, errW_some] <;> rfl), by repeat (first | (with_reducible first | exact HB.out | apply below_alloc | apply pw_below_drewN | apply below_drew1 | refine below_set ?_ GE105.out) | exact HB.out)⟩
  ·replace c5 := Bool.eq_false_iff.mpr c5
   subst c5
   have H1 : (some false) = some r := by rw [if_neg (show ¬ (false = true) by decide)] at H; exact H
   clear H
   have H := H1
   clear H1
   obtain rfl := Option.some.inj H
   go_enter Tryd.func33, Tryd.ntmps33
   go_wp2_with (first | ((with_reducible refine gate_dst (N := 1) rfl ?_); refine box_event ?hg (N := 1) ?hd (cs := #[.bool a0_0, .bool a0_1, .bool a0_2, .int .i64 a0_3, .int .i64 a0_4]) (t := 48) ?hr ?_; (case hd => rfl); (case hg => rfl); (case hr => first | (go_simp; done) | (go_simp; rfl)); intro gb105 hg w11 hbox hb; have n0_ := m_ (below_step (bN HB.out) hb); have n1_ := m_ (hbox); have n2_ := m_ ((by rw [hg]; exact (below_size (bN HB.out)) : w.heap.size ≤ gb105)); have n3_ := m_ ((by rw [hg]; exact (below_size (bN HB.out)) : w.heap.size ≤ gb105)); clear HB; have HB := n0_; have BK105 := n1_; have GW105 := n2_; have GE105 := n3_; clear n0_ n1_ n2_ n3_; clear hb hbox hg; have hcz12_0 : w11.cell? ⟨gb105, 0, none⟩ = some (.bool a0_0) := bc BK105 0; have hcz12_1 : w11.cell? ⟨gb105, 1, none⟩ = some (.bool a0_1) := bc BK105 1; have hcz12_2 : w11.cell? ⟨gb105, 2, none⟩ = some (.bool a0_2) := bc BK105 2; have hcz12_3 : w11.cell? ⟨gb105, 3, none⟩ = some (.int .i64 a0_3) := bc BK105 3; have hcz12_4 : w11.cell? ⟨gb105, 4, none⟩ = some (.int .i64 a0_4) := bc BK105 4; have hfz12_0 := blk_frozen BK105.out 0; have hfz12_1 := blk_frozen BK105.out 1; have hfz12_2 := blk_frozen BK105.out 2; have hfz12_3 := blk_frozen BK105.out 3; have hfz12_4 := blk_frozen BK105.out 4) | ((with_reducible refine gate_callee (f := 21) rfl ?_); refine goesL_ (some 5) rfl rfl Tryd.func21 (by kernel_rfl) rfl #[.int .i64 a0_3, .int .i64 0, .int .i64 3] rfl gl_ ?_; (with_reducible refine (spec_l1In.calls a0_3 0 3 true _ A2.out).mono ?_); rintro e w' ⟨rfl, ⟨nd, rfl⟩⟩; refine ⟨_, rfl, ?_⟩) | (go_at_call 21; (with_reducible refine (spec_l1In.calls a0_4 0 255 false _ A4.out).mono ?_); rintro e w' ⟨rfl, ⟨nd, rfl⟩⟩))
   go_ret
   exact ⟨by first | rfl | (simp [errW_none, errW_some] <;> rfl) | (simp [*, errW_none, errW_some] <;> rfl), by repeat (first | (with_reducible first | exact HB.out | apply below_alloc | apply pw_below_drewN | apply below_drew1 | refine below_set ?_ GE105.out) | exact HB.out)⟩
 ·replace c3 := Bool.eq_false_iff.mpr c3
  subst c3
  have H1 : (some false) = some r := by rw [if_neg (show ¬ (false = true) by decide)] at H; exact H
  clear H
  have H := H1
  clear H1
  obtain rfl := Option.some.inj H
  go_enter Tryd.func33, Tryd.ntmps33
  go_wp2_with (first | ((with_reducible refine gate_dst (N := 1) rfl ?_); refine box_event ?hg (N := 1) ?hd (cs := #[.bool a0_0, .bool a0_1, .bool a0_2, .int .i64 a0_3, .int .i64 a0_4]) (t := 48) ?hr ?_; (case hd => rfl); (case hg => rfl); (case hr => first | (go_simp; done) | (go_simp; rfl)); intro gb105 hg w13 hbox hb; have n0_ := m_ (below_step (bN HB.out) hb); have n1_ := m_ (hbox); have n2_ := m_ ((by rw [hg]; exact (below_size (bN HB.out)) : w.heap.size ≤ gb105)); have n3_ := m_ ((by rw [hg]; exact (below_size (bN HB.out)) : w.heap.size ≤ gb105)); clear HB; have HB := n0_; have BK105 := n1_; have GW105 := n2_; have GE105 := n3_; clear n0_ n1_ n2_ n3_; clear hb hbox hg; have hcz14_0 : w13.cell? ⟨gb105, 0, none⟩ = some (.bool a0_0) := bc BK105 0; have hcz14_1 : w13.cell? ⟨gb105, 1, none⟩ = some (.bool a0_1) := bc BK105 1; have hcz14_2 : w13.cell? ⟨gb105, 2, none⟩ = some (.bool a0_2) := bc BK105 2; have hcz14_3 : w13.cell? ⟨gb105, 3, none⟩ = some (.int .i64 a0_3) := bc BK105 3; have hcz14_4 : w13.cell? ⟨gb105, 4, none⟩ = some (.int .i64 a0_4) := bc BK105 4; have hfz14_0 := blk_frozen BK105.out 0; have hfz14_1 := blk_frozen BK105.out 1; have hfz14_2 := blk_frozen BK105.out 2; have hfz14_3 := blk_frozen BK105.out 3; have hfz14_4 := blk_frozen BK105.out 4) | ((with_reducible refine gate_callee (f := 21) rfl ?_); refine goesL_ (some 5) rfl rfl Tryd.func21 (by kernel_rfl) rfl #[.int .i64 a0_3, .int .i64 0, .int .i64 3] rfl gl_ ?_; (with_reducible refine (spec_l1In.calls a0_3 0 3 false _ A2.out).mono ?_); rintro e w' ⟨rfl, ⟨nd, rfl⟩⟩; refine ⟨_, rfl, ?_⟩))
  go_ret
  exact ⟨by first | rfl | (simp [errW_none, errW_some] <;> rfl) | (simp [*, errW_none, errW_some] <;> rfl), by repeat (first | (with_reducible first | exact HB.out | apply below_alloc | apply pw_below_drewN | apply below_drew1 | refine below_set ?_ GE105.out) | exact HB.out)⟩

/-! ### spec_l1Put: function 34 -/
def spec_l1Put.l0 : Nat → Int → Int → ByteArray → Int → Option (ByteArray)
 | 0, _, _, _, _ => none
 | k + 1, x0, x1, x5, x6 => if x6 < x1 then ((some (([(Int.tmod x0 256) % 256] : List Int) : List Int)).bind fun y108 => (if (strOfNums y108).size + x5.size ≤ 9223372036854775807 then (spec_l1Put.l0 k (wrap64 (Int.tdiv x0 256)) x1 ((strOfNums y108) ++ x5) (wrap64 (x6 + 1))) else (none))) else (some x5)
def spec_l1Put.f (k : Nat) (a0 : Int) (a1 : Int) : Option (ByteArray) := spec_l1Put.l0 k a0 a1 (⟨#[]⟩ : ByteArray) 0
theorem spec_l1Put.mono_l : ∀ k, (∀ y0 y1 y2 y3, LeO (spec_l1Put.l0 k y0 y1 y2 y3) (spec_l1Put.l0 (k + 1) y0 y1 y2 y3))
 | 0 => fun _ _ _ _ r h => by simp [spec_l1Put.l0] at h
 | k + 1 => by
  have ih0 := spec_l1Put.mono_l k
  ·intro y0 y1 y2 y3
   unfold spec_l1Put.l0
   repeat' first
   | (with_reducible exact ih0 _ _ _ _)
   | (with_reducible exact LeO.refl _)
   | (with_reducible exact LeO.none _)
   | (with_reducible refine LeO.ite ?_ ?_)
   | (with_reducible refine LeO.bind ?_ (fun _ => ?_))
   | exact ih0 _ _ _ _
   | exact LeO.none _
   | refine LeO.ite ?_ ?_
   | refine LeO.bind ?_ (fun _ => ?_)
theorem spec_l1Put.mono : ∀ a0 a1 k, LeO (spec_l1Put.f k a0 a1) (spec_l1Put.f (k + 1) a0 a1) := by
 intro a0 a1 k
 have ih0 := spec_l1Put.mono_l k
 unfold spec_l1Put.f
 repeat' first
   | (with_reducible exact ih0 _ _ _ _)
   | (with_reducible exact LeO.refl _)
   | (with_reducible exact LeO.none _)
   | (with_reducible refine LeO.ite ?_ ?_)
   | (with_reducible refine LeO.bind ?_ (fun _ => ?_))
   | exact ih0 _ _ _ _
   | exact LeO.none _
   | refine LeO.ite ?_ ?_
   | refine LeO.bind ?_ (fun _ => ?_)
set_option maxHeartbeats 8000000 in
set_option maxRecDepth 100000 in
theorem spec_l1Put.calls (k : Nat) (a0 : Int) (a1 : Int) (r : ByteArray) (w : World) (h : spec_l1Put.f k a0 a1 = some r) :
  Calls Tryd.prog 34 #[.int .i64 a0, .int .i64 a1] w fun e w' => e = .returned (.string r) ∧ Below w.heap.size w w' := by
 have HB := m_ (Below.refl w.heap.size w)
 have H : (spec_l1Put.l0 k a0 a1 (⟨#[]⟩ : ByteArray) 0) = some r := h
 clear h
 have H' := Aside0.mk H
 clear H
 go_enter Tryd.func34, Tryd.ntmps34
 go_wp2
 go_loopg [0, 5, 6] k (fun kq v0 v5 v6 w' => ∃ (x0_1 : Int) (x5_1 : ByteArray) (x6_1 : Int), v0 = .int .i64 x0_1 ∧ v5 = .string x5_1 ∧ v6 = .int .i64 x6_1 ∧ Aside0 (spec_l1Put.l0 kq x0_1 a1 x5_1 x6_1 = some r) ∧ Aside0 (kq ≤ k) ∧ Aside0 (Below w.heap.size w w'))
 case atStart => exact ⟨(a0), ((⟨#[]⟩ : ByteArray)), (0), (by first | rfl | (simp; done) | (simp [*]; done)), (by first | rfl | (simp; done) | (simp [*]; done)), (by first | rfl | (simp; done) | (simp [*]; done)), H', ⟨Nat.le_refl _⟩, ⟨by repeat (first | (with_reducible first | exact HB.out | apply below_alloc | apply pw_below_drewN | apply below_drew1) | exact HB.out)⟩⟩
 case round =>
  clear H'
  try clear p2
  obtain ⟨x0_1, x5_1, x6_1, rfl, rfl, rfl, HA, HK1, HB⟩ := hrel
  cases gk with
  | zero => exact absurd HA.out (by simp [spec_l1Put.l0])
  | succ k1 =>
   have H := HA.out
   clear HA
   simp only [spec_l1Put.l0] at H
   by_cases c3 : x6_1 < a1
   ·rw [if_pos c3] at H
    have c3b0 : decide (x6_1 < a1) = true := decide_eq_true c3
    clear c3
    obtain ⟨y108, hy108⟩ : ∃ y_ : List Int, y_ = (([(Int.tmod x0_1 256) % 256] : List Int)) := ⟨_, rfl⟩
    replace H : (if (strOfNums y108).size + x5_1.size ≤ 9223372036854775807 then (spec_l1Put.l0 k1 (wrap64 (Int.tdiv x0_1 256)) a1 ((strOfNums y108) ++ x5_1) (wrap64 (x6_1 + 1))) else (none)) = some r := by first | (rw [hy108]; with_reducible exact H) | (have H2_ := (Option.bind_some _ _).symm.trans H; rw [hy108]; with_reducible exact H2_) | (have H2_ := (Option.bind_some _ _).symm.trans H; with_reducible exact H2_) | with_reducible exact H | (rw [hy108]; exact H) | exact H
    have Ny108 := Aside0.mk hy108
    clear hy108
    by_cases c4 : (strOfNums y108).size + x5_1.size ≤ 9223372036854775807
    ·rw [if_pos c4] at H
     have c4b0 := eq_true c4
     have c4b1 : decide ((strOfNums y108).size + x5_1.size ≤ 9223372036854775807) = true := decide_eq_true c4
     try have c4b2 : (9223372036854775807 < (strOfNums y108).size + x5_1.size) = False := eq_false (Nat.not_lt.2 c4)
     have H' := Aside0.mk H
     clear H
     go_wp2_with (first | ((with_reducible refine gate_dst (N := 15) rfl ?_); refine Kd.R_lit (Kd.int .u8) _ 5 ?hg (N := 15) ?hd (xs := ([(Int.tmod x0_1 256) % 256] : List Int)) (inner := [.int .u8 ((Int.tmod x0_1 256) % 256)]) (ok := fun _ => True) (okp := fun _ => True) ?hr ?hp (fun _ hk => hk) trivial (Below.refl _ _) (Nat.le_refl _) (by simp) ?_; (case hd => rfl); (case hg => rfl); (case hr => first | (go_simp; done) | (go_simp; rfl)); (case hp => exact (Reps.one (show Kd.M (Kd.int .u8) _ _ _ ((Int.tmod x0_1 256) % 256) [.int .u8 ((Int.tmod x0_1 256) % 256)] from rfl) (Reps.none _ _))); intro v109 w5 ho6 hb hg_ hnew_; clear hg_ hnew_; (first | rw [← Ny108.out] at ho6 | (simp only [Int.reduceToNat] at ho6; rw [← Ny108.out] at ho6)); have n0_ := m_ (Kd.R_lower ho6 (below_size (bN HB.out))); have n1_ := m_ (below_step (bN HB.out) hb); clear HB; have HO110 := n0_; have HB := n1_; clear n0_ n1_; clear hb ho6; have hcv7 := own_string (P := Tryd.prog) Tryd.underlying61 Tryd.underlying5 Tryd.underlying9 (Kd.own_of_R HO110.out)))
     go_roundg k1
     case measure => have := HK1.out; omega
     case rel => exact ⟨(wrap64 (Int.tdiv x0_1 256)), ((strOfNums y108) ++ x5_1), (wrap64 (x6_1 + 1)), (by first | rfl | (simp; done) | (simp [*]; done)), (by first | rfl | (simp; done) | (simp [*]; done)), (by first | rfl | (simp; done) | (simp [*]; done)), H', ⟨by have := HK1.out; omega⟩, ⟨by repeat (first | (with_reducible first | exact HB.out | apply below_alloc | apply pw_below_drewN | apply below_drew1) | exact HB.out)⟩⟩
    ·rw [if_neg c4] at H
     exact absurd H (by simp)
   ·rw [if_neg c3] at H
    have c3b0 : decide (x6_1 < a1) = false := decide_eq_false c3
    clear c3
    obtain rfl := Option.some.inj H
    go_wp2
    go_ret
    exact ⟨by first | rfl | (simp [errW_none, errW_some] <;> rfl) | (simp [*, errW_none, errW_some] <;> rfl), by repeat (first | (with_reducible first | exact HB.out | apply below_alloc | apply pw_below_drewN | apply below_drew1) | exact HB.out)⟩

/-! ### spec_l3Flag: function 35 -/
def spec_l3Flag.f (a0 : Bool) : Option (Int) := if a0 = true then (some 1) else (some 0)
set_option maxHeartbeats 8000000 in
set_option maxRecDepth 100000 in
theorem spec_l3Flag.calls (a0 : Bool) (r : Int) (w : World) (h : spec_l3Flag.f a0 = some r) :
  Calls Tryd.prog 35 #[.bool a0] w fun e w' => e = .returned (.int .i64 r) ∧ Below w.heap.size w w' := by
 have HB := m_ (Below.refl w.heap.size w)
 have H : (if a0 = true then (some 1) else (some 0)) = some r := h
 clear h
 by_cases c2 : a0 = true
 ·subst c2
  have H1 : (some 1) = some r := by rw [if_pos rfl] at H; exact H
  clear H
  have H := H1
  clear H1
  obtain rfl := Option.some.inj H
  go_enter Tryd.func35, Tryd.ntmps35
  go_wp2
  go_ret
  exact ⟨by first | rfl | (simp [errW_none, errW_some] <;> rfl) | (simp [*, errW_none, errW_some] <;> rfl), by repeat (first | (with_reducible first | exact HB.out | apply below_alloc | apply pw_below_drewN | apply below_drew1) | exact HB.out)⟩
 ·replace c2 := Bool.eq_false_iff.mpr c2
  subst c2
  have H1 : (some 0) = some r := by rw [if_neg (show ¬ (false = true) by decide)] at H; exact H
  clear H
  have H := H1
  clear H1
  obtain rfl := Option.some.inj H
  go_enter Tryd.func35, Tryd.ntmps35
  go_wp2
  go_ret
  exact ⟨by first | rfl | (simp [errW_none, errW_some] <;> rfl) | (simp [*, errW_none, errW_some] <;> rfl), by repeat (first | (with_reducible first | exact HB.out | apply below_alloc | apply pw_below_drewN | apply below_drew1) | exact HB.out)⟩

/-! ### spec_FarmPut: function 29 -/
def spec_FarmPut.f (k : Nat) (a0_0 : Bool) (a0_1 : Bool) (a0_2 : Bool) (a0_3 : Int) (a0_4 : Int) : Option (ByteArray) := (spec_FarmOk.f a0_0 a0_1 a0_2 a0_3 a0_4).bind fun t112 => (if t112 = true then ((spec_l3Flag.f a0_0).bind fun t113 => ((spec_l3Flag.f a0_1).bind fun t114 => ((spec_l3Flag.f a0_2).bind fun t115 => ((spec_l1Put.f k (wrap64 ((wrap64 ((wrap64 ((wrap64 (t113 * 32)) + (wrap64 (t114 * 16)))) + (wrap64 (t115 * 8)))) + (wrap64 (a0_3 * 2)))) 1).bind fun t116 => (if 2 + t116.size ≤ 9223372036854775807 then ((spec_l1Put.f k a0_4 1).bind fun t117 => (if 2 + t116.size + t117.size ≤ 9223372036854775807 then (some (((⟨#[1, 0]⟩ : ByteArray) ++ t116) ++ t117)) else (none))) else (none)))))) else (some (⟨#[]⟩ : ByteArray)))
theorem spec_FarmPut.mono : ∀ a0 a1 a2 a3 a4 k, LeO (spec_FarmPut.f k a0 a1 a2 a3 a4) (spec_FarmPut.f (k + 1) a0 a1 a2 a3 a4) := by
 intro a0 a1 a2 a3 a4 k
 unfold spec_FarmPut.f
 repeat' first
   | (with_reducible exact spec_l1Put.mono _ _ _)
   | (with_reducible exact LeO.refl _)
   | (with_reducible exact LeO.none _)
   | (with_reducible refine LeO.ite ?_ ?_)
   | (with_reducible refine LeO.bind ?_ (fun _ => ?_))
   | exact spec_l1Put.mono _ _ _
   | exact LeO.none _
   | refine LeO.ite ?_ ?_
   | refine LeO.bind ?_ (fun _ => ?_)
def spec_FarmPut.T3 : Bool × List (List Nat × List Nat) := (true, [([], []), ([0], [0]), ([1], [1]), ([2], [2]), ([], []), ([4], [4]), ([5, 2], [5]), ([6], [6]), ([3, 7], [3, 7]), ([], []), ([9], [9]), ([10, 6], [10]), ([11], [11]), ([8, 12], [8, 12]), ([], []), ([14], [14]), ([15], [15]), ([13, 16], [13, 16]), ([17, 11], [17]), ([18], [18]), ([], []), ([20], [20]), ([21, 18], [21]), ([19, 22], [19, 22]), ([23, 22, 0, 1, 2, 3, 4, 5, 6, 7, 8, 9, 10, 11, 12, 13, 14, 15, 16, 17, 18, 19, 20, 21, 22, 23], [23])])
def spec_FarmPut.B3 : List Nat := [0, 1, 3, 7, 0, 16, 55, 119, 255, 0, 512, 1655, 3703, 8191, 0, 16384, 49152, 131071, 262143, 524287, 0, 1048576, 3670015, 8388607, 16777215]
theorem spec_FarmPut.tab3 : rtab .any (opsOf Tryd.f29 3) = spec_FarmPut.T3 := by kernel_rfl
theorem spec_FarmPut.bits3 : waitsOk spec_FarmPut.T3.2 spec_FarmPut.B3 = true := by kernel_rfl
set_option maxHeartbeats 8000000 in
set_option maxRecDepth 100000 in
theorem spec_FarmPut.calls (k : Nat) (a0_0 : Bool) (a0_1 : Bool) (a0_2 : Bool) (a0_3 : Int) (a0_4 : Int) (r : ByteArray) (w : World) (h : spec_FarmPut.f k a0_0 a0_1 a0_2 a0_3 a0_4 = some r) :
  Calls Tryd.prog 29 #[.agg #[.bool a0_0, .bool a0_1, .bool a0_2, .int .i64 a0_3, .int .i64 a0_4]] w fun e w' => e = .returned (.string r) ∧ Below w.heap.size w w' := by
 have hu48 := Tryd.underlying48
 have HB := m_ (Below.refl w.heap.size w)
 have H : ((spec_FarmOk.f a0_0 a0_1 a0_2 a0_3 a0_4).bind fun t112 => (if t112 = true then ((spec_l3Flag.f a0_0).bind fun t113 => ((spec_l3Flag.f a0_1).bind fun t114 => ((spec_l3Flag.f a0_2).bind fun t115 => ((spec_l1Put.f k (wrap64 ((wrap64 ((wrap64 ((wrap64 (t113 * 32)) + (wrap64 (t114 * 16)))) + (wrap64 (t115 * 8)))) + (wrap64 (a0_3 * 2)))) 1).bind fun t116 => (if 2 + t116.size ≤ 9223372036854775807 then ((spec_l1Put.f k a0_4 1).bind fun t117 => (if 2 + t116.size + t117.size ≤ 9223372036854775807 then (some (((⟨#[1, 0]⟩ : ByteArray) ++ t116) ++ t117)) else (none))) else (none)))))) else (some (⟨#[]⟩ : ByteArray)))) = some r := h
 clear h
 replace H := Option.bind_eq_some_iff.mp H
 obtain ⟨t112, A20, H⟩ := H
 replace H : (if t112 = true then ((spec_l3Flag.f a0_0).bind fun t113 => ((spec_l3Flag.f a0_1).bind fun t114 => ((spec_l3Flag.f a0_2).bind fun t115 => ((spec_l1Put.f k (wrap64 ((wrap64 ((wrap64 ((wrap64 (t113 * 32)) + (wrap64 (t114 * 16)))) + (wrap64 (t115 * 8)))) + (wrap64 (a0_3 * 2)))) 1).bind fun t116 => (if 2 + t116.size ≤ 9223372036854775807 then ((spec_l1Put.f k a0_4 1).bind fun t117 => (if 2 + t116.size + t117.size ≤ 9223372036854775807 then (some (((⟨#[1, 0]⟩ : ByteArray) ++ t116) ++ t117)) else (none))) else (none)))))) else (some (⟨#[]⟩ : ByteArray))) = some r := H
 have A2 := Aside0.mk A20
 clear A20
 by_cases c3 : t112 = true
 ·subst c3
  have H1 : ((spec_l3Flag.f a0_0).bind fun t113 => ((spec_l3Flag.f a0_1).bind fun t114 => ((spec_l3Flag.f a0_2).bind fun t115 => ((spec_l1Put.f k (wrap64 ((wrap64 ((wrap64 ((wrap64 (t113 * 32)) + (wrap64 (t114 * 16)))) + (wrap64 (t115 * 8)))) + (wrap64 (a0_3 * 2)))) 1).bind fun t116 => (if 2 + t116.size ≤ 9223372036854775807 then ((spec_l1Put.f k a0_4 1).bind fun t117 => (if 2 + t116.size + t117.size ≤ 9223372036854775807 then (some (((⟨#[1, 0]⟩ : ByteArray) ++ t116) ++ t117)) else (none))) else (none)))))) = some r := by rw [if_pos rfl] at H; exact H
  clear H
  have H := H1
  clear H1
  replace H := Option.bind_eq_some_iff.mp H
  obtain ⟨t113, A40, H⟩ := H
  replace H : ((spec_l3Flag.f a0_1).bind fun t114 => ((spec_l3Flag.f a0_2).bind fun t115 => ((spec_l1Put.f k (wrap64 ((wrap64 ((wrap64 ((wrap64 (t113 * 32)) + (wrap64 (t114 * 16)))) + (wrap64 (t115 * 8)))) + (wrap64 (a0_3 * 2)))) 1).bind fun t116 => (if 2 + t116.size ≤ 9223372036854775807 then ((spec_l1Put.f k a0_4 1).bind fun t117 => (if 2 + t116.size + t117.size ≤ 9223372036854775807 then (some (((⟨#[1, 0]⟩ : ByteArray) ++ t116) ++ t117)) else (none))) else (none))))) = some r := H
  have A4 := Aside0.mk A40
  clear A40
  replace H := Option.bind_eq_some_iff.mp H
  obtain ⟨t114, A50, H⟩ := H
  replace H : ((spec_l3Flag.f a0_2).bind fun t115 => ((spec_l1Put.f k (wrap64 ((wrap64 ((wrap64 ((wrap64 (t113 * 32)) + (wrap64 (t114 * 16)))) + (wrap64 (t115 * 8)))) + (wrap64 (a0_3 * 2)))) 1).bind fun t116 => (if 2 + t116.size ≤ 9223372036854775807 then ((spec_l1Put.f k a0_4 1).bind fun t117 => (if 2 + t116.size + t117.size ≤ 9223372036854775807 then (some (((⟨#[1, 0]⟩ : ByteArray) ++ t116) ++ t117)) else (none))) else (none)))) = some r := H
  have A5 := Aside0.mk A50
  clear A50
  replace H := Option.bind_eq_some_iff.mp H
  obtain ⟨t115, A60, H⟩ := H
  replace H : ((spec_l1Put.f k (wrap64 ((wrap64 ((wrap64 ((wrap64 (t113 * 32)) + (wrap64 (t114 * 16)))) + (wrap64 (t115 * 8)))) + (wrap64 (a0_3 * 2)))) 1).bind fun t116 => (if 2 + t116.size ≤ 9223372036854775807 then ((spec_l1Put.f k a0_4 1).bind fun t117 => (if 2 + t116.size + t117.size ≤ 9223372036854775807 then (some (((⟨#[1, 0]⟩ : ByteArray) ++ t116) ++ t117)) else (none))) else (none))) = some r := H
  have A6 := Aside0.mk A60
  clear A60
  replace H := Option.bind_eq_some_iff.mp H
  obtain ⟨t116, A70, H⟩ := H
  replace H : (if 2 + t116.size ≤ 9223372036854775807 then ((spec_l1Put.f k a0_4 1).bind fun t117 => (if 2 + t116.size + t117.size ≤ 9223372036854775807 then (some (((⟨#[1, 0]⟩ : ByteArray) ++ t116) ++ t117)) else (none))) else (none)) = some r := H
  have A7 := Aside0.mk A70
  clear A70
  by_cases c8 : 2 + t116.size ≤ 9223372036854775807
  ·rw [if_pos c8] at H
   have c8b0 := eq_true c8
   have c8b1 : decide (2 + t116.size ≤ 9223372036854775807) = true := decide_eq_true c8
   try have c8b2 : (9223372036854775807 < 2 + t116.size) = False := eq_false (Nat.not_lt.2 c8)
   replace H := Option.bind_eq_some_iff.mp H
   obtain ⟨t117, A90, H⟩ := H
   replace H : (if 2 + t116.size + t117.size ≤ 9223372036854775807 then (some (((⟨#[1, 0]⟩ : ByteArray) ++ t116) ++ t117)) else (none)) = some r := H
   have A9 := Aside0.mk A90
   clear A90
   by_cases c10 : 2 + t116.size + t117.size ≤ 9223372036854775807
   ·rw [if_pos c10] at H
    have c10b0 := eq_true c10
    have c10b1 : decide (2 + t116.size + t117.size ≤ 9223372036854775807) = true := decide_eq_true c10
    try have c10b2 : (9223372036854775807 < 2 + t116.size + t117.size) = False := eq_false (Nat.not_lt.2 c10)
    obtain rfl := Option.some.inj H
    go_enter Tryd.func29, Tryd.ntmps29
    try go_wp2_with (first | ((with_reducible refine gate_dst (N := 1) rfl ?_); refine box_event ?hg (N := 1) ?hd (cs := #[.bool a0_0, .bool a0_1, .bool a0_2, .int .i64 a0_3, .int .i64 a0_4]) (t := 48) ?hr ?_; (case hd => rfl); (case hg => rfl); (case hr => first | (go_simp; done) | (go_simp; rfl)); intro gb111 hg w11 hbox hb; have n0_ := m_ (below_step (bN HB.out) hb); have n1_ := m_ (hbox); have n2_ := m_ ((by rw [hg]; exact (below_size (bN HB.out)) : w.heap.size ≤ gb111)); have n3_ := m_ ((by rw [hg]; exact (below_size (bN HB.out)) : w.heap.size ≤ gb111)); clear HB; have HB := n0_; have BK111 := n1_; have GW111 := n2_; have GE111 := n3_; clear n0_ n1_ n2_ n3_; clear hb hbox hg; have hcz12_0 : w11.cell? ⟨gb111, 0, none⟩ = some (.bool a0_0) := bc BK111 0; have hcz12_1 : w11.cell? ⟨gb111, 1, none⟩ = some (.bool a0_1) := bc BK111 1; have hcz12_2 : w11.cell? ⟨gb111, 2, none⟩ = some (.bool a0_2) := bc BK111 2; have hcz12_3 : w11.cell? ⟨gb111, 3, none⟩ = some (.int .i64 a0_3) := bc BK111 3; have hcz12_4 : w11.cell? ⟨gb111, 4, none⟩ = some (.int .i64 a0_4) := bc BK111 4; have hfz12_0 := blk_frozen BK111.out 0; have hfz12_1 := blk_frozen BK111.out 1; have hfz12_2 := blk_frozen BK111.out 2; have hfz12_3 := blk_frozen BK111.out 3; have hfz12_4 := blk_frozen BK111.out 4) | ((with_reducible refine gate_callee (f := 33) rfl ?_); refine goesL_ (some 4) rfl rfl Tryd.func33 (by kernel_rfl) rfl #[.agg #[.bool a0_0, .bool a0_1, .bool a0_2, .int .i64 a0_3, .int .i64 a0_4]] rfl gl_ ?_; (with_reducible refine (spec_FarmOk.calls a0_0 a0_1 a0_2 a0_3 a0_4 true _ A2.out).mono ?_); rintro e w13 ⟨rfl, hb⟩; refine ⟨_, rfl, ?_⟩; have n0_ := m_ (blk_below (kN BK111.out) hb); have n1_ := m_ (below_step (bN HB.out) hb); clear BK111; clear HB; have BK111 := n0_; have HB := n1_; clear n0_ n1_; (try clear hb); (try clear hb2); (try clear hk); (try clear hi)))
    have n0_ := m_ (blk_drew BK111.out)
    have n1_ := m_ (below_drew1 HB.out)
    clear BK111
    clear HB
    have BK111 := n0_
    have HB := n1_
    clear n0_ n1_
    refine start_ (n := 25) (S := fun w' => w'.cell? ⟨gb111, 0, none⟩ = some (.bool a0_0) ∧ w'.cell? ⟨gb111, 1, none⟩ = some (.bool a0_1) ∧ w'.cell? ⟨gb111, 2, none⟩ = some (.bool a0_2) ∧ w'.cell? ⟨gb111, 3, none⟩ = some (.int .i64 a0_3) ∧ w'.cell? ⟨gb111, 4, none⟩ = some (.int .i64 a0_4)) (ds := []) #[false, false, false, false, false, false, false, false, false, false, false, false, false, false, false, false, false, false, false, false, false, false, false, false, false] (by kernel_rfl) rfl rfl ⟨bc BK111 0, bc BK111 1, bc BK111 2, bc BK111 3, bc BK111 4⟩ (fun hHeld => ?_); refine with_tabW spec_FarmPut.tab3 spec_FarmPut.bits3 (fun HT_ HW_ => ?_)
    generalize w13.drew = w14 at BK111 HB hHeld ⊢
    refine pu 0 6 HT_ (h := ?_)
    refine pu 4 10 HT_ (h := ?_)
    refine pu 9 15 HT_ (h := ?_)
    refine pu 14 20 HT_ (h := ?_)
    refine pu 20 26 HT_ (h := ?_)
    refine take_ (i := 1) (N := some 7) (v := ?_) (a' := ?_) #[true, true, false, false, true, false, false, false, false, true, false, false, false, false, true, false, false, false, false, false, true, false, false, false, false] rfl rfl (take_ofW HT_.out HW_.out (by kernel_rfl)) (fun _ _ _ h => h) (Or.inl ⟨by rfl, ?_⟩) hHeld ?_ ?_
    rotate_left
    ·rintro w' ⟨s0, s1, s2, s3, s4⟩
     go_simp
     with_reducible rfl
    rotate_left
    ·simp only [Act.put, List.setIfInBounds_toArray, List.set_cons_zero, List.set_cons_succ, i64_w, i32_w]
     rfl
    refine take_ (i := 5) (N := some 11) (v := ?_) (a' := ?_) #[true, true, false, false, true, true, false, false, false, true, false, false, false, false, true, false, false, false, false, false, true, false, false, false, false] rfl rfl (take_ofW HT_.out HW_.out (by kernel_rfl)) (fun _ _ _ h => h) (Or.inl ⟨by rfl, ?_⟩) hHeld ?_ ?_
    rotate_left
    ·rintro w' ⟨s0, s1, s2, s3, s4⟩
     go_simp
     with_reducible rfl
    rotate_left
    ·simp only [Act.put, List.setIfInBounds_toArray, List.set_cons_zero, List.set_cons_succ, i64_w, i32_w]
     rfl
    refine take_ (i := 10) (N := some 16) (v := ?_) (a' := ?_) #[true, true, false, false, true, true, false, false, false, true, true, false, false, false, true, false, false, false, false, false, true, false, false, false, false] rfl rfl (take_ofW HT_.out HW_.out (by kernel_rfl)) (fun _ _ _ h => h) (Or.inl ⟨by rfl, ?_⟩) hHeld ?_ ?_
    rotate_left
    ·rintro w' ⟨s0, s1, s2, s3, s4⟩
     go_simp
     with_reducible rfl
    rotate_left
    ·simp only [Act.put, List.setIfInBounds_toArray, List.set_cons_zero, List.set_cons_succ, i64_w, i32_w]
     rfl
    refine take_ (i := 15) (N := some 21) (v := ?_) (a' := ?_) #[true, true, false, false, true, true, false, false, false, true, true, false, false, false, true, true, false, false, false, false, true, false, false, false, false] rfl rfl (take_ofW HT_.out HW_.out (by kernel_rfl)) (fun _ _ _ h => h) (Or.inl ⟨by rfl, ?_⟩) hHeld ?_ ?_
    rotate_left
    ·rintro w' ⟨s0, s1, s2, s3, s4⟩
     go_simp
     with_reducible rfl
    rotate_left
    ·simp only [Act.put, List.setIfInBounds_toArray, List.set_cons_zero, List.set_cons_succ, i64_w, i32_w]
     rfl
    refine pu 16 22 HT_ (h := ?_)
    refine take_ (i := 21) (N := some 27) (v := ?_) (a' := ?_) #[true, true, false, false, true, true, false, false, false, true, true, false, false, false, true, true, true, false, false, false, true, true, false, false, false] rfl rfl (take_ofW HT_.out HW_.out (by kernel_rfl)) (fun _ _ _ h => h) (Or.inl ⟨by rfl, ?_⟩) hHeld ?_ ?_
    rotate_left
    ·rintro w' ⟨s0, s1, s2, s3, s4⟩
     go_simp
     with_reducible rfl
    rotate_left
    ·simp only [Act.put, List.setIfInBounds_toArray, List.set_cons_zero, List.set_cons_succ, i64_w, i32_w]
     rfl
    refine one_ (i := 2) (N := some 8) #[true, true, true, false, true, true, false, false, false, true, true, false, false, false, true, true, true, false, false, false, true, true, false, false, false] rfl rfl (one_of HT_.out (by kernel_rfl)) (by decide) (fun K hK => ?_)
    refine goes_ Tryd.func35 (by kernel_rfl) rfl #[.bool a0_0] (by rfl) rfl rfl gl_ ?_
    with_reducible refine (spec_l3Flag.calls a0_0 t113 _ A4.out).mono ?_
    rintro e w15 ⟨rfl, hb⟩
    refine ⟨_, rfl, ?_⟩
    have n0_ := m_ (blk_below (kN BK111.out) hb)
    have n1_ := m_ (below_step (bN HB.out) hb)
    clear BK111
    clear HB
    have BK111 := n0_
    have HB := n1_
    clear n0_ n1_
    (try clear hb)
    (try clear hb2)
    (try clear hk)
    (try clear hi)
    refine hK.out _ _ ⟨bc BK111 0, bc BK111 1, bc BK111 2, bc BK111 3, bc BK111 4⟩ (fun hHeld => ?_)
    clear hK K
    refine np (h := ?_)
    refine pu 3 9 HT_ (h := ?_)
    refine one_ (i := 6) (N := some 12) #[true, true, true, true, true, true, true, false, false, true, true, false, false, false, true, true, true, false, false, false, true, true, false, false, false] rfl rfl (one_of HT_.out (by kernel_rfl)) (by decide) (fun K hK => ?_)
    refine goes_ Tryd.func35 (by kernel_rfl) rfl #[.bool a0_1] (by rfl) rfl rfl gl_ ?_
    with_reducible refine (spec_l3Flag.calls a0_1 t114 _ A5.out).mono ?_
    rintro e w16 ⟨rfl, hb⟩
    refine ⟨_, rfl, ?_⟩
    have n0_ := m_ (blk_below (kN BK111.out) hb)
    have n1_ := m_ (below_step (bN HB.out) hb)
    clear BK111
    clear HB
    have BK111 := n0_
    have HB := n1_
    clear n0_ n1_
    (try clear hb)
    (try clear hb2)
    (try clear hk)
    (try clear hi)
    refine hK.out _ _ ⟨bc BK111 0, bc BK111 1, bc BK111 2, bc BK111 3, bc BK111 4⟩ (fun hHeld => ?_)
    clear hK K
    refine np (h := ?_)
    refine pu 7 13 HT_ (h := ?_)
    refine pu 8 14 HT_ (h := ?_)
    refine one_ (i := 11) (N := some 17) #[true, true, true, true, true, true, true, true, true, true, true, true, false, false, true, true, true, false, false, false, true, true, false, false, false] rfl rfl (one_of HT_.out (by kernel_rfl)) (by decide) (fun K hK => ?_)
    refine goes_ Tryd.func35 (by kernel_rfl) rfl #[.bool a0_2] (by rfl) rfl rfl gl_ ?_
    with_reducible refine (spec_l3Flag.calls a0_2 t115 _ A6.out).mono ?_
    rintro e w17 ⟨rfl, hb⟩
    refine ⟨_, rfl, ?_⟩
    have n0_ := m_ (blk_below (kN BK111.out) hb)
    have n1_ := m_ (below_step (bN HB.out) hb)
    clear BK111
    clear HB
    have BK111 := n0_
    have HB := n1_
    clear n0_ n1_
    (try clear hb)
    (try clear hb2)
    (try clear hk)
    (try clear hi)
    refine hK.out _ _ ⟨bc BK111 0, bc BK111 1, bc BK111 2, bc BK111 3, bc BK111 4⟩ (fun hHeld => ?_)
    clear hK K
    refine np (h := ?_)
    refine pu 12 18 HT_ (h := ?_)
    refine pu 13 19 HT_ (h := ?_)
    refine pu 17 23 HT_ (h := ?_)
    refine one_ (i := 18) (N := some 24) #[true, true, true, true, true, true, true, true, true, true, true, true, true, true, true, true, true, true, true, false, true, true, false, false, false] rfl rfl (one_of HT_.out (by kernel_rfl)) (by decide) (fun K hK => ?_)
    refine goes_ Tryd.func34 (by kernel_rfl) rfl #[.int .i64 (wrap64 ((wrap64 ((wrap64 ((wrap64 (t113 * 32)) + (wrap64 (t114 * 16)))) + (wrap64 (t115 * 8)))) + (wrap64 (a0_3 * 2)))), .int .i64 1] (by rfl) rfl rfl gl_ ?_
    with_reducible refine (spec_l1Put.calls k (wrap64 ((wrap64 ((wrap64 ((wrap64 (t113 * 32)) + (wrap64 (t114 * 16)))) + (wrap64 (t115 * 8)))) + (wrap64 (a0_3 * 2)))) 1 t116 _ A7.out).mono ?_
    rintro e w18 ⟨rfl, hb⟩
    refine ⟨_, rfl, ?_⟩
    have n0_ := m_ (blk_below (kN BK111.out) hb)
    have n1_ := m_ (below_step (bN HB.out) hb)
    clear BK111
    clear HB
    have BK111 := n0_
    have HB := n1_
    clear n0_ n1_
    (try clear hb)
    (try clear hb2)
    (try clear hk)
    (try clear hi)
    refine hK.out _ _ ⟨bc BK111 0, bc BK111 1, bc BK111 2, bc BK111 3, bc BK111 4⟩ (fun hHeld => ?_)
    clear hK K
    refine np (h := ?_)
    refine pu 19 25 HT_ (h := ?_)
    refine one_ (i := 22) (N := some 28) #[true, true, true, true, true, true, true, true, true, true, true, true, true, true, true, true, true, true, true, true, true, true, true, false, false] rfl rfl (one_of HT_.out (by kernel_rfl)) (by decide) (fun K hK => ?_)
    refine goes_ Tryd.func34 (by kernel_rfl) rfl #[.int .i64 a0_4, .int .i64 1] (by rfl) rfl rfl gl_ ?_
    with_reducible refine (spec_l1Put.calls k a0_4 1 t117 _ A9.out).mono ?_
    rintro e w19 ⟨rfl, hb⟩
    refine ⟨_, rfl, ?_⟩
    have n0_ := m_ (blk_below (kN BK111.out) hb)
    have n1_ := m_ (below_step (bN HB.out) hb)
    clear BK111
    clear HB
    have BK111 := n0_
    have HB := n1_
    clear n0_ n1_
    (try clear hb)
    (try clear hb2)
    (try clear hk)
    (try clear hi)
    refine hK.out _ _ ⟨bc BK111 0, bc BK111 1, bc BK111 2, bc BK111 3, bc BK111 4⟩ (fun hHeld => ?_)
    clear hK K
    refine np (h := ?_)
    refine pu 23 29 HT_ (h := ?_)
    refine pu 24 2 HT_ (h := ?_)
    refine done_ (done_of HT_.out (by kernel_rfl)) ?_
    try go_wp2
    go_ret
    exact ⟨by first | rfl | (simp [errW_none, errW_some] <;> rfl) | (simp [*, errW_none, errW_some] <;> rfl), by repeat (first | (with_reducible first | exact HB.out | apply below_alloc | apply pw_below_drewN | apply below_drew1 | refine below_set ?_ GE111.out) | exact HB.out)⟩
   ·rw [if_neg c10] at H
    exact absurd H (by simp)
  ·rw [if_neg c8] at H
   exact absurd H (by simp)
 ·replace c3 := Bool.eq_false_iff.mpr c3
  subst c3
  have H1 : (some (⟨#[]⟩ : ByteArray)) = some r := by rw [if_neg (show ¬ (false = true) by decide)] at H; exact H
  clear H
  have H := H1
  clear H1
  obtain rfl := Option.some.inj H
  go_enter Tryd.func29, Tryd.ntmps29
  go_wp2_with (first | ((with_reducible refine gate_dst (N := 1) rfl ?_); refine box_event ?hg (N := 1) ?hd (cs := #[.bool a0_0, .bool a0_1, .bool a0_2, .int .i64 a0_3, .int .i64 a0_4]) (t := 48) ?hr ?_; (case hd => rfl); (case hg => rfl); (case hr => first | (go_simp; done) | (go_simp; rfl)); intro gb111 hg w20 hbox hb; have n0_ := m_ (below_step (bN HB.out) hb); have n1_ := m_ (hbox); have n2_ := m_ ((by rw [hg]; exact (below_size (bN HB.out)) : w.heap.size ≤ gb111)); have n3_ := m_ ((by rw [hg]; exact (below_size (bN HB.out)) : w.heap.size ≤ gb111)); clear HB; have HB := n0_; have BK111 := n1_; have GW111 := n2_; have GE111 := n3_; clear n0_ n1_ n2_ n3_; clear hb hbox hg; have hcz21_0 : w20.cell? ⟨gb111, 0, none⟩ = some (.bool a0_0) := bc BK111 0; have hcz21_1 : w20.cell? ⟨gb111, 1, none⟩ = some (.bool a0_1) := bc BK111 1; have hcz21_2 : w20.cell? ⟨gb111, 2, none⟩ = some (.bool a0_2) := bc BK111 2; have hcz21_3 : w20.cell? ⟨gb111, 3, none⟩ = some (.int .i64 a0_3) := bc BK111 3; have hcz21_4 : w20.cell? ⟨gb111, 4, none⟩ = some (.int .i64 a0_4) := bc BK111 4; have hfz21_0 := blk_frozen BK111.out 0; have hfz21_1 := blk_frozen BK111.out 1; have hfz21_2 := blk_frozen BK111.out 2; have hfz21_3 := blk_frozen BK111.out 3; have hfz21_4 := blk_frozen BK111.out 4) | ((with_reducible refine gate_callee (f := 33) rfl ?_); refine goesL_ (some 4) rfl rfl Tryd.func33 (by kernel_rfl) rfl #[.agg #[.bool a0_0, .bool a0_1, .bool a0_2, .int .i64 a0_3, .int .i64 a0_4]] rfl gl_ ?_; (with_reducible refine (spec_FarmOk.calls a0_0 a0_1 a0_2 a0_3 a0_4 false _ A2.out).mono ?_); rintro e w22 ⟨rfl, hb⟩; refine ⟨_, rfl, ?_⟩; have n0_ := m_ (blk_below (kN BK111.out) hb); have n1_ := m_ (below_step (bN HB.out) hb); clear BK111; clear HB; have BK111 := n0_; have HB := n1_; clear n0_ n1_; (try clear hb); (try clear hb2); (try clear hk); (try clear hi)))
  go_ret
  exact ⟨by first | rfl | (simp [errW_none, errW_some] <;> rfl) | (simp [*, errW_none, errW_some] <;> rfl), by repeat (first | (with_reducible first | exact HB.out | apply below_alloc | apply pw_below_drewN | apply below_drew1 | refine below_set ?_ GE111.out) | exact HB.out)⟩

/-! ### spec_FarmGet: function 22 -/
def spec_FarmGet.f (k : Nat) (a0 : ByteArray) : Option (Bool × Bool × Bool × Int × Int × Bool) := if (a0.size : Int) = 4 then (if 2 < (a0.size : Int) then (if 3 < (a0.size : Int) then ((spec_FarmPut.f k ((Int.tmod (wrap64 (Int.tdiv (wrap64 (bt a0 2)) 32)) 2) == 1) ((Int.tmod (wrap64 (Int.tdiv (wrap64 (bt a0 2)) 16)) 2) == 1) ((Int.tmod (wrap64 (Int.tdiv (wrap64 (bt a0 2)) 8)) 2) == 1) (Int.tmod (wrap64 (Int.tdiv (wrap64 (bt a0 2)) 2)) 4) (wrap64 (bt a0 3))).bind fun t120 => (if t120.toList = a0.toList then (some (((Int.tmod (wrap64 (Int.tdiv (wrap64 (bt a0 2)) 32)) 2) == 1), ((Int.tmod (wrap64 (Int.tdiv (wrap64 (bt a0 2)) 16)) 2) == 1), ((Int.tmod (wrap64 (Int.tdiv (wrap64 (bt a0 2)) 8)) 2) == 1), Int.tmod (wrap64 (Int.tdiv (wrap64 (bt a0 2)) 2)) 4, wrap64 (bt a0 3), true)) else (some (false, false, false, 0, 0, false)))) else (none)) else (none)) else (some (false, false, false, 0, 0, false))
theorem spec_FarmGet.mono : ∀ a0 k, LeO (spec_FarmGet.f k a0) (spec_FarmGet.f (k + 1) a0) := by
 intro a0 k
 unfold spec_FarmGet.f
 repeat' first
   | (with_reducible exact spec_FarmPut.mono _ _ _ _ _ _)
   | (with_reducible exact LeO.refl _)
   | (with_reducible exact LeO.none _)
   | (with_reducible refine LeO.ite ?_ ?_)
   | (with_reducible refine LeO.bind ?_ (fun _ => ?_))
   | exact spec_FarmPut.mono _ _ _ _ _ _
   | exact LeO.none _
   | refine LeO.ite ?_ ?_
   | refine LeO.bind ?_ (fun _ => ?_)
set_option maxHeartbeats 8000000 in
set_option maxRecDepth 100000 in
theorem spec_FarmGet.calls (k : Nat) (a0 : ByteArray) (r1 : Bool) (r2 : Bool) (r3 : Bool) (r4 : Int) (r5 : Int) (r6 : Bool) (w : World) (h : spec_FarmGet.f k a0 = some (r1, r2, r3, r4, r5, r6)) :
  Calls Tryd.prog 22 #[.string a0] w fun e w' => e = .returned (.tuple #[.agg #[.bool r1, .bool r2, .bool r3, .int .i64 r4, .int .i64 r5], .bool r6]) ∧ Below w.heap.size w w' := by
 have hu48 := Tryd.underlying48
 have HB := m_ (Below.refl w.heap.size w)
 have H : (if (a0.size : Int) = 4 then (if 2 < (a0.size : Int) then (if 3 < (a0.size : Int) then ((spec_FarmPut.f k ((Int.tmod (wrap64 (Int.tdiv (wrap64 (bt a0 2)) 32)) 2) == 1) ((Int.tmod (wrap64 (Int.tdiv (wrap64 (bt a0 2)) 16)) 2) == 1) ((Int.tmod (wrap64 (Int.tdiv (wrap64 (bt a0 2)) 8)) 2) == 1) (Int.tmod (wrap64 (Int.tdiv (wrap64 (bt a0 2)) 2)) 4) (wrap64 (bt a0 3))).bind fun t120 => (if t120.toList = a0.toList then (some (((Int.tmod (wrap64 (Int.tdiv (wrap64 (bt a0 2)) 32)) 2) == 1), ((Int.tmod (wrap64 (Int.tdiv (wrap64 (bt a0 2)) 16)) 2) == 1), ((Int.tmod (wrap64 (Int.tdiv (wrap64 (bt a0 2)) 8)) 2) == 1), Int.tmod (wrap64 (Int.tdiv (wrap64 (bt a0 2)) 2)) 4, wrap64 (bt a0 3), true)) else (some (false, false, false, 0, 0, false)))) else (none)) else (none)) else (some (false, false, false, 0, 0, false))) = some (r1, r2, r3, r4, r5, r6) := h
 clear h
 by_cases c2 : (a0.size : Int) = 4
 ·rw [if_pos c2] at H
  have c2b0 : ((a0.size : Int) == 4) = true := beq_iff_eq.mpr c2
  have c2b1 : ((a0.size : Int) != 4) = false := bne_eq_false_iff_eq.mpr c2
  clear c2
  by_cases c3 : 2 < (a0.size : Int)
  ·rw [if_pos c3] at H
   have c3b0 : decide (2 < (a0.size : Int)) = true := decide_eq_true c3
   have c3b1 : decide (2 < a0.size) = true := decide_eq_true (by omega)
   clear c3
   by_cases c5 : 3 < (a0.size : Int)
   ·rw [if_pos c5] at H
    have c5b0 : decide (3 < (a0.size : Int)) = true := decide_eq_true c5
    have c5b1 : decide (3 < a0.size) = true := decide_eq_true (by omega)
    clear c5
    replace H := Option.bind_eq_some_iff.mp H
    obtain ⟨t120, A70, H⟩ := H
    replace H : (if t120.toList = a0.toList then (some (((Int.tmod (wrap64 (Int.tdiv (wrap64 (bt a0 2)) 32)) 2) == 1), ((Int.tmod (wrap64 (Int.tdiv (wrap64 (bt a0 2)) 16)) 2) == 1), ((Int.tmod (wrap64 (Int.tdiv (wrap64 (bt a0 2)) 8)) 2) == 1), Int.tmod (wrap64 (Int.tdiv (wrap64 (bt a0 2)) 2)) 4, wrap64 (bt a0 3), true)) else (some (false, false, false, 0, 0, false))) = some (r1, r2, r3, r4, r5, r6) := H
    have A7 := Aside0.mk A70
    clear A70
    by_cases c8 : t120.toList = a0.toList
    ·rw [if_pos c8] at H
     have c8b0 : (t120.toList == a0.toList) = true := beq_iff_eq.mpr c8
     have c8b1 : (t120.toList != a0.toList) = false := bne_eq_false_iff_eq.mpr c8
     clear c8
     simp only [Option.some.injEq, Prod.mk.injEq] at H
     obtain ⟨rfl, rfl, rfl, rfl, rfl, rfl⟩ := H
     go_enter Tryd.func22, Tryd.ntmps22
     go_wp2_with (first | ((with_reducible refine gate_dst (N := 2) rfl ?_); refine box_event ?hg (N := 2) ?hd (cs := #[.bool false, .bool false, .bool false, .int .i64 0, .int .i64 0]) (t := 48) ?hr ?_; (case hd => rfl); (case hg => rfl); (case hr => first | (go_simp; done) | (go_simp; rfl)); intro gb118 hg w9 hbox hb; have n0_ := m_ (below_step (bN HB.out) hb); have n1_ := m_ (hbox); have n2_ := m_ ((by rw [hg]; exact (below_size (bN HB.out)) : w.heap.size ≤ gb118)); have n3_ := m_ ((by rw [hg]; exact (below_size (bN HB.out)) : w.heap.size ≤ gb118)); clear HB; have HB := n0_; have BK118 := n1_; have GW118 := n2_; have GE118 := n3_; clear n0_ n1_ n2_ n3_; clear hb hbox hg; have p4 : 0 ≤ (2 : Int) := (by omega); have q4 : 2 < a0.size := (by have : (2 : Int) < (a0.size : Int) := of_decide_eq_true (by first | (with_reducible assumption) | assumption); omega); have hx4 : ∀ h : 2 < a0.size, ((a0[2]'h).toNat : Int) = bt a0 2 := bt_at a0 2; clear p4; have qi4 : (2 < (a0.size : Int)) = True := eq_true (of_decide_eq_true (by first | (with_reducible assumption) | assumption)); replace q4 := eq_true q4; have p6 : 0 ≤ (3 : Int) := (by omega); have q6 : 3 < a0.size := (by have : (3 : Int) < (a0.size : Int) := of_decide_eq_true (by first | (with_reducible assumption) | assumption); omega); have hx6 : ∀ h : 3 < a0.size, ((a0[3]'h).toNat : Int) = bt a0 3 := bt_at a0 3; clear p6; have qi6 : (3 < (a0.size : Int)) = True := eq_true (of_decide_eq_true (by first | (with_reducible assumption) | assumption)); replace q6 := eq_true q6) | ((with_reducible refine gate_dst (N := 5) rfl ?_); refine box_event ?hg (N := 5) ?hd (cs := #[.bool false, .bool false, .bool false, .int .i64 0, .int .i64 0]) (t := 48) ?hr ?_; (case hd => rfl); (case hg => rfl); (case hr => first | (go_simp; done) | (go_simp; rfl)); intro gb119 hg w10 hbox hb; have n0_ := m_ (blk_below (kN BK118.out) hb); have n1_ := m_ (below_step (bN HB.out) hb); have n2_ := m_ (hbox); have n3_ := m_ ((by rw [hg]; exact (below_size (bN HB.out)) : w.heap.size ≤ gb119)); have n4_ := m_ ((by rw [hg]; exact (below_size (bN HB.out)) : w.heap.size ≤ gb119)); have n5_ := m_ (nL hg BK118.out); have n6_ := m_ (nG hg BK118.out); clear BK118; clear HB; have BK118 := n0_; have HB := n1_; have BK119 := n2_; have GW119 := n3_; have GE119 := n4_; have NB118_119 := n5_; have NB119_118 := n6_; clear n0_ n1_ n2_ n3_ n4_ n5_ n6_; clear hb hbox hg; have hnb11 := NB119_118.out; have hnc11 := NB118_119.out; have hcz12_0 : w10.cell? ⟨gb119, 0, none⟩ = some (.bool false) := bc BK119 0; have hcz12_1 : w10.cell? ⟨gb119, 1, none⟩ = some (.bool false) := bc BK119 1; have hcz12_2 : w10.cell? ⟨gb119, 2, none⟩ = some (.bool false) := bc BK119 2; have hcz12_3 : w10.cell? ⟨gb119, 3, none⟩ = some (.int .i64 0) := bc BK119 3; have hcz12_4 : w10.cell? ⟨gb119, 4, none⟩ = some (.int .i64 0) := bc BK119 4; have hfz12_0 := blk_frozen BK119.out 0; have hfz12_1 := blk_frozen BK119.out 1; have hfz12_2 := blk_frozen BK119.out 2; have hfz12_3 := blk_frozen BK119.out 3; have hfz12_4 := blk_frozen BK119.out 4) | ((with_reducible refine gate_callee (f := 29) rfl ?_); refine goesL_ (some 33) rfl rfl Tryd.func29 (by kernel_rfl) rfl #[.agg #[.bool ((Int.tmod (wrap64 (Int.tdiv (wrap64 (bt a0 2)) 32)) 2) == 1), .bool ((Int.tmod (wrap64 (Int.tdiv (wrap64 (bt a0 2)) 16)) 2) == 1), .bool ((Int.tmod (wrap64 (Int.tdiv (wrap64 (bt a0 2)) 8)) 2) == 1), .int .i64 (Int.tmod (wrap64 (Int.tdiv (wrap64 (bt a0 2)) 2)) 4), .int .i64 (wrap64 (bt a0 3))]] rfl gl_ ?_; (with_reducible refine (spec_FarmPut.calls k ((Int.tmod (wrap64 (Int.tdiv (wrap64 (bt a0 2)) 32)) 2) == 1) ((Int.tmod (wrap64 (Int.tdiv (wrap64 (bt a0 2)) 16)) 2) == 1) ((Int.tmod (wrap64 (Int.tdiv (wrap64 (bt a0 2)) 8)) 2) == 1) (Int.tmod (wrap64 (Int.tdiv (wrap64 (bt a0 2)) 2)) 4) (wrap64 (bt a0 3)) t120 _ A7.out).mono ?_); rintro e w13 ⟨rfl, hb⟩; refine ⟨_, rfl, ?_⟩; have n0_ := m_ (blk_below (g := gb118) (o := .cells #[.bool false, .bool false, .bool false, .int .i64 0, .int .i64 0] 48 (0, 0)) (kF BK118.out NB118_119.out) hb); have n1_ := m_ (blk_below (g := gb119) (o := .cells #[.bool ((Int.tmod (wrap64 (Int.tdiv (wrap64 (bt a0 2)) 32)) 2) == 1), .bool ((Int.tmod (wrap64 (Int.tdiv (wrap64 (bt a0 2)) 16)) 2) == 1), .bool ((Int.tmod (wrap64 (Int.tdiv (wrap64 (bt a0 2)) 8)) 2) == 1), .int .i64 (Int.tmod (wrap64 (Int.tdiv (wrap64 (bt a0 2)) 2)) 4), .int .i64 (wrap64 (bt a0 3))] 48 (0, 0)) (by (with_reducible repeat (first | refine blk_drewN ?_ _ | refine blk_drew ?_ | refine blk_alloc ?_ _)); refine blk_put (cs := #[.bool ((Int.tmod (wrap64 (Int.tdiv (wrap64 (bt a0 2)) 32)) 2) == 1), .bool ((Int.tmod (wrap64 (Int.tdiv (wrap64 (bt a0 2)) 16)) 2) == 1), .bool ((Int.tmod (wrap64 (Int.tdiv (wrap64 (bt a0 2)) 8)) 2) == 1), .int .i64 (Int.tmod (wrap64 (Int.tdiv (wrap64 (bt a0 2)) 2)) 4), .int .i64 0]) ?_ 4 _ rfl; (with_reducible repeat (first | refine blk_drewN ?_ _ | refine blk_drew ?_ | refine blk_alloc ?_ _)); refine blk_put (cs := #[.bool ((Int.tmod (wrap64 (Int.tdiv (wrap64 (bt a0 2)) 32)) 2) == 1), .bool ((Int.tmod (wrap64 (Int.tdiv (wrap64 (bt a0 2)) 16)) 2) == 1), .bool ((Int.tmod (wrap64 (Int.tdiv (wrap64 (bt a0 2)) 8)) 2) == 1), .int .i64 0, .int .i64 0]) ?_ 3 _ rfl; (with_reducible repeat (first | refine blk_drewN ?_ _ | refine blk_drew ?_ | refine blk_alloc ?_ _)); refine blk_put (cs := #[.bool ((Int.tmod (wrap64 (Int.tdiv (wrap64 (bt a0 2)) 32)) 2) == 1), .bool ((Int.tmod (wrap64 (Int.tdiv (wrap64 (bt a0 2)) 16)) 2) == 1), .bool false, .int .i64 0, .int .i64 0]) ?_ 2 _ rfl; (with_reducible repeat (first | refine blk_drewN ?_ _ | refine blk_drew ?_ | refine blk_alloc ?_ _)); refine blk_put (cs := #[.bool ((Int.tmod (wrap64 (Int.tdiv (wrap64 (bt a0 2)) 32)) 2) == 1), .bool false, .bool false, .int .i64 0, .int .i64 0]) ?_ 1 _ rfl; (with_reducible repeat (first | refine blk_drewN ?_ _ | refine blk_drew ?_ | refine blk_alloc ?_ _)); refine blk_put (cs := #[.bool false, .bool false, .bool false, .int .i64 0, .int .i64 0]) ?_ 0 _ rfl; (with_reducible repeat (first | refine blk_drewN ?_ _ | refine blk_drew ?_ | refine blk_alloc ?_ _)); exact BK119.out) hb); have n2_ := m_ (below_step (bN HB.out) hb); clear BK118; clear BK119; clear HB; have BK118 := n0_; have BK119 := n1_; have HB := n2_; clear n0_ n1_ n2_; (try clear hb); (try clear hb2); (try clear hk); (try clear hi); have hcz14_0 : w13.cell? ⟨gb119, 0, none⟩ = some (.bool ((Int.tmod (wrap64 (Int.tdiv (wrap64 (bt a0 2)) 32)) 2) == 1)) := bc BK119 0; have hcz14_1 : w13.cell? ⟨gb119, 1, none⟩ = some (.bool ((Int.tmod (wrap64 (Int.tdiv (wrap64 (bt a0 2)) 16)) 2) == 1)) := bc BK119 1; have hcz14_2 : w13.cell? ⟨gb119, 2, none⟩ = some (.bool ((Int.tmod (wrap64 (Int.tdiv (wrap64 (bt a0 2)) 8)) 2) == 1)) := bc BK119 2; have hcz14_3 : w13.cell? ⟨gb119, 3, none⟩ = some (.int .i64 (Int.tmod (wrap64 (Int.tdiv (wrap64 (bt a0 2)) 2)) 4)) := bc BK119 3; have hcz14_4 : w13.cell? ⟨gb119, 4, none⟩ = some (.int .i64 (wrap64 (bt a0 3))) := bc BK119 4; have hfz14_0 := blk_frozen BK119.out 0; have hfz14_1 := blk_frozen BK119.out 1; have hfz14_2 := blk_frozen BK119.out 2; have hfz14_3 := blk_frozen BK119.out 3; have hfz14_4 := blk_frozen BK119.out 4; have hcz15_0 : w13.cell? ⟨gb118, 0, none⟩ = some (.bool false) := bc BK118 0; have hcz15_1 : w13.cell? ⟨gb118, 1, none⟩ = some (.bool false) := bc BK118 1; have hcz15_2 : w13.cell? ⟨gb118, 2, none⟩ = some (.bool false) := bc BK118 2; have hcz15_3 : w13.cell? ⟨gb118, 3, none⟩ = some (.int .i64 0) := bc BK118 3; have hcz15_4 : w13.cell? ⟨gb118, 4, none⟩ = some (.int .i64 0) := bc BK118 4; have hfz15_0 := blk_frozen BK118.out 0; have hfz15_1 := blk_frozen BK118.out 1; have hfz15_2 := blk_frozen BK118.out 2; have hfz15_3 := blk_frozen BK118.out 3; have hfz15_4 := blk_frozen BK118.out 4))
     refine bodyPost_ret (results_ct rfl _ _ gb118 48 #[.bool ((Int.tmod (wrap64 (Int.tdiv (wrap64 (bt a0 2)) 32)) 2) == 1), .bool ((Int.tmod (wrap64 (Int.tdiv (wrap64 (bt a0 2)) 16)) 2) == 1), .bool ((Int.tmod (wrap64 (Int.tdiv (wrap64 (bt a0 2)) 8)) 2) == 1), .int .i64 (Int.tmod (wrap64 (Int.tdiv (wrap64 (bt a0 2)) 2)) 4), .int .i64 (wrap64 (bt a0 3))] (0, 0) _ rfl (by (with_reducible repeat (first | refine blk_drewN ?_ _ | refine blk_drew ?_ | refine blk_alloc ?_ _)); refine blk_put (cs := #[.bool ((Int.tmod (wrap64 (Int.tdiv (wrap64 (bt a0 2)) 32)) 2) == 1), .bool ((Int.tmod (wrap64 (Int.tdiv (wrap64 (bt a0 2)) 16)) 2) == 1), .bool ((Int.tmod (wrap64 (Int.tdiv (wrap64 (bt a0 2)) 8)) 2) == 1), .int .i64 (Int.tmod (wrap64 (Int.tdiv (wrap64 (bt a0 2)) 2)) 4), .int .i64 0]) ?_ 4 _ rfl; (with_reducible repeat (first | refine blk_drewN ?_ _ | refine blk_drew ?_ | refine blk_alloc ?_ _)); refine blk_put (cs := #[.bool ((Int.tmod (wrap64 (Int.tdiv (wrap64 (bt a0 2)) 32)) 2) == 1), .bool ((Int.tmod (wrap64 (Int.tdiv (wrap64 (bt a0 2)) 16)) 2) == 1), .bool ((Int.tmod (wrap64 (Int.tdiv (wrap64 (bt a0 2)) 8)) 2) == 1), .int .i64 0, .int .i64 0]) ?_ 3 _ rfl; (with_reducible repeat (first | refine blk_drewN ?_ _ | refine blk_drew ?_ | refine blk_alloc ?_ _)); refine blk_put (cs := #[.bool ((Int.tmod (wrap64 (Int.tdiv (wrap64 (bt a0 2)) 32)) 2) == 1), .bool ((Int.tmod (wrap64 (Int.tdiv (wrap64 (bt a0 2)) 16)) 2) == 1), .bool false, .int .i64 0, .int .i64 0]) ?_ 2 _ rfl; (with_reducible repeat (first | refine blk_drewN ?_ _ | refine blk_drew ?_ | refine blk_alloc ?_ _)); refine blk_put (cs := #[.bool ((Int.tmod (wrap64 (Int.tdiv (wrap64 (bt a0 2)) 32)) 2) == 1), .bool false, .bool false, .int .i64 0, .int .i64 0]) ?_ 1 _ rfl; (with_reducible repeat (first | refine blk_drewN ?_ _ | refine blk_drew ?_ | refine blk_alloc ?_ _)); refine blk_put (cs := #[.bool false, .bool false, .bool false, .int .i64 0, .int .i64 0]) ?_ 0 _ rfl; (with_reducible repeat (first | refine blk_drewN ?_ _ | refine blk_drew ?_ | refine blk_alloc ?_ _)); exact BK118.out) Tryd.underlying48 rfl (by kernel_rfl)) rfl ?_
     exact ⟨by first | rfl | (simp [errW_none, errW_some] <;> rfl) | (simp [*, errW_none, errW_some] <;> rfl), by repeat (first | (with_reducible first | exact HB.out | apply below_alloc | apply pw_below_drewN | apply below_drew1 | refine below_set ?_ GE118.out | refine below_set ?_ GE119.out) | exact HB.out)⟩
    ·rw [if_neg c8] at H
     have c8b0 : (t120.toList == a0.toList) = false := beq_eq_false_iff_ne.mpr c8
     have c8b1 : (t120.toList != a0.toList) = true := bne_iff_ne.mpr c8
     simp only [Option.some.injEq, Prod.mk.injEq] at H
     obtain ⟨rfl, rfl, rfl, rfl, rfl, rfl⟩ := H
     go_enter Tryd.func22, Tryd.ntmps22
     go_wp2_with (first | ((with_reducible refine gate_dst (N := 2) rfl ?_); refine box_event ?hg (N := 2) ?hd (cs := #[.bool false, .bool false, .bool false, .int .i64 0, .int .i64 0]) (t := 48) ?hr ?_; (case hd => rfl); (case hg => rfl); (case hr => first | (go_simp; done) | (go_simp; rfl)); intro gb118 hg w16 hbox hb; have n0_ := m_ (below_step (bN HB.out) hb); have n1_ := m_ (hbox); have n2_ := m_ ((by rw [hg]; exact (below_size (bN HB.out)) : w.heap.size ≤ gb118)); have n3_ := m_ ((by rw [hg]; exact (below_size (bN HB.out)) : w.heap.size ≤ gb118)); clear HB; have HB := n0_; have BK118 := n1_; have GW118 := n2_; have GE118 := n3_; clear n0_ n1_ n2_ n3_; clear hb hbox hg; have p4 : 0 ≤ (2 : Int) := (by omega); have q4 : 2 < a0.size := (by have : (2 : Int) < (a0.size : Int) := of_decide_eq_true (by first | (with_reducible assumption) | assumption); omega); have hx4 : ∀ h : 2 < a0.size, ((a0[2]'h).toNat : Int) = bt a0 2 := bt_at a0 2; clear p4; have qi4 : (2 < (a0.size : Int)) = True := eq_true (of_decide_eq_true (by first | (with_reducible assumption) | assumption)); replace q4 := eq_true q4; have p6 : 0 ≤ (3 : Int) := (by omega); have q6 : 3 < a0.size := (by have : (3 : Int) < (a0.size : Int) := of_decide_eq_true (by first | (with_reducible assumption) | assumption); omega); have hx6 : ∀ h : 3 < a0.size, ((a0[3]'h).toNat : Int) = bt a0 3 := bt_at a0 3; clear p6; have qi6 : (3 < (a0.size : Int)) = True := eq_true (of_decide_eq_true (by first | (with_reducible assumption) | assumption)); replace q6 := eq_true q6) | ((with_reducible refine gate_dst (N := 5) rfl ?_); refine box_event ?hg (N := 5) ?hd (cs := #[.bool false, .bool false, .bool false, .int .i64 0, .int .i64 0]) (t := 48) ?hr ?_; (case hd => rfl); (case hg => rfl); (case hr => first | (go_simp; done) | (go_simp; rfl)); intro gb119 hg w17 hbox hb; have n0_ := m_ (blk_below (kN BK118.out) hb); have n1_ := m_ (below_step (bN HB.out) hb); have n2_ := m_ (hbox); have n3_ := m_ ((by rw [hg]; exact (below_size (bN HB.out)) : w.heap.size ≤ gb119)); have n4_ := m_ ((by rw [hg]; exact (below_size (bN HB.out)) : w.heap.size ≤ gb119)); have n5_ := m_ (nL hg BK118.out); have n6_ := m_ (nG hg BK118.out); clear BK118; clear HB; have BK118 := n0_; have HB := n1_; have BK119 := n2_; have GW119 := n3_; have GE119 := n4_; have NB118_119 := n5_; have NB119_118 := n6_; clear n0_ n1_ n2_ n3_ n4_ n5_ n6_; clear hb hbox hg; have hnb18 := NB119_118.out; have hnc18 := NB118_119.out; have hcz19_0 : w17.cell? ⟨gb119, 0, none⟩ = some (.bool false) := bc BK119 0; have hcz19_1 : w17.cell? ⟨gb119, 1, none⟩ = some (.bool false) := bc BK119 1; have hcz19_2 : w17.cell? ⟨gb119, 2, none⟩ = some (.bool false) := bc BK119 2; have hcz19_3 : w17.cell? ⟨gb119, 3, none⟩ = some (.int .i64 0) := bc BK119 3; have hcz19_4 : w17.cell? ⟨gb119, 4, none⟩ = some (.int .i64 0) := bc BK119 4; have hfz19_0 := blk_frozen BK119.out 0; have hfz19_1 := blk_frozen BK119.out 1; have hfz19_2 := blk_frozen BK119.out 2; have hfz19_3 := blk_frozen BK119.out 3; have hfz19_4 := blk_frozen BK119.out 4) | ((with_reducible refine gate_callee (f := 29) rfl ?_); refine goesL_ (some 33) rfl rfl Tryd.func29 (by kernel_rfl) rfl #[.agg #[.bool ((Int.tmod (wrap64 (Int.tdiv (wrap64 (bt a0 2)) 32)) 2) == 1), .bool ((Int.tmod (wrap64 (Int.tdiv (wrap64 (bt a0 2)) 16)) 2) == 1), .bool ((Int.tmod (wrap64 (Int.tdiv (wrap64 (bt a0 2)) 8)) 2) == 1), .int .i64 (Int.tmod (wrap64 (Int.tdiv (wrap64 (bt a0 2)) 2)) 4), .int .i64 (wrap64 (bt a0 3))]] rfl gl_ ?_; (with_reducible refine (spec_FarmPut.calls k ((Int.tmod (wrap64 (Int.tdiv (wrap64 (bt a0 2)) 32)) 2) == 1) ((Int.tmod (wrap64 (Int.tdiv (wrap64 (bt a0 2)) 16)) 2) == 1) ((Int.tmod (wrap64 (Int.tdiv (wrap64 (bt a0 2)) 8)) 2) == 1) (Int.tmod (wrap64 (Int.tdiv (wrap64 (bt a0 2)) 2)) 4) (wrap64 (bt a0 3)) t120 _ A7.out).mono ?_); rintro e w20 ⟨rfl, hb⟩; refine ⟨_, rfl, ?_⟩; have n0_ := m_ (blk_below (g := gb118) (o := .cells #[.bool false, .bool false, .bool false, .int .i64 0, .int .i64 0] 48 (0, 0)) (kF BK118.out NB118_119.out) hb); have n1_ := m_ (blk_below (g := gb119) (o := .cells #[.bool ((Int.tmod (wrap64 (Int.tdiv (wrap64 (bt a0 2)) 32)) 2) == 1), .bool ((Int.tmod (wrap64 (Int.tdiv (wrap64 (bt a0 2)) 16)) 2) == 1), .bool ((Int.tmod (wrap64 (Int.tdiv (wrap64 (bt a0 2)) 8)) 2) == 1), .int .i64 (Int.tmod (wrap64 (Int.tdiv (wrap64 (bt a0 2)) 2)) 4), .int .i64 (wrap64 (bt a0 3))] 48 (0, 0)) (by (with_reducible repeat (first | refine blk_drewN ?_ _ | refine blk_drew ?_ | refine blk_alloc ?_ _)); refine blk_put (cs := #[.bool ((Int.tmod (wrap64 (Int.tdiv (wrap64 (bt a0 2)) 32)) 2) == 1), .bool ((Int.tmod (wrap64 (Int.tdiv (wrap64 (bt a0 2)) 16)) 2) == 1), .bool ((Int.tmod (wrap64 (Int.tdiv (wrap64 (bt a0 2)) 8)) 2) == 1), .int .i64 (Int.tmod (wrap64 (Int.tdiv (wrap64 (bt a0 2)) 2)) 4), .int .i64 0]) ?_ 4 _ rfl; (with_reducible repeat (first | refine blk_drewN ?_ _ | refine blk_drew ?_ | refine blk_alloc ?_ _)); refine blk_put (cs := #[.bool ((Int.tmod (wrap64 (Int.tdiv (wrap64 (bt a0 2)) 32)) 2) == 1), .bool ((Int.tmod (wrap64 (Int.tdiv (wrap64 (bt a0 2)) 16)) 2) == 1), .bool ((Int.tmod (wrap64 (Int.tdiv (wrap64 (bt a0 2)) 8)) 2) == 1), .int .i64 0, .int .i64 0]) ?_ 3 _ rfl; (with_reducible repeat (first | refine blk_drewN ?_ _ | refine blk_drew ?_ | refine blk_alloc ?_ _)); refine blk_put (cs := #[.bool ((Int.tmod (wrap64 (Int.tdiv (wrap64 (bt a0 2)) 32)) 2) == 1), .bool ((Int.tmod (wrap64 (Int.tdiv (wrap64 (bt a0 2)) 16)) 2) == 1), .bool false, .int .i64 0, .int .i64 0]) ?_ 2 _ rfl; (with_reducible repeat (first | refine blk_drewN ?_ _ | refine blk_drew ?_ | refine blk_alloc ?_ _)); refine blk_put (cs := #[.bool ((Int.tmod (wrap64 (Int.tdiv (wrap64 (bt a0 2)) 32)) 2) == 1), .bool false, .bool false, .int .i64 0, .int .i64 0]) ?_ 1 _ rfl; (with_reducible repeat (first | refine blk_drewN ?_ _ | refine blk_drew ?_ | refine blk_alloc ?_ _)); refine blk_put (cs := #[.bool false, .bool false, .bool false, .int .i64 0, .int .i64 0]) ?_ 0 _ rfl; (with_reducible repeat (first | refine blk_drewN ?_ _ | refine blk_drew ?_ | refine blk_alloc ?_ _)); exact BK119.out) hb); have n2_ := m_ (below_step (bN HB.out) hb); clear BK118; clear BK119; clear HB; have BK118 := n0_; have BK119 := n1_; have HB := n2_; clear n0_ n1_ n2_; (try clear hb); (try clear hb2); (try clear hk); (try clear hi); have hcz21_0 : w20.cell? ⟨gb118, 0, none⟩ = some (.bool false) := bc BK118 0; have hcz21_1 : w20.cell? ⟨gb118, 1, none⟩ = some (.bool false) := bc BK118 1; have hcz21_2 : w20.cell? ⟨gb118, 2, none⟩ = some (.bool false) := bc BK118 2; have hcz21_3 : w20.cell? ⟨gb118, 3, none⟩ = some (.int .i64 0) := bc BK118 3; have hcz21_4 : w20.cell? ⟨gb118, 4, none⟩ = some (.int .i64 0) := bc BK118 4; have hfz21_0 := blk_frozen BK118.out 0; have hfz21_1 := blk_frozen BK118.out 1; have hfz21_2 := blk_frozen BK118.out 2; have hfz21_3 := blk_frozen BK118.out 3; have hfz21_4 := blk_frozen BK118.out 4))
     refine bodyPost_ret (results_ct rfl _ _ gb118 48 #[.bool false, .bool false, .bool false, .int .i64 0, .int .i64 0] (0, 0) _ rfl (by (with_reducible repeat (first | refine blk_drewN ?_ _ | refine blk_drew ?_ | refine blk_alloc ?_ _)); refine blk_put (cs := #[.bool false, .bool false, .bool false, .int .i64 0, .int .i64 0]) ?_ 4 _ rfl; (with_reducible repeat (first | refine blk_drewN ?_ _ | refine blk_drew ?_ | refine blk_alloc ?_ _)); refine blk_put (cs := #[.bool false, .bool false, .bool false, .int .i64 0, .int .i64 0]) ?_ 3 _ rfl; (with_reducible repeat (first | refine blk_drewN ?_ _ | refine blk_drew ?_ | refine blk_alloc ?_ _)); refine blk_put (cs := #[.bool false, .bool false, .bool false, .int .i64 0, .int .i64 0]) ?_ 2 _ rfl; (with_reducible repeat (first | refine blk_drewN ?_ _ | refine blk_drew ?_ | refine blk_alloc ?_ _)); refine blk_put (cs := #[.bool false, .bool false, .bool false, .int .i64 0, .int .i64 0]) ?_ 1 _ rfl; (with_reducible repeat (first | refine blk_drewN ?_ _ | refine blk_drew ?_ | refine blk_alloc ?_ _)); refine blk_put (cs := #[.bool false, .bool false, .bool false, .int .i64 0, .int .i64 0]) ?_ 0 _ rfl; (with_reducible repeat (first | refine blk_drewN ?_ _ | refine blk_drew ?_ | refine blk_alloc ?_ _)); exact BK118.out) Tryd.underlying48 rfl (by kernel_rfl)) rfl ?_
     exact ⟨by first | rfl | (simp [errW_none, errW_some] <;> rfl) | (simp [*, errW_none, errW_some] <;> rfl), by repeat (first | (with_reducible first | exact HB.out | apply below_alloc | apply pw_below_drewN | apply below_drew1 | refine below_set ?_ GE118.out | refine below_set ?_ GE119.out) | exact HB.out)⟩
   ·rw [if_neg c5] at H
    exact absurd H (by simp)
  ·rw [if_neg c3] at H
   exact absurd H (by simp)
 ·rw [if_neg c2] at H
  have c2b0 : ((a0.size : Int) == 4) = false := beq_eq_false_iff_ne.mpr c2
  have c2b1 : ((a0.size : Int) != 4) = true := bne_iff_ne.mpr c2
  simp only [Option.some.injEq, Prod.mk.injEq] at H
  obtain ⟨rfl, rfl, rfl, rfl, rfl, rfl⟩ := H
  go_enter Tryd.func22, Tryd.ntmps22
  go_wp2_with (first | ((with_reducible refine gate_dst (N := 2) rfl ?_); refine box_event ?hg (N := 2) ?hd (cs := #[.bool false, .bool false, .bool false, .int .i64 0, .int .i64 0]) (t := 48) ?hr ?_; (case hd => rfl); (case hg => rfl); (case hr => first | (go_simp; done) | (go_simp; rfl)); intro gb118 hg w22 hbox hb; have n0_ := m_ (below_step (bN HB.out) hb); have n1_ := m_ (hbox); have n2_ := m_ ((by rw [hg]; exact (below_size (bN HB.out)) : w.heap.size ≤ gb118)); have n3_ := m_ ((by rw [hg]; exact (below_size (bN HB.out)) : w.heap.size ≤ gb118)); clear HB; have HB := n0_; have BK118 := n1_; have GW118 := n2_; have GE118 := n3_; clear n0_ n1_ n2_ n3_; clear hb hbox hg; have hcz23_0 : w22.cell? ⟨gb118, 0, none⟩ = some (.bool false) := bc BK118 0; have hcz23_1 : w22.cell? ⟨gb118, 1, none⟩ = some (.bool false) := bc BK118 1; have hcz23_2 : w22.cell? ⟨gb118, 2, none⟩ = some (.bool false) := bc BK118 2; have hcz23_3 : w22.cell? ⟨gb118, 3, none⟩ = some (.int .i64 0) := bc BK118 3; have hcz23_4 : w22.cell? ⟨gb118, 4, none⟩ = some (.int .i64 0) := bc BK118 4; have hfz23_0 := blk_frozen BK118.out 0; have hfz23_1 := blk_frozen BK118.out 1; have hfz23_2 := blk_frozen BK118.out 2; have hfz23_3 := blk_frozen BK118.out 3; have hfz23_4 := blk_frozen BK118.out 4))
  refine bodyPost_ret (results_ct rfl _ _ gb118 48 #[.bool false, .bool false, .bool false, .int .i64 0, .int .i64 0] (0, 0) _ rfl (by (with_reducible repeat (first | refine blk_drewN ?_ _ | refine blk_drew ?_ | refine blk_alloc ?_ _)); refine blk_put (cs := #[.bool false, .bool false, .bool false, .int .i64 0, .int .i64 0]) ?_ 4 _ rfl; (with_reducible repeat (first | refine blk_drewN ?_ _ | refine blk_drew ?_ | refine blk_alloc ?_ _)); refine blk_put (cs := #[.bool false, .bool false, .bool false, .int .i64 0, .int .i64 0]) ?_ 3 _ rfl; (with_reducible repeat (first | refine blk_drewN ?_ _ | refine blk_drew ?_ | refine blk_alloc ?_ _)); refine blk_put (cs := #[.bool false, .bool false, .bool false, .int .i64 0, .int .i64 0]) ?_ 2 _ rfl; (with_reducible repeat (first | refine blk_drewN ?_ _ | refine blk_drew ?_ | refine blk_alloc ?_ _)); refine blk_put (cs := #[.bool false, .bool false, .bool false, .int .i64 0, .int .i64 0]) ?_ 1 _ rfl; (with_reducible repeat (first | refine blk_drewN ?_ _ | refine blk_drew ?_ | refine blk_alloc ?_ _)); refine blk_put (cs := #[.bool false, .bool false, .bool false, .int .i64 0, .int .i64 0]) ?_ 0 _ rfl; (with_reducible repeat (first | refine blk_drewN ?_ _ | refine blk_drew ?_ | refine blk_alloc ?_ _)); exact BK118.out) Tryd.underlying48 rfl (by kernel_rfl)) rfl ?_
  exact ⟨by first | rfl | (simp [errW_none, errW_some] <;> rfl) | (simp [*, errW_none, errW_some] <;> rfl), by repeat (first | (with_reducible first | exact HB.out | apply below_alloc | apply pw_below_drewN | apply below_drew1 | refine below_set ?_ GE118.out) | exact HB.out)⟩

/-! ### spec_l12Ok: function 15 -/
def spec_l12Ok.f (k : Nat) (a0_0 : Int) (a0_1 : Int) (a0_2 : Int) (a0_3 : Int) (a0_4 : Int) (a0_5 : ByteArray) (a0_6 : ByteArray) : Option (Bool) := (spec_FarmGet.f k a0_6).bind fun bt122 => (if bt122.2.2.2.2.2 = true then ((spec_l1In.f a0_0 0 1023).bind fun t129 => (if t129 = true then ((spec_l1In.f a0_1 0 7).bind fun t130 => (if t130 = true then ((spec_l1In.f a0_2 0 255).bind fun t131 => (if t131 = true then ((spec_l1In.f a0_3 0 255).bind fun t132 => (if t132 = true then ((spec_l1In.f a0_4 0 27).bind fun t133 => (if t133 = true then (some ((a0_5.size : Int) == 28)) else (if a0_4 = 2047 then (some ((a0_5.size : Int) == 28)) else (if a0_4 = 2046 then (some ((a0_5.size : Int) == 28)) else (some false))))) else (some false))) else (some false))) else (some false))) else (some false))) else (some false))
theorem spec_l12Ok.mono : ∀ a0 a1 a2 a3 a4 a5 a6 k, LeO (spec_l12Ok.f k a0 a1 a2 a3 a4 a5 a6) (spec_l12Ok.f (k + 1) a0 a1 a2 a3 a4 a5 a6) := by
 intro a0 a1 a2 a3 a4 a5 a6 k
 unfold spec_l12Ok.f
 repeat' first
   | (with_reducible exact spec_FarmGet.mono _ _)
   | (with_reducible exact LeO.refl _)
   | (with_reducible exact LeO.none _)
   | (with_reducible refine LeO.ite ?_ ?_)
   | (with_reducible refine LeO.bind ?_ (fun _ => ?_))
   | exact spec_FarmGet.mono _ _
   | exact LeO.none _
   | refine LeO.ite ?_ ?_
   | refine LeO.bind ?_ (fun _ => ?_)
set_option maxHeartbeats 8000000 in
set_option maxRecDepth 100000 in
theorem spec_l12Ok.calls (k : Nat) (a0_0 : Int) (a0_1 : Int) (a0_2 : Int) (a0_3 : Int) (a0_4 : Int) (a0_5 : ByteArray) (a0_6 : ByteArray) (r : Bool) (w : World) (h : spec_l12Ok.f k a0_0 a0_1 a0_2 a0_3 a0_4 a0_5 a0_6 = some r) :
  Calls Tryd.prog 15 #[.agg #[.int .i64 a0_0, .int .i64 a0_1, .int .i64 a0_2, .int .i64 a0_3, .int .i64 a0_4, .string a0_5, .string a0_6]] w fun e w' => e = .returned (.bool r) ∧ Below w.heap.size w w' := by
 have hu33 := Tryd.underlying33
 have hu48 := Tryd.underlying48
 have HB := m_ (Below.refl w.heap.size w)
 have H : ((spec_FarmGet.f k a0_6).bind fun bt122 => (if bt122.2.2.2.2.2 = true then ((spec_l1In.f a0_0 0 1023).bind fun t129 => (if t129 = true then ((spec_l1In.f a0_1 0 7).bind fun t130 => (if t130 = true then ((spec_l1In.f a0_2 0 255).bind fun t131 => (if t131 = true then ((spec_l1In.f a0_3 0 255).bind fun t132 => (if t132 = true then ((spec_l1In.f a0_4 0 27).bind fun t133 => (if t133 = true then (some ((a0_5.size : Int) == 28)) else (if a0_4 = 2047 then (some ((a0_5.size : Int) == 28)) else (if a0_4 = 2046 then (some ((a0_5.size : Int) == 28)) else (some false))))) else (some false))) else (some false))) else (some false))) else (some false))) else (some false))) = some r := h
 clear h
 replace H := Option.bind_eq_some_iff.mp H
 obtain ⟨⟨t122, t123, t124, t125, t126, t127⟩, A20, H⟩ := H
 replace H : (if t127 = true then ((spec_l1In.f a0_0 0 1023).bind fun t129 => (if t129 = true then ((spec_l1In.f a0_1 0 7).bind fun t130 => (if t130 = true then ((spec_l1In.f a0_2 0 255).bind fun t131 => (if t131 = true then ((spec_l1In.f a0_3 0 255).bind fun t132 => (if t132 = true then ((spec_l1In.f a0_4 0 27).bind fun t133 => (if t133 = true then (some ((a0_5.size : Int) == 28)) else (if a0_4 = 2047 then (some ((a0_5.size : Int) == 28)) else (if a0_4 = 2046 then (some ((a0_5.size : Int) == 28)) else (some false))))) else (some false))) else (some false))) else (some false))) else (some false))) else (some false)) = some r := H
 have A2 := Aside0.mk A20
 clear A20
 by_cases c3 : t127 = true
 ·subst c3
  have H1 : ((spec_l1In.f a0_0 0 1023).bind fun t129 => (if t129 = true then ((spec_l1In.f a0_1 0 7).bind fun t130 => (if t130 = true then ((spec_l1In.f a0_2 0 255).bind fun t131 => (if t131 = true then ((spec_l1In.f a0_3 0 255).bind fun t132 => (if t132 = true then ((spec_l1In.f a0_4 0 27).bind fun t133 => (if t133 = true then (some ((a0_5.size : Int) == 28)) else (if a0_4 = 2047 then (some ((a0_5.size : Int) == 28)) else (if a0_4 = 2046 then (some ((a0_5.size : Int) == 28)) else (some false))))) else (some false))) else (some false))) else (some false))) else (some false))) = some r := by rw [if_pos rfl] at H; exact H
  clear H
  have H := H1
  clear H1
  replace H := Option.bind_eq_some_iff.mp H
  obtain ⟨t129, A40, H⟩ := H
  replace H : (if t129 = true then ((spec_l1In.f a0_1 0 7).bind fun t130 => (if t130 = true then ((spec_l1In.f a0_2 0 255).bind fun t131 => (if t131 = true then ((spec_l1In.f a0_3 0 255).bind fun t132 => (if t132 = true then ((spec_l1In.f a0_4 0 27).bind fun t133 => (if t133 = true then (some ((a0_5.size : Int) == 28)) else (if a0_4 = 2047 then (some ((a0_5.size : Int) == 28)) else (if a0_4 = 2046 then (some ((a0_5.size : Int) == 28)) else (some false))))) else (some false))) else (some false))) else (some false))) else (some false)) = some r := H
  have A4 := Aside0.mk A40
  clear A40
  by_cases c5 : t129 = true
  ·subst c5
   have H1 : ((spec_l1In.f a0_1 0 7).bind fun t130 => (if t130 = true then ((spec_l1In.f a0_2 0 255).bind fun t131 => (if t131 = true then ((spec_l1In.f a0_3 0 255).bind fun t132 => (if t132 = true then ((spec_l1In.f a0_4 0 27).bind fun t133 => (if t133 = true then (some ((a0_5.size : Int) == 28)) else (if a0_4 = 2047 then (some ((a0_5.size : Int) == 28)) else (if a0_4 = 2046 then (some ((a0_5.size : Int) == 28)) else (some false))))) else (some false))) else (some false))) else (some false))) = some r := by rw [if_pos rfl] at H; exact H
   clear H
   have H := H1
   clear H1
   replace H := Option.bind_eq_some_iff.mp H
   obtain ⟨t130, A60, H⟩ := H
   replace H : (if t130 = true then ((spec_l1In.f a0_2 0 255).bind fun t131 => (if t131 = true then ((spec_l1In.f a0_3 0 255).bind fun t132 => (if t132 = true then ((spec_l1In.f a0_4 0 27).bind fun t133 => (if t133 = true then (some ((a0_5.size : Int) == 28)) else (if a0_4 = 2047 then (some ((a0_5.size : Int) == 28)) else (if a0_4 = 2046 then (some ((a0_5.size : Int) == 28)) else (some false))))) else (some false))) else (some false))) else (some false)) = some r := H
   have A6 := Aside0.mk A60
   clear A60
   by_cases c7 : t130 = true
   ·subst c7
    have H1 : ((spec_l1In.f a0_2 0 255).bind fun t131 => (if t131 = true then ((spec_l1In.f a0_3 0 255).bind fun t132 => (if t132 = true then ((spec_l1In.f a0_4 0 27).bind fun t133 => (if t133 = true then (some ((a0_5.size : Int) == 28)) else (if a0_4 = 2047 then (some ((a0_5.size : Int) == 28)) else (if a0_4 = 2046 then (some ((a0_5.size : Int) == 28)) else (some false))))) else (some false))) else (some false))) = some r := by rw [if_pos rfl] at H; exact H
    clear H
    have H := H1
    clear H1
    replace H := Option.bind_eq_some_iff.mp H
    obtain ⟨t131, A80, H⟩ := H
    replace H : (if t131 = true then ((spec_l1In.f a0_3 0 255).bind fun t132 => (if t132 = true then ((spec_l1In.f a0_4 0 27).bind fun t133 => (if t133 = true then (some ((a0_5.size : Int) == 28)) else (if a0_4 = 2047 then (some ((a0_5.size : Int) == 28)) else (if a0_4 = 2046 then (some ((a0_5.size : Int) == 28)) else (some false))))) else (some false))) else (some false)) = some r := H
    have A8 := Aside0.mk A80
    clear A80
    by_cases c9 : t131 = true
    ·subst c9
     have H1 : ((spec_l1In.f a0_3 0 255).bind fun t132 => (if t132 = true then ((spec_l1In.f a0_4 0 27).bind fun t133 => (if t133 = true then (some ((a0_5.size : Int) == 28)) else (if a0_4 = 2047 then (some ((a0_5.size : Int) == 28)) else (if a0_4 = 2046 then (some ((a0_5.size : Int) == 28)) else (some false))))) else (some false))) = some r := by rw [if_pos rfl] at H; exact H
     clear H
     have H := H1
     clear H1
     replace H := Option.bind_eq_some_iff.mp H
     obtain ⟨t132, A100, H⟩ := H
     replace H : (if t132 = true then ((spec_l1In.f a0_4 0 27).bind fun t133 => (if t133 = true then (some ((a0_5.size : Int) == 28)) else (if a0_4 = 2047 then (some ((a0_5.size : Int) == 28)) else (if a0_4 = 2046 then (some ((a0_5.size : Int) == 28)) else (some false))))) else (some false)) = some r := H
     have A10 := Aside0.mk A100
     clear A100
     by_cases c11 : t132 = true
     ·subst c11
      have H1 : ((spec_l1In.f a0_4 0 27).bind fun t133 => (if t133 = true then (some ((a0_5.size : Int) == 28)) else (if a0_4 = 2047 then (some ((a0_5.size : Int) == 28)) else (if a0_4 = 2046 then (some ((a0_5.size : Int) == 28)) else (some false))))) = some r := by rw [if_pos rfl] at H; exact H
      clear H
      have H := H1
      clear H1
      replace H := Option.bind_eq_some_iff.mp H
      obtain ⟨t133, A120, H⟩ := H
      replace H : (if t133 = true then (some ((a0_5.size : Int) == 28)) else (if a0_4 = 2047 then (some ((a0_5.size : Int) == 28)) else (if a0_4 = 2046 then (some ((a0_5.size : Int) == 28)) else (some false)))) = some r := H
      have A12 := Aside0.mk A120
      clear A120
      by_cases c13 : t133 = true
      ·subst c13
       have H1 : (some ((a0_5.size : Int) == 28)) = some r := by rw [if_pos rfl] at H; exact H
       clear H
       have H := H1
       clear H1
       obtain rfl := Option.some.inj H
       go_enter Tryd.func15, Tryd.ntmps15
       go_wp2_with (first | ((with_reducible refine gate_dst (N := 1) rfl ?_); (try (refine gate_guard (by rfl) ?_; dsimp only)); refine box_event ?hg (N := 1) ?hd (cs := #[.int .i64 a0_0, .int .i64 a0_1, .int .i64 a0_2, .int .i64 a0_3, .int .i64 a0_4, .string a0_5, .string a0_6]) (t := 33) ?hr ?_; (case hd => rfl); (case hg => rfl); (case hr => first | (go_simp; done) | (go_simp; rfl)); intro gb121 hg w14 hbox hb; have n0_ := m_ (below_step (bN HB.out) hb); have n1_ := m_ (hbox); have n2_ := m_ ((by rw [hg]; exact (below_size (bN HB.out)) : w.heap.size ≤ gb121)); have n3_ := m_ ((by rw [hg]; exact (below_size (bN HB.out)) : w.heap.size ≤ gb121)); clear HB; have HB := n0_; have BK121 := n1_; have GW121 := n2_; have GE121 := n3_; clear n0_ n1_ n2_ n3_; clear hb hbox hg; have hcz15_0 : w14.cell? ⟨gb121, 0, none⟩ = some (.int .i64 a0_0) := bc BK121 0; have hcz15_1 : w14.cell? ⟨gb121, 1, none⟩ = some (.int .i64 a0_1) := bc BK121 1; have hcz15_2 : w14.cell? ⟨gb121, 2, none⟩ = some (.int .i64 a0_2) := bc BK121 2; have hcz15_3 : w14.cell? ⟨gb121, 3, none⟩ = some (.int .i64 a0_3) := bc BK121 3; have hcz15_4 : w14.cell? ⟨gb121, 4, none⟩ = some (.int .i64 a0_4) := bc BK121 4; have hcz15_5 : w14.cell? ⟨gb121, 5, none⟩ = some (.string a0_5) := bc BK121 5; have hcz15_6 : w14.cell? ⟨gb121, 6, none⟩ = some (.string a0_6) := bc BK121 6; have hfz15_0 := blk_frozen BK121.out 0; have hfz15_1 := blk_frozen BK121.out 1; have hfz15_2 := blk_frozen BK121.out 2; have hfz15_3 := blk_frozen BK121.out 3; have hfz15_4 := blk_frozen BK121.out 4; have hfz15_5 := blk_frozen BK121.out 5; have hfz15_6 := blk_frozen BK121.out 6) | ((with_reducible refine gate_callee (f := 22) rfl ?_); refine goesL_ (some 8) rfl rfl Tryd.func22 (by kernel_rfl) rfl #[.string a0_6] rfl gl_ ?_; (with_reducible refine (spec_FarmGet.calls k a0_6 t122 t123 t124 t125 t126 true _ A2.out).mono ?_); rintro e w16 ⟨rfl, hb⟩; refine ⟨_, rfl, ?_⟩; have n0_ := m_ (blk_below (kN BK121.out) hb); have n1_ := m_ (below_step (bN HB.out) hb); clear BK121; clear HB; have BK121 := n0_; have HB := n1_; clear n0_ n1_; (try clear hb); (try clear hb2); (try clear hk); (try clear hi)) | ((with_reducible refine gate_dst (N := 3) rfl ?_); (try (refine gate_guard (by rfl) ?_; dsimp only)); refine box_event ?hg (N := 3) ?hd (cs := #[.bool false, .bool false, .bool false, .int .i64 0, .int .i64 0]) (t := 48) ?hr ?_; (case hd => rfl); (case hg => rfl); (case hr => first | (go_simp; done) | (go_simp; rfl)); intro gb128 hg w17 hbox hb; have n0_ := m_ (blk_below (kN BK121.out) hb); have n1_ := m_ (below_step (bN HB.out) hb); have n2_ := m_ (hbox); have n3_ := m_ ((by rw [hg]; exact (below_size (bN HB.out)) : w.heap.size ≤ gb128)); have n4_ := m_ ((by rw [hg]; exact (below_size (bN HB.out)) : w.heap.size ≤ gb128)); have n5_ := m_ (nL hg BK121.out); have n6_ := m_ (nG hg BK121.out); clear BK121; clear HB; have BK121 := n0_; have HB := n1_; have BK128 := n2_; have GW128 := n3_; have GE128 := n4_; have NB121_128 := n5_; have NB128_121 := n6_; clear n0_ n1_ n2_ n3_ n4_ n5_ n6_; clear hb hbox hg; have hnb18 := NB128_121.out; have hnc18 := NB121_128.out; have hcz19_0 : w17.cell? ⟨gb128, 0, none⟩ = some (.bool false) := bc BK128 0; have hcz19_1 : w17.cell? ⟨gb128, 1, none⟩ = some (.bool false) := bc BK128 1; have hcz19_2 : w17.cell? ⟨gb128, 2, none⟩ = some (.bool false) := bc BK128 2; have hcz19_3 : w17.cell? ⟨gb128, 3, none⟩ = some (.int .i64 0) := bc BK128 3; have hcz19_4 : w17.cell? ⟨gb128, 4, none⟩ = some (.int .i64 0) := bc BK128 4; have hfz19_0 := blk_frozen BK128.out 0; have hfz19_1 := blk_frozen BK128.out 1; have hfz19_2 := blk_frozen BK128.out 2; have hfz19_3 := blk_frozen BK128.out 3; have hfz19_4 := blk_frozen BK128.out 4; have hcz20_0 : w17.cell? ⟨gb121, 0, none⟩ = some (.int .i64 a0_0) := bc BK121 0; have hcz20_1 : w17.cell? ⟨gb121, 1, none⟩ = some (.int .i64 a0_1) := bc BK121 1; have hcz20_2 : w17.cell? ⟨gb121, 2, none⟩ = some (.int .i64 a0_2) := bc BK121 2; have hcz20_3 : w17.cell? ⟨gb121, 3, none⟩ = some (.int .i64 a0_3) := bc BK121 3; have hcz20_4 : w17.cell? ⟨gb121, 4, none⟩ = some (.int .i64 a0_4) := bc BK121 4; have hcz20_5 : w17.cell? ⟨gb121, 5, none⟩ = some (.string a0_5) := bc BK121 5; have hcz20_6 : w17.cell? ⟨gb121, 6, none⟩ = some (.string a0_6) := bc BK121 6; have hfz20_0 := blk_frozen BK121.out 0; have hfz20_1 := blk_frozen BK121.out 1; have hfz20_2 := blk_frozen BK121.out 2; have hfz20_3 := blk_frozen BK121.out 3; have hfz20_4 := blk_frozen BK121.out 4; have hfz20_5 := blk_frozen BK121.out 5; have hfz20_6 := blk_frozen BK121.out 6) | (go_at_call 21; (with_reducible refine (spec_l1In.calls a0_0 0 1023 true _ A4.out).mono ?_); rintro e w' ⟨rfl, ⟨nd, rfl⟩⟩) | (go_at_call 21; (with_reducible refine (spec_l1In.calls a0_1 0 7 true _ A6.out).mono ?_); rintro e w' ⟨rfl, ⟨nd, rfl⟩⟩) | (go_at_call 21; (with_reducible refine (spec_l1In.calls a0_2 0 255 true _ A8.out).mono ?_); rintro e w' ⟨rfl, ⟨nd, rfl⟩⟩) | (go_at_call 21; (with_reducible refine (spec_l1In.calls a0_3 0 255 true _ A10.out).mono ?_); rintro e w' ⟨rfl, ⟨nd, rfl⟩⟩) | (go_at_call 21; (with_reducible refine (spec_l1In.calls a0_4 0 27 true _ A12.out).mono ?_); rintro e w' ⟨rfl, ⟨nd, rfl⟩⟩))
       go_ret
       exact ⟨by first | rfl | (simp [errW_none, errW_some] <;> rfl) | (simp [*, errW_none, errW_some] <;> rfl), by repeat (first | (with_reducible first | exact HB.out | apply below_alloc | apply pw_below_drewN | apply below_drew1 | refine below_set ?_ GE121.out | refine below_set ?_ GE128.out) | exact HB.out)⟩
      ·replace c13 := Bool.eq_false_iff.mpr c13
       subst c13
       have H1 : (if a0_4 = 2047 then (some ((a0_5.size : Int) == 28)) else (if a0_4 = 2046 then (some ((a0_5.size : Int) == 28)) else (some false))) = some r := by rw [if_neg (show ¬ (false = true) by decide)] at H; exact H
       clear H
       have H := H1
       clear H1
       by_cases c21 : a0_4 = 2047
       ·rw [if_pos c21] at H
        have c21b0 : (a0_4 == 2047) = true := beq_iff_eq.mpr c21
        have c21b1 : (a0_4 != 2047) = false := bne_eq_false_iff_eq.mpr c21
        clear c21
        obtain rfl := Option.some.inj H
        go_enter Tryd.func15, Tryd.ntmps15
        go_wp2_with (first | ((with_reducible refine gate_dst (N := 1) rfl ?_); (try (refine gate_guard (by rfl) ?_; dsimp only)); refine box_event ?hg (N := 1) ?hd (cs := #[.int .i64 a0_0, .int .i64 a0_1, .int .i64 a0_2, .int .i64 a0_3, .int .i64 a0_4, .string a0_5, .string a0_6]) (t := 33) ?hr ?_; (case hd => rfl); (case hg => rfl); (case hr => first | (go_simp; done) | (go_simp; rfl)); intro gb121 hg w22 hbox hb; have n0_ := m_ (below_step (bN HB.out) hb); have n1_ := m_ (hbox); have n2_ := m_ ((by rw [hg]; exact (below_size (bN HB.out)) : w.heap.size ≤ gb121)); have n3_ := m_ ((by rw [hg]; exact (below_size (bN HB.out)) : w.heap.size ≤ gb121)); clear HB; have HB := n0_; have BK121 := n1_; have GW121 := n2_; have GE121 := n3_; clear n0_ n1_ n2_ n3_; clear hb hbox hg; have hcz23_0 : w22.cell? ⟨gb121, 0, none⟩ = some (.int .i64 a0_0) := bc BK121 0; have hcz23_1 : w22.cell? ⟨gb121, 1, none⟩ = some (.int .i64 a0_1) := bc BK121 1; have hcz23_2 : w22.cell? ⟨gb121, 2, none⟩ = some (.int .i64 a0_2) := bc BK121 2; have hcz23_3 : w22.cell? ⟨gb121, 3, none⟩ = some (.int .i64 a0_3) := bc BK121 3; have hcz23_4 : w22.cell? ⟨gb121, 4, none⟩ = some (.int .i64 a0_4) := bc BK121 4; have hcz23_5 : w22.cell? ⟨gb121, 5, none⟩ = some (.string a0_5) := bc BK121 5; have hcz23_6 : w22.cell? ⟨gb121, 6, none⟩ = some (.string a0_6) := bc BK121 6; have hfz23_0 := blk_frozen BK121.out 0; have hfz23_1 := blk_frozen BK121.out 1; have hfz23_2 := blk_frozen BK121.out 2; have hfz23_3 := blk_frozen BK121.out 3; have hfz23_4 := blk_frozen BK121.out 4; have hfz23_5 := blk_frozen BK121.out 5; have hfz23_6 := blk_frozen BK121.out 6) | ((with_reducible refine gate_callee (f := 22) rfl ?_); refine goesL_ (some 8) rfl rfl Tryd.func22 (by kernel_rfl) rfl #[.string a0_6] rfl gl_ ?_; (with_reducible refine (spec_FarmGet.calls k a0_6 t122 t123 t124 t125 t126 true _ A2.out).mono ?_); rintro e w24 ⟨rfl, hb⟩; refine ⟨_, rfl, ?_⟩; have n0_ := m_ (blk_below (kN BK121.out) hb); have n1_ := m_ (below_step (bN HB.out) hb); clear BK121; clear HB; have BK121 := n0_; have HB := n1_; clear n0_ n1_; (try clear hb); (try clear hb2); (try clear hk); (try clear hi)) | ((with_reducible refine gate_dst (N := 3) rfl ?_); (try (refine gate_guard (by rfl) ?_; dsimp only)); refine box_event ?hg (N := 3) ?hd (cs := #[.bool false, .bool false, .bool false, .int .i64 0, .int .i64 0]) (t := 48) ?hr ?_; (case hd => rfl); (case hg => rfl); (case hr => first | (go_simp; done) | (go_simp; rfl)); intro gb128 hg w25 hbox hb; have n0_ := m_ (blk_below (kN BK121.out) hb); have n1_ := m_ (below_step (bN HB.out) hb); have n2_ := m_ (hbox); have n3_ := m_ ((by rw [hg]; exact (below_size (bN HB.out)) : w.heap.size ≤ gb128)); have n4_ := m_ ((by rw [hg]; exact (below_size (bN HB.out)) : w.heap.size ≤ gb128)); have n5_ := m_ (nL hg BK121.out); have n6_ := m_ (nG hg BK121.out); clear BK121; clear HB; have BK121 := n0_; have HB := n1_; have BK128 := n2_; have GW128 := n3_; have GE128 := n4_; have NB121_128 := n5_; have NB128_121 := n6_; clear n0_ n1_ n2_ n3_ n4_ n5_ n6_; clear hb hbox hg; have hnb26 := NB128_121.out; have hnc26 := NB121_128.out; have hcz27_0 : w25.cell? ⟨gb128, 0, none⟩ = some (.bool false) := bc BK128 0; have hcz27_1 : w25.cell? ⟨gb128, 1, none⟩ = some (.bool false) := bc BK128 1; have hcz27_2 : w25.cell? ⟨gb128, 2, none⟩ = some (.bool false) := bc BK128 2; have hcz27_3 : w25.cell? ⟨gb128, 3, none⟩ = some (.int .i64 0) := bc BK128 3; have hcz27_4 : w25.cell? ⟨gb128, 4, none⟩ = some (.int .i64 0) := bc BK128 4; have hfz27_0 := blk_frozen BK128.out 0; have hfz27_1 := blk_frozen BK128.out 1; have hfz27_2 := blk_frozen BK128.out 2; have hfz27_3 := blk_frozen BK128.out 3; have hfz27_4 := blk_frozen BK128.out 4; have hcz28_0 : w25.cell? ⟨gb121, 0, none⟩ = some (.int .i64 a0_0) := bc BK121 0; have hcz28_1 : w25.cell? ⟨gb121, 1, none⟩ = some (.int .i64 a0_1) := bc BK121 1; have hcz28_2 : w25.cell? ⟨gb121, 2, none⟩ = some (.int .i64 a0_2) := bc BK121 2; have hcz28_3 : w25.cell? ⟨gb121, 3, none⟩ = some (.int .i64 a0_3) := bc BK121 3; have hcz28_4 : w25.cell? ⟨gb121, 4, none⟩ = some (.int .i64 a0_4) := bc BK121 4; have hcz28_5 : w25.cell? ⟨gb121, 5, none⟩ = some (.string a0_5) := bc BK121 5; have hcz28_6 : w25.cell? ⟨gb121, 6, none⟩ = some (.string a0_6) := bc BK121 6; have hfz28_0 := blk_frozen BK121.out 0; have hfz28_1 := blk_frozen BK121.out 1; have hfz28_2 := blk_frozen BK121.out 2; have hfz28_3 := blk_frozen BK121.out 3; have hfz28_4 := blk_frozen BK121.out 4; have hfz28_5 := blk_frozen BK121.out 5; have hfz28_6 := blk_frozen BK121.out 6) | (go_at_call 21; (with_reducible refine (spec_l1In.calls a0_0 0 1023 true _ A4.out).mono ?_); rintro e w' ⟨rfl, ⟨nd, rfl⟩⟩) | (go_at_call 21; (with_reducible refine (spec_l1In.calls a0_1 0 7 true _ A6.out).mono ?_); rintro e w' ⟨rfl, ⟨nd, rfl⟩⟩) | (go_at_call 21; (with_reducible refine (spec_l1In.calls a0_2 0 255 true _ A8.out).mono ?_); rintro e w' ⟨rfl, ⟨nd, rfl⟩⟩) | (go_at_call 21; (with_reducible refine (spec_l1In.calls a0_3 0 255 true _ A10.out).mono ?_); rintro e w' ⟨rfl, ⟨nd, rfl⟩⟩) | (go_at_call 21; (with_reducible refine (spec_l1In.calls a0_4 0 27 false _ A12.out).mono ?_); rintro e w' ⟨rfl, ⟨nd, rfl⟩⟩))
        go_ret
        exact ⟨by first | rfl | (simp [errW_none, errW_some] <;> rfl) | (simp [*, errW_none, errW_some] <;> rfl), by repeat (first | (with_reducible first | exact HB.out | apply below_alloc | apply pw_below_drewN | apply below_drew1 | refine below_set ?_ GE121.out | refine below_set ?_ GE128.out) | exact HB.out)⟩
       ·rw [if_neg c21] at H
        have c21b0 : (a0_4 == 2047) = false := beq_eq_false_iff_ne.mpr c21
        have c21b1 : (a0_4 != 2047) = true := bne_iff_ne.mpr c21
        by_cases c29 : a0_4 = 2046
        ·rw [if_pos c29] at H
         have c29b0 : (a0_4 == 2046) = true := beq_iff_eq.mpr c29
         have c29b1 : (a0_4 != 2046) = false := bne_eq_false_iff_eq.mpr c29
         clear c29
         obtain rfl := Option.some.inj H
         go_enter Tryd.func15, Tryd.ntmps15
         go_wp2_with (first | ((with_reducible refine gate_dst (N := 1) rfl ?_); (try (refine gate_guard (by rfl) ?_; dsimp only)); refine box_event ?hg (N := 1) ?hd (cs := #[.int .i64 a0_0, .int .i64 a0_1, .int .i64 a0_2, .int .i64 a0_3, .int .i64 a0_4, .string a0_5, .string a0_6]) (t := 33) ?hr ?_; (case hd => rfl); (case hg => rfl); (case hr => first | (go_simp; done) | (go_simp; rfl)); intro gb121 hg w30 hbox hb; have n0_ := m_ (below_step (bN HB.out) hb); have n1_ := m_ (hbox); have n2_ := m_ ((by rw [hg]; exact (below_size (bN HB.out)) : w.heap.size ≤ gb121)); have n3_ := m_ ((by rw [hg]; exact (below_size (bN HB.out)) : w.heap.size ≤ gb121)); clear HB; have HB := n0_; have BK121 := n1_; have GW121 := n2_; have GE121 := n3_; clear n0_ n1_ n2_ n3_; clear hb hbox hg; have hcz31_0 : w30.cell? ⟨gb121, 0, none⟩ = some (.int .i64 a0_0) := bc BK121 0; have hcz31_1 : w30.cell? ⟨gb121, 1, none⟩ = some (.int .i64 a0_1) := bc BK121 1; have hcz31_2 : w30.cell? ⟨gb121, 2, none⟩ = some (.int .i64 a0_2) := bc BK121 2; have hcz31_3 : w30.cell? ⟨gb121, 3, none⟩ = some (.int .i64 a0_3) := bc BK121 3; have hcz31_4 : w30.cell? ⟨gb121, 4, none⟩ = some (.int .i64 a0_4) := bc BK121 4; have hcz31_5 : w30.cell? ⟨gb121, 5, none⟩ = some (.string a0_5) := bc BK121 5; have hcz31_6 : w30.cell? ⟨gb121, 6, none⟩ = some (.string a0_6) := bc BK121 6; have hfz31_0 := blk_frozen BK121.out 0; have hfz31_1 := blk_frozen BK121.out 1; have hfz31_2 := blk_frozen BK121.out 2; have hfz31_3 := blk_frozen BK121.out 3; have hfz31_4 := blk_frozen BK121.out 4; have hfz31_5 := blk_frozen BK121.out 5; have hfz31_6 := blk_frozen BK121.out 6) | ((with_reducible refine gate_callee (f := 22) rfl ?_); refine goesL_ (some 8) rfl rfl Tryd.func22 (by kernel_rfl) rfl #[.string a0_6] rfl gl_ ?_; (with_reducible refine (spec_FarmGet.calls k a0_6 t122 t123 t124 t125 t126 true _ A2.out).mono ?_); rintro e w32 ⟨rfl, hb⟩; refine ⟨_, rfl, ?_⟩; have n0_ := m_ (blk_below (kN BK121.out) hb); have n1_ := m_ (below_step (bN HB.out) hb); clear BK121; clear HB; have BK121 := n0_; have HB := n1_; clear n0_ n1_; (try clear hb); (try clear hb2); (try clear hk); (try clear hi)) | ((with_reducible refine gate_dst (N := 3) rfl ?_); (try (refine gate_guard (by rfl) ?_; dsimp only)); refine box_event ?hg (N := 3) ?hd (cs := #[.bool false, .bool false, .bool false, .int .i64 0, .int .i64 0]) (t := 48) ?hr ?_; (case hd => rfl); (case hg => rfl); (case hr => first | (go_simp; done) | (go_simp; rfl)); intro gb128 hg w33 hbox hb; have n0_ := m_ (blk_below (kN BK121.out) hb); have n1_ := m_ (below_step (bN HB.out) hb); have n2_ := m_ (hbox); have n3_ := m_ ((by rw [hg]; exact (below_size (bN HB.out)) : w.heap.size ≤ gb128)); have n4_ := m_ ((by rw [hg]; exact (below_size (bN HB.out)) : w.heap.size ≤ gb128)); have n5_ := m_ (nL hg BK121.out); have n6_ := m_ (nG hg BK121.out); clear BK121; clear HB; have BK121 := n0_; have HB := n1_; have BK128 := n2_; have GW128 := n3_; have GE128 := n4_; have NB121_128 := n5_; have NB128_121 := n6_; clear n0_ n1_ n2_ n3_ n4_ n5_ n6_; clear hb hbox hg; have hnb34 := NB128_121.out; have hnc34 := NB121_128.out; have hcz35_0 : w33.cell? ⟨gb128, 0, none⟩ = some (.bool false) := bc BK128 0; have hcz35_1 : w33.cell? ⟨gb128, 1, none⟩ = some (.bool false) := bc BK128 1; have hcz35_2 : w33.cell? ⟨gb128, 2, none⟩ = some (.bool false) := bc BK128 2; have hcz35_3 : w33.cell? ⟨gb128, 3, none⟩ = some (.int .i64 0) := bc BK128 3; have hcz35_4 : w33.cell? ⟨gb128, 4, none⟩ = some (.int .i64 0) := bc BK128 4; have hfz35_0 := blk_frozen BK128.out 0; have hfz35_1 := blk_frozen BK128.out 1; have hfz35_2 := blk_frozen BK128.out 2; have hfz35_3 := blk_frozen BK128.out 3; have hfz35_4 := blk_frozen BK128.out 4; have hcz36_0 : w33.cell? ⟨gb121, 0, none⟩ = some (.int .i64 a0_0) := bc BK121 0; have hcz36_1 : w33.cell? ⟨gb121, 1, none⟩ = some (.int .i64 a0_1) := bc BK121 1; have hcz36_2 : w33.cell? ⟨gb121, 2, none⟩ = some (.int .i64 a0_2) := bc BK121 2; have hcz36_3 : w33.cell? ⟨gb121, 3, none⟩ = some (.int .i64 a0_3) := bc BK121 3; have hcz36_4 : w33.cell? ⟨gb121, 4, none⟩ = some (.int .i64 a0_4) := bc BK121 4; have hcz36_5 : w33.cell? ⟨gb121, 5, none⟩ = some (.string a0_5) := bc BK121 5; have hcz36_6 : w33.cell? ⟨gb121, 6, none⟩ = some (.string a0_6) := bc BK121 6; have hfz36_0 := blk_frozen BK121.out 0; have hfz36_1 := blk_frozen BK121.out 1; have hfz36_2 := blk_frozen BK121.out 2; have hfz36_3 := blk_frozen BK121.out 3; have hfz36_4 := blk_frozen BK121.out 4; have hfz36_5 := blk_frozen BK121.out 5; have hfz36_6 := blk_frozen BK121.out 6) | (go_at_call 21; (with_reducible refine (spec_l1In.calls a0_0 0 1023 true _ A4.out).mono ?_); rintro e w' ⟨rfl, ⟨nd, rfl⟩⟩) | (go_at_call 21; (with_reducible refine (spec_l1In.calls a0_1 0 7 true _ A6.out).mono ?_); rintro e w' ⟨rfl, ⟨nd, rfl⟩⟩) | (go_at_call 21; (with_reducible refine (spec_l1In.calls a0_2 0 255 true _ A8.out).mono ?_); rintro e w' ⟨rfl, ⟨nd, rfl⟩⟩) | (go_at_call 21; (with_reducible refine (spec_l1In.calls a0_3 0 255 true _ A10.out).mono ?_); rintro e w' ⟨rfl, ⟨nd, rfl⟩⟩) | (go_at_call 21; (with_reducible refine (spec_l1In.calls a0_4 0 27 false _ A12.out).mono ?_); rintro e w' ⟨rfl, ⟨nd, rfl⟩⟩))
         go_ret
         exact ⟨by first | rfl | (simp [errW_none, errW_some] <;> rfl) | (simp [*, errW_none, errW_some] <;> rfl), by repeat (first | (with_reducible first | exact HB.out | apply below_alloc | apply pw_below_drewN | apply below_drew1 | refine below_set ?_ GE121.out | refine below_set ?_ GE128.out) | exact HB.out)⟩
        ·rw [if_neg c29] at H
         have c29b0 : (a0_4 == 2046) = false := beq_eq_false_iff_ne.mpr c29
         have c29b1 : (a0_4 != 2046) = true := bne_iff_ne.mpr c29
         obtain rfl := Option.some.inj H
         go_enter Tryd.func15, Tryd.ntmps15
         go_wp2_with (first | ((with_reducible refine gate_dst (N := 1) rfl ?_); (try (refine gate_guard (by rfl) ?_; dsimp only)); refine box_event ?hg (N := 1) ?hd (cs := #[.int .i64 a0_0, .int .i64 a0_1, .int .i64 a0_2, .int .i64 a0_3, .int .i64 a0_4, .string a0_5, .string a0_6]) (t := 33) ?hr ?_; (case hd => rfl); (case hg => rfl); (case hr => first | (go_simp; done) | (go_simp; rfl)); intro gb121 hg w37 hbox hb; have n0_ := m_ (below_step (bN HB.out) hb); have n1_ := m_ (hbox); have n2_ := m_ ((by rw [hg]; exact (below_size (bN HB.out)) : w.heap.size ≤ gb121)); have n3_ := m_ ((by rw [hg]; exact (below_size (bN HB.out)) : w.heap.size ≤ gb121)); clear HB; have HB := n0_; have BK121 := n1_; have GW121 := n2_; have GE121 := n3_; clear n0_ n1_ n2_ n3_; clear hb hbox hg; have hcz38_0 : w37.cell? ⟨gb121, 0, none⟩ = some (.int .i64 a0_0) := bc BK121 0; have hcz38_1 : w37.cell? ⟨gb121, 1, none⟩ = some (.int .i64 a0_1) := bc BK121 1; have hcz38_2 : w37.cell? ⟨gb121, 2, none⟩ = some (.int .i64 a0_2) := bc BK121 2; have hcz38_3 : w37.cell? ⟨gb121, 3, none⟩ = some (.int .i64 a0_3) := bc BK121 3; have hcz38_4 : w37.cell? ⟨gb121, 4, none⟩ = some (.int .i64 a0_4) := bc BK121 4; have hcz38_5 : w37.cell? ⟨gb121, 5, none⟩ = some (.string a0_5) := bc BK121 5; have hcz38_6 : w37.cell? ⟨gb121, 6, none⟩ = some (.string a0_6) := bc BK121 6; have hfz38_0 := blk_frozen BK121.out 0; have hfz38_1 := blk_frozen BK121.out 1; have hfz38_2 := blk_frozen BK121.out 2; have hfz38_3 := blk_frozen BK121.out 3; have hfz38_4 := blk_frozen BK121.out 4; have hfz38_5 := blk_frozen BK121.out 5; have hfz38_6 := blk_frozen BK121.out 6) | ((with_reducible refine gate_callee (f := 22) rfl ?_); refine goesL_ (some 8) rfl rfl Tryd.func22 (by kernel_rfl) rfl #[.string a0_6] rfl gl_ ?_; (with_reducible refine (spec_FarmGet.calls k a0_6 t122 t123 t124 t125 t126 true _ A2.out).mono ?_); rintro e w39 ⟨rfl, hb⟩; refine ⟨_, rfl, ?_⟩; have n0_ := m_ (blk_below (kN BK121.out) hb); have n1_ := m_ (below_step (bN HB.out) hb); clear BK121; clear HB; have BK121 := n0_; have HB := n1_; clear n0_ n1_; (try clear hb); (try clear hb2); (try clear hk); (try clear hi)) | ((with_reducible refine gate_dst (N := 3) rfl ?_); (try (refine gate_guard (by rfl) ?_; dsimp only)); refine box_event ?hg (N := 3) ?hd (cs := #[.bool false, .bool false, .bool false, .int .i64 0, .int .i64 0]) (t := 48) ?hr ?_; (case hd => rfl); (case hg => rfl); (case hr => first | (go_simp; done) | (go_simp; rfl)); intro gb128 hg w40 hbox hb; have n0_ := m_ (blk_below (kN BK121.out) hb); have n1_ := m_ (below_step (bN HB.out) hb); have n2_ := m_ (hbox); have n3_ := m_ ((by rw [hg]; exact (below_size (bN HB.out)) : w.heap.size ≤ gb128)); have n4_ := m_ ((by rw [hg]; exact (below_size (bN HB.out)) : w.heap.size ≤ gb128)); have n5_ := m_ (nL hg BK121.out); have n6_ := m_ (nG hg BK121.out); clear BK121; clear HB; have BK121 := n0_; have HB := n1_; have BK128 := n2_; have GW128 := n3_; have GE128 := n4_; have NB121_128 := n5_; have NB128_121 := n6_; clear n0_ n1_ n2_ n3_ n4_ n5_ n6_; clear hb hbox hg; have hnb41 := NB128_121.out; have hnc41 := NB121_128.out; have hcz42_0 : w40.cell? ⟨gb128, 0, none⟩ = some (.bool false) := bc BK128 0; have hcz42_1 : w40.cell? ⟨gb128, 1, none⟩ = some (.bool false) := bc BK128 1; have hcz42_2 : w40.cell? ⟨gb128, 2, none⟩ = some (.bool false) := bc BK128 2; have hcz42_3 : w40.cell? ⟨gb128, 3, none⟩ = some (.int .i64 0) := bc BK128 3; have hcz42_4 : w40.cell? ⟨gb128, 4, none⟩ = some (.int .i64 0) := bc BK128 4; have hfz42_0 := blk_frozen BK128.out 0; have hfz42_1 := blk_frozen BK128.out 1; have hfz42_2 := blk_frozen BK128.out 2; have hfz42_3 := blk_frozen BK128.out 3; have hfz42_4 := blk_frozen BK128.out 4; have hcz43_0 : w40.cell? ⟨gb121, 0, none⟩ = some (.int .i64 a0_0) := bc BK121 0; have hcz43_1 : w40.cell? ⟨gb121, 1, none⟩ = some (.int .i64 a0_1) := bc BK121 1; have hcz43_2 : w40.cell? ⟨gb121, 2, none⟩ = some (.int .i64 a0_2) := bc BK121 2; have hcz43_3 : w40.cell? ⟨gb121, 3, none⟩ = some (.int .i64 a0_3) := bc BK121 3; have hcz43_4 : w40.cell? ⟨gb121, 4, none⟩ = some (.int .i64 a0_4) := bc BK121 4; have hcz43_5 : w40.cell? ⟨gb121, 5, none⟩ = some (.string a0_5) := bc BK121 5; have hcz43_6 : w40.cell? ⟨gb121, 6, none⟩ = some (.string a0_6) := bc BK121 6; have hfz43_0 := blk_frozen BK121.out 0; have hfz43_1 := blk_frozen BK121.out 1; have hfz43_2 := blk_frozen BK121.out 2; have hfz43_3 := blk_frozen BK121.out 3; have hfz43_4 := blk_frozen BK121.out 4; have hfz43_5 := blk_frozen BK121.out 5; have hfz43_6 := blk_frozen BK121.out 6) | (go_at_call 21; (with_reducible refine (spec_l1In.calls a0_0 0 1023 true _ A4.out).mono ?_); rintro e w' ⟨rfl, ⟨nd, rfl⟩⟩) | (go_at_call 21; (with_reducible refine (spec_l1In.calls a0_1 0 7 true _ A6.out).mono ?_); rintro e w' ⟨rfl, ⟨nd, rfl⟩⟩) | (go_at_call 21; (with_reducible refine (spec_l1In.calls a0_2 0 255 true _ A8.out).mono ?_); rintro e w' ⟨rfl, ⟨nd, rfl⟩⟩) | (go_at_call 21; (with_reducible refine (spec_l1In.calls a0_3 0 255 true _ A10.out).mono ?_); rintro e w' ⟨rfl, ⟨nd, rfl⟩⟩) | (go_at_call 21; (with_reducible refine (spec_l1In.calls a0_4 0 27 false _ A12.out).mono ?_); rintro e w' ⟨rfl, ⟨nd, rfl⟩⟩))
         go_ret
         exact ⟨by first | rfl | (simp [errW_none, errW_some] <;> rfl) | (simp [*, errW_none, errW_some] <;> rfl), by repeat (first | (with_reducible first | exact HB.out | apply below_alloc | apply pw_below_drewN | apply below_drew1 | refine below_set ?_ GE121.out | refine below_set ?_ GE128.out) | exact HB.out)⟩
     ·replace c11 := Bool.eq_false_iff.mpr c11
      subst c11
      have H1 : (some false) = some r := by rw [if_neg (show ¬ (false = true) by decide)] at H; exact H
      clear H
      have H := H1
      clear H1
      obtain rfl := Option.some.inj H
      go_enter Tryd.func15, Tryd.ntmps15
      go_wp2_with (first | ((with_reducible refine gate_dst (N := 1) rfl ?_); (try (refine gate_guard (by rfl) ?_; dsimp only)); refine box_event ?hg (N := 1) ?hd (cs := #[.int .i64 a0_0, .int .i64 a0_1, .int .i64 a0_2, .int .i64 a0_3, .int .i64 a0_4, .string a0_5, .string a0_6]) (t := 33) ?hr ?_; (case hd => rfl); (case hg => rfl); (case hr => first | (go_simp; done) | (go_simp; rfl)); intro gb121 hg w44 hbox hb; have n0_ := m_ (below_step (bN HB.out) hb); have n1_ := m_ (hbox); have n2_ := m_ ((by rw [hg]; exact (below_size (bN HB.out)) : w.heap.size ≤ gb121)); have n3_ := m_ ((by rw [hg]; exact (below_size (bN HB.out)) : w.heap.size ≤ gb121)); clear HB; have HB := n0_; have BK121 := n1_; have GW121 := n2_; have GE121 := n3_; clear n0_ n1_ n2_ n3_; clear hb hbox hg; have hcz45_0 : w44.cell? ⟨gb121, 0, none⟩ = some (.int .i64 a0_0) := bc BK121 0; have hcz45_1 : w44.cell? ⟨gb121, 1, none⟩ = some (.int .i64 a0_1) := bc BK121 1; have hcz45_2 : w44.cell? ⟨gb121, 2, none⟩ = some (.int .i64 a0_2) := bc BK121 2; have hcz45_3 : w44.cell? ⟨gb121, 3, none⟩ = some (.int .i64 a0_3) := bc BK121 3; have hcz45_4 : w44.cell? ⟨gb121, 4, none⟩ = some (.int .i64 a0_4) := bc BK121 4; have hcz45_5 : w44.cell? ⟨gb121, 5, none⟩ = some (.string a0_5) := bc BK121 5; have hcz45_6 : w44.cell? ⟨gb121, 6, none⟩ = some (.string a0_6) := bc BK121 6; have hfz45_0 := blk_frozen BK121.out 0; have hfz45_1 := blk_frozen BK121.out 1; have hfz45_2 := blk_frozen BK121.out 2; have hfz45_3 := blk_frozen BK121.out 3; have hfz45_4 := blk_frozen BK121.out 4; have hfz45_5 := blk_frozen BK121.out 5; have hfz45_6 := blk_frozen BK121.out 6) | ((with_reducible refine gate_callee (f := 22) rfl ?_); refine goesL_ (some 8) rfl rfl Tryd.func22 (by kernel_rfl) rfl #[.string a0_6] rfl gl_ ?_; (with_reducible refine (spec_FarmGet.calls k a0_6 t122 t123 t124 t125 t126 true _ A2.out).mono ?_); rintro e w46 ⟨rfl, hb⟩; refine ⟨_, rfl, ?_⟩; have n0_ := m_ (blk_below (kN BK121.out) hb); have n1_ := m_ (below_step (bN HB.out) hb); clear BK121; clear HB; have BK121 := n0_; have HB := n1_; clear n0_ n1_; (try clear hb); (try clear hb2); (try clear hk); (try clear hi)) | ((with_reducible refine gate_dst (N := 3) rfl ?_); (try (refine gate_guard (by rfl) ?_; dsimp only)); refine box_event ?hg (N := 3) ?hd (cs := #[.bool false, .bool false, .bool false, .int .i64 0, .int .i64 0]) (t := 48) ?hr ?_; (case hd => rfl); (case hg => rfl); (case hr => first | (go_simp; done) | (go_simp; rfl)); intro gb128 hg w47 hbox hb; have n0_ := m_ (blk_below (kN BK121.out) hb); have n1_ := m_ (below_step (bN HB.out) hb); have n2_ := m_ (hbox); have n3_ := m_ ((by rw [hg]; exact (below_size (bN HB.out)) : w.heap.size ≤ gb128)); have n4_ := m_ ((by rw [hg]; exact (below_size (bN HB.out)) : w.heap.size ≤ gb128)); have n5_ := m_ (nL hg BK121.out); have n6_ := m_ (nG hg BK121.out); clear BK121; clear HB; have BK121 := n0_; have HB := n1_; have BK128 := n2_; have GW128 := n3_; have GE128 := n4_; have NB121_128 := n5_; have NB128_121 := n6_; clear n0_ n1_ n2_ n3_ n4_ n5_ n6_; clear hb hbox hg; have hnb48 := NB128_121.out; have hnc48 := NB121_128.out; have hcz49_0 : w47.cell? ⟨gb128, 0, none⟩ = some (.bool false) := bc BK128 0; have hcz49_1 : w47.cell? ⟨gb128, 1, none⟩ = some (.bool false) := bc BK128 1; have hcz49_2 : w47.cell? ⟨gb128, 2, none⟩ = some (.bool false) := bc BK128 2; have hcz49_3 : w47.cell? ⟨gb128, 3, none⟩ = some (.int .i64 0) := bc BK128 3; have hcz49_4 : w47.cell? ⟨gb128, 4, none⟩ = some (.int .i64 0) := bc BK128 4; have hfz49_0 := blk_frozen BK128.out 0; have hfz49_1 := blk_frozen BK128.out 1; have hfz49_2 := blk_frozen BK128.out 2; have hfz49_3 := blk_frozen BK128.out 3; have hfz49_4 := blk_frozen BK128.out 4; have hcz50_0 : w47.cell? ⟨gb121, 0, none⟩ = some (.int .i64 a0_0) := bc BK121 0; have hcz50_1 : w47.cell? ⟨gb121, 1, none⟩ = some (.int .i64 a0_1) := bc BK121 1; have hcz50_2 : w47.cell? ⟨gb121, 2, none⟩ = some (.int .i64 a0_2) := bc BK121 2; have hcz50_3 : w47.cell? ⟨gb121, 3, none⟩ = some (.int .i64 a0_3) := bc BK121 3; have hcz50_4 : w47.cell? ⟨gb121, 4, none⟩ = some (.int .i64 a0_4) := bc BK121 4; have hcz50_5 : w47.cell? ⟨gb121, 5, none⟩ = some (.string a0_5) := bc BK121 5; have hcz50_6 : w47.cell? ⟨gb121, 6, none⟩ = some (.string a0_6) := bc BK121 6; have hfz50_0 := blk_frozen BK121.out 0; have hfz50_1 := blk_frozen BK121.out 1; have hfz50_2 := blk_frozen BK121.out 2; have hfz50_3 := blk_frozen BK121.out 3; have hfz50_4 := blk_frozen BK121.out 4; have hfz50_5 := blk_frozen BK121.out 5; have hfz50_6 := blk_frozen BK121.out 6) | (go_at_call 21; (with_reducible refine (spec_l1In.calls a0_0 0 1023 true _ A4.out).mono ?_); rintro e w' ⟨rfl, ⟨nd, rfl⟩⟩) | (go_at_call 21; (with_reducible refine (spec_l1In.calls a0_1 0 7 true _ A6.out).mono ?_); rintro e w' ⟨rfl, ⟨nd, rfl⟩⟩) | (go_at_call 21; (with_reducible refine (spec_l1In.calls a0_2 0 255 true _ A8.out).mono ?_); rintro e w' ⟨rfl, ⟨nd, rfl⟩⟩) | (go_at_call 21; (with_reducible refine (spec_l1In.calls a0_3 0 255 false _ A10.out).mono ?_); rintro e w' ⟨rfl, ⟨nd, rfl⟩⟩))
      go_ret
      exact ⟨by first | rfl | (simp [errW_none, errW_some] <;> rfl) | (simp [*, errW_none, errW_some] <;> rfl), by repeat (first | (with_reducible first | exact HB.out | apply below_alloc | apply pw_below_drewN | apply below_drew1 | refine below_set ?_ GE121.out | refine below_set ?_ GE128.out) | exact HB.out)⟩
    ·replace c9 := Bool.eq_false_iff.mpr c9
     subst c9
     have H1 : (some false) = some r := by rw [if_neg (show ¬ (false = true) by decide)] at H; exact H
     clear H
     have H := H1
     clear H1
     obtain rfl := Option.some.inj H
     go_enter Tryd.func15, Tryd.ntmps15
     go_wp2_with (first | ((with_reducible refine gate_dst (N := 1) rfl ?_); (try (refine gate_guard (by rfl) ?_; dsimp only)); refine box_event ?hg (N := 1) ?hd (cs := #[.int .i64 a0_0, .int .i64 a0_1, .int .i64 a0_2, .int .i64 a0_3, .int .i64 a0_4, .string a0_5, .string a0_6]) (t := 33) ?hr ?_; (case hd => rfl); (case hg => rfl); (case hr => first | (go_simp; done) | (go_simp; rfl)); intro gb121 hg w51 hbox hb; have n0_ := m_ (below_step (bN HB.out) hb); have n1_ := m_ (hbox); have n2_ := m_ ((by rw [hg]; exact (below_size (bN HB.out)) : w.heap.size ≤ gb121)); have n3_ := m_ ((by rw [hg]; exact (below_size (bN HB.out)) : w.heap.size ≤ gb121)); clear HB; have HB := n0_; have BK121 := n1_; have GW121 := n2_; have GE121 := n3_; clear n0_ n1_ n2_ n3_; clear hb hbox hg; have hcz52_0 : w51.cell? ⟨gb121, 0, none⟩ = some (.int .i64 a0_0) := bc BK121 0; have hcz52_1 : w51.cell? ⟨gb121, 1, none⟩ = some (.int .i64 a0_1) := bc BK121 1; have hcz52_2 : w51.cell? ⟨gb121, 2, none⟩ = some (.int .i64 a0_2) := bc BK121 2; have hcz52_3 : w51.cell? ⟨gb121, 3, none⟩ = some (.int .i64 a0_3) := bc BK121 3; have hcz52_4 : w51.cell? ⟨gb121, 4, none⟩ = some (.int .i64 a0_4) := bc BK121 4; have hcz52_5 : w51.cell? ⟨gb121, 5, none⟩ = some (.string a0_5) := bc BK121 5; have hcz52_6 : w51.cell? ⟨gb121, 6, none⟩ = some (.string a0_6) := bc BK121 6; have hfz52_0 := blk_frozen BK121.out 0; have hfz52_1 := blk_frozen BK121.out 1; have hfz52_2 := blk_frozen BK121.out 2; have hfz52_3 := blk_frozen BK121.out 3; have hfz52_4 := blk_frozen BK121.out 4; have hfz52_5 := blk_frozen BK121.out 5; have hfz52_6 := blk_frozen BK121.out 6) | ((with_reducible refine gate_callee (f := 22) rfl ?_); refine goesL_ (some 8) rfl rfl Tryd.func22 (by kernel_rfl) rfl #[.string a0_6] rfl gl_ ?_; (with_reducible refine (spec_FarmGet.calls k a0_6 t122 t123 t124 t125 t126 true _ A2.out).mono ?_); rintro e w53 ⟨rfl, hb⟩; refine ⟨_, rfl, ?_⟩; have n0_ := m_ (blk_below (kN BK121.out) hb); have n1_ := m_ (below_step (bN HB.out) hb); clear BK121; clear HB; have BK121 := n0_; have HB := n1_; clear n0_ n1_; (try clear hb); (try clear hb2); (try clear hk); (try clear hi)) | ((with_reducible refine gate_dst (N := 3) rfl ?_); (try (refine gate_guard (by rfl) ?_; dsimp only)); refine box_event ?hg (N := 3) ?hd (cs := #[.bool false, .bool false, .bool false, .int .i64 0, .int .i64 0]) (t := 48) ?hr ?_; (case hd => rfl); (case hg => rfl); (case hr => first | (go_simp; done) | (go_simp; rfl)); intro gb128 hg w54 hbox hb; have n0_ := m_ (blk_below (kN BK121.out) hb); have n1_ := m_ (below_step (bN HB.out) hb); have n2_ := m_ (hbox); have n3_ := m_ ((by rw [hg]; exact (below_size (bN HB.out)) : w.heap.size ≤ gb128)); have n4_ := m_ ((by rw [hg]; exact (below_size (bN HB.out)) : w.heap.size ≤ gb128)); have n5_ := m_ (nL hg BK121.out); have n6_ := m_ (nG hg BK121.out); clear BK121; clear HB; have BK121 := n0_; have HB := n1_; have BK128 := n2_; have GW128 := n3_; have GE128 := n4_; have NB121_128 := n5_; have NB128_121 := n6_; clear n0_ n1_ n2_ n3_ n4_ n5_ n6_; clear hb hbox hg; have hnb55 := NB128_121.out; have hnc55 := NB121_128.out; have hcz56_0 : w54.cell? ⟨gb128, 0, none⟩ = some (.bool false) := bc BK128 0; have hcz56_1 : w54.cell? ⟨gb128, 1, none⟩ = some (.bool false) := bc BK128 1; have hcz56_2 : w54.cell? ⟨gb128, 2, none⟩ = some (.bool false) := bc BK128 2; have hcz56_3 : w54.cell? ⟨gb128, 3, none⟩ = some (.int .i64 0) := bc BK128 3; have hcz56_4 : w54.cell? ⟨gb128, 4, none⟩ = some (.int .i64 0) := bc BK128 4; have hfz56_0 := blk_frozen BK128.out 0; have hfz56_1 := blk_frozen BK128.out 1; have hfz56_2 := blk_frozen BK128.out 2; have hfz56_3 := blk_frozen BK128.out 3; have hfz56_4 := blk_frozen BK128.out 4; have hcz57_0 : w54.cell? ⟨gb121, 0, none⟩ = some (.int .i64 a0_0) := bc BK121 0; have hcz57_1 : w54.cell? ⟨gb121, 1, none⟩ = some (.int .i64 a0_1) := bc BK121 1; have hcz57_2 : w54.cell? ⟨gb121, 2, none⟩ = some (.int .i64 a0_2) := bc BK121 2; have hcz57_3 : w54.cell? ⟨gb121, 3, none⟩ = some (.int .i64 a0_3) := bc BK121 3; have hcz57_4 : w54.cell? ⟨gb121, 4, none⟩ = some (.int .i64 a0_4) := bc BK121 4; have hcz57_5 : w54.cell? ⟨gb121, 5, none⟩ = some (.string a0_5) := bc BK121 5; have hcz57_6 : w54.cell? ⟨gb121, 6, none⟩ = some (.string a0_6) := bc BK121 6; have hfz57_0 := blk_frozen BK121.out 0; have hfz57_1 := blk_frozen BK121.out 1; have hfz57_2 := blk_frozen BK121.out 2; have hfz57_3 := blk_frozen BK121.out 3; have hfz57_4 := blk_frozen BK121.out 4; have hfz57_5 := blk_frozen BK121.out 5; have hfz57_6 := blk_frozen BK121.out 6) | (go_at_call 21; (with_reducible refine (spec_l1In.calls a0_0 0 1023 true _ A4.out).mono ?_); rintro e w' ⟨rfl, ⟨nd, rfl⟩⟩) | (go_at_call 21; (with_reducible refine (spec_l1In.calls a0_1 0 7 true _ A6.out).mono ?_); rintro e w' ⟨rfl, ⟨nd, rfl⟩⟩) | (go_at_call 21; (with_reducible refine (spec_l1In.calls a0_2 0 255 false _ A8.out).mono ?_); rintro e w' ⟨rfl, ⟨nd, rfl⟩⟩))
     go_ret
     exact ⟨by first | rfl | (simp [errW_none, errW_some] <;> rfl) | (simp [*, errW_none, errW_some] <;> rfl), by repeat (first | (with_reducible first | exact HB.out | apply below_alloc | apply pw_below_drewN | apply below_drew1 | refine below_set ?_ GE121.out | refine below_set ?_ GE128.out) | exact HB.out)⟩
   ·replace c7 := Bool.eq_false_iff.mpr c7
    subst c7
    have H1 : (some false) = some r := by rw [if_neg (show ¬ (false = true) by decide)] at H; exact H
    clear H
    have H := H1
    clear H1
    obtain rfl := Option.some.inj H
    go_enter Tryd.func15, Tryd.ntmps15
    go_wp2_with (first | ((with_reducible refine gate_dst (N := 1) rfl ?_); (try (refine gate_guard (by rfl) ?_; dsimp only)); refine box_event ?hg (N := 1) ?hd (cs := #[.int .i64 a0_0, .int .i64 a0_1, .int .i64 a0_2, .int .i64 a0_3, .int .i64 a0_4, .string a0_5, .string a0_6]) (t := 33) ?hr ?_; (case hd => rfl); (case hg => rfl); (case hr => first | (go_simp; done) | (go_simp; rfl)); intro gb121 hg w58 hbox hb; have n0_ := m_ (below_step (bN HB.out) hb); have n1_ := m_ (hbox); have n2_ := m_ ((by rw [hg]; exact (below_size (bN HB.out)) : w.heap.size ≤ gb121)); have n3_ := m_ ((by rw [hg]; exact (below_size (bN HB.out)) : w.heap.size ≤ gb121)); clear HB; have HB := n0_; have BK121 := n1_; have GW121 := n2_; have GE121 := n3_; clear n0_ n1_ n2_ n3_; clear hb hbox hg; have hcz59_0 : w58.cell? ⟨gb121, 0, none⟩ = some (.int .i64 a0_0) := bc BK121 0; have hcz59_1 : w58.cell? ⟨gb121, 1, none⟩ = some (.int .i64 a0_1) := bc BK121 1; have hcz59_2 : w58.cell? ⟨gb121, 2, none⟩ = some (.int .i64 a0_2) := bc BK121 2; have hcz59_3 : w58.cell? ⟨gb121, 3, none⟩ = some (.int .i64 a0_3) := bc BK121 3; have hcz59_4 : w58.cell? ⟨gb121, 4, none⟩ = some (.int .i64 a0_4) := bc BK121 4; have hcz59_5 : w58.cell? ⟨gb121, 5, none⟩ = some (.string a0_5) := bc BK121 5; have hcz59_6 : w58.cell? ⟨gb121, 6, none⟩ = some (.string a0_6) := bc BK121 6; have hfz59_0 := blk_frozen BK121.out 0; have hfz59_1 := blk_frozen BK121.out 1; have hfz59_2 := blk_frozen BK121.out 2; have hfz59_3 := blk_frozen BK121.out 3; have hfz59_4 := blk_frozen BK121.out 4; have hfz59_5 := blk_frozen BK121.out 5; have hfz59_6 := blk_frozen BK121.out 6) | ((with_reducible refine gate_callee (f := 22) rfl ?_); refine goesL_ (some 8) rfl rfl Tryd.func22 (by kernel_rfl) rfl #[.string a0_6] rfl gl_ ?_; (with_reducible refine (spec_FarmGet.calls k a0_6 t122 t123 t124 t125 t126 true _ A2.out).mono ?_); rintro e w60 ⟨rfl, hb⟩; refine ⟨_, rfl, ?_⟩; have n0_ := m_ (blk_below (kN BK121.out) hb); have n1_ := m_ (below_step (bN HB.out) hb); clear BK121; clear HB; have BK121 := n0_; have HB := n1_; clear n0_ n1_; (try clear hb); (try clear hb2); (try clear hk); (try clear hi)) | ((with_reducible refine gate_dst (N := 3) rfl ?_); (try (refine gate_guard (by rfl) ?_; dsimp only)); refine box_event ?hg (N := 3) ?hd (cs := #[.bool false, .bool false, .bool false, .int .i64 0, .int .i64 0]) (t := 48) ?hr ?_; (case hd => rfl); (case hg => rfl); (case hr => first | (go_simp; done) | (go_simp; rfl)); intro gb128 hg w61 hbox hb; have n0_ := m_ (blk_below (kN BK121.out) hb); have n1_ := m_ (below_step (bN HB.out) hb); have n2_ := m_ (hbox); have n3_ := m_ ((by rw [hg]; exact (below_size (bN HB.out)) : w.heap.size ≤ gb128)); have n4_ := m_ ((by rw [hg]; exact (below_size (bN HB.out)) : w.heap.size ≤ gb128)); have n5_ := m_ (nL hg BK121.out); have n6_ := m_ (nG hg BK121.out); clear BK121; clear HB; have BK121 := n0_; have HB := n1_; have BK128 := n2_; have GW128 := n3_; have GE128 := n4_; have NB121_128 := n5_; have NB128_121 := n6_; clear n0_ n1_ n2_ n3_ n4_ n5_ n6_; clear hb hbox hg; have hnb62 := NB128_121.out; have hnc62 := NB121_128.out; have hcz63_0 : w61.cell? ⟨gb128, 0, none⟩ = some (.bool false) := bc BK128 0; have hcz63_1 : w61.cell? ⟨gb128, 1, none⟩ = some (.bool false) := bc BK128 1; have hcz63_2 : w61.cell? ⟨gb128, 2, none⟩ = some (.bool false) := bc BK128 2; have hcz63_3 : w61.cell? ⟨gb128, 3, none⟩ = some (.int .i64 0) := bc BK128 3; have hcz63_4 : w61.cell? ⟨gb128, 4, none⟩ = some (.int .i64 0) := bc BK128 4; have hfz63_0 := blk_frozen BK128.out 0; have hfz63_1 := blk_frozen BK128.out 1; have hfz63_2 := blk_frozen BK128.out 2; have hfz63_3 := blk_frozen BK128.out 3; have hfz63_4 := blk_frozen BK128.out 4; have hcz64_0 : w61.cell? ⟨gb121, 0, none⟩ = some (.int .i64 a0_0) := bc BK121 0; have hcz64_1 : w61.cell? ⟨gb121, 1, none⟩ = some (.int .i64 a0_1) := bc BK121 1; have hcz64_2 : w61.cell? ⟨gb121, 2, none⟩ = some (.int .i64 a0_2) := bc BK121 2; have hcz64_3 : w61.cell? ⟨gb121, 3, none⟩ = some (.int .i64 a0_3) := bc BK121 3; have hcz64_4 : w61.cell? ⟨gb121, 4, none⟩ = some (.int .i64 a0_4) := bc BK121 4; have hcz64_5 : w61.cell? ⟨gb121, 5, none⟩ = some (.string a0_5) := bc BK121 5; have hcz64_6 : w61.cell? ⟨gb121, 6, none⟩ = some (.string a0_6) := bc BK121 6; have hfz64_0 := blk_frozen BK121.out 0; have hfz64_1 := blk_frozen BK121.out 1; have hfz64_2 := blk_frozen BK121.out 2; have hfz64_3 := blk_frozen BK121.out 3; have hfz64_4 := blk_frozen BK121.out 4; have hfz64_5 := blk_frozen BK121.out 5; have hfz64_6 := blk_frozen BK121.out 6) | (go_at_call 21; (with_reducible refine (spec_l1In.calls a0_0 0 1023 true _ A4.out).mono ?_); rintro e w' ⟨rfl, ⟨nd, rfl⟩⟩) | (go_at_call 21; (with_reducible refine (spec_l1In.calls a0_1 0 7 false _ A6.out).mono ?_); rintro e w' ⟨rfl, ⟨nd, rfl⟩⟩))
    go_ret
    exact ⟨by first | rfl | (simp [errW_none, errW_some] <;> rfl) | (simp [*, errW_none, errW_some] <;> rfl), by repeat (first | (with_reducible first | exact HB.out | apply below_alloc | apply pw_below_drewN | apply below_drew1 | refine below_set ?_ GE121.out | refine below_set ?_ GE128.out) | exact HB.out)⟩
  ·replace c5 := Bool.eq_false_iff.mpr c5
   subst c5
   have H1 : (some false) = some r := by rw [if_neg (show ¬ (false = true) by decide)] at H; exact H
   clear H
   have H := H1
   clear H1
   obtain rfl := Option.some.inj H
   go_enter Tryd.func15, Tryd.ntmps15
   go_wp2_with (first | ((with_reducible refine gate_dst (N := 1) rfl ?_); (try (refine gate_guard (by rfl) ?_; dsimp only)); refine box_event ?hg (N := 1) ?hd (cs := #[.int .i64 a0_0, .int .i64 a0_1, .int .i64 a0_2, .int .i64 a0_3, .int .i64 a0_4, .string a0_5, .string a0_6]) (t := 33) ?hr ?_; (case hd => rfl); (case hg => rfl); (case hr => first | (go_simp; done) | (go_simp; rfl)); intro gb121 hg w65 hbox hb; have n0_ := m_ (below_step (bN HB.out) hb); have n1_ := m_ (hbox); have n2_ := m_ ((by rw [hg]; exact (below_size (bN HB.out)) : w.heap.size ≤ gb121)); have n3_ := m_ ((by rw [hg]; exact (below_size (bN HB.out)) : w.heap.size ≤ gb121)); clear HB; have HB := n0_; have BK121 := n1_; have GW121 := n2_; have GE121 := n3_; clear n0_ n1_ n2_ n3_; clear hb hbox hg; have hcz66_0 : w65.cell? ⟨gb121, 0, none⟩ = some (.int .i64 a0_0) := bc BK121 0; have hcz66_1 : w65.cell? ⟨gb121, 1, none⟩ = some (.int .i64 a0_1) := bc BK121 1; have hcz66_2 : w65.cell? ⟨gb121, 2, none⟩ = some (.int .i64 a0_2) := bc BK121 2; have hcz66_3 : w65.cell? ⟨gb121, 3, none⟩ = some (.int .i64 a0_3) := bc BK121 3; have hcz66_4 : w65.cell? ⟨gb121, 4, none⟩ = some (.int .i64 a0_4) := bc BK121 4; have hcz66_5 : w65.cell? ⟨gb121, 5, none⟩ = some (.string a0_5) := bc BK121 5; have hcz66_6 : w65.cell? ⟨gb121, 6, none⟩ = some (.string a0_6) := bc BK121 6; have hfz66_0 := blk_frozen BK121.out 0; have hfz66_1 := blk_frozen BK121.out 1; have hfz66_2 := blk_frozen BK121.out 2; have hfz66_3 := blk_frozen BK121.out 3; have hfz66_4 := blk_frozen BK121.out 4; have hfz66_5 := blk_frozen BK121.out 5; have hfz66_6 := blk_frozen BK121.out 6) | ((with_reducible refine gate_callee (f := 22) rfl ?_); refine goesL_ (some 8) rfl rfl Tryd.func22 (by kernel_rfl) rfl #[.string a0_6] rfl gl_ ?_; (with_reducible refine (spec_FarmGet.calls k a0_6 t122 t123 t124 t125 t126 true _ A2.out).mono ?_); rintro e w67 ⟨rfl, hb⟩; refine ⟨_, rfl, ?_⟩; have n0_ := m_ (blk_below (kN BK121.out) hb); have n1_ := m_ (below_step (bN HB.out) hb); clear BK121; clear HB; have BK121 := n0_; have HB := n1_; clear n0_ n1_; (try clear hb); (try clear hb2); (try clear hk); (try clear hi)) | ((with_reducible refine gate_dst (N := 3) rfl ?_); (try (refine gate_guard (by rfl) ?_; dsimp only)); refine box_event ?hg (N := 3) ?hd (cs := #[.bool false, .bool false, .bool false, .int .i64 0, .int .i64 0]) (t := 48) ?hr ?_; (case hd => rfl); (case hg => rfl); (case hr => first | (go_simp; done) | (go_simp; rfl)); intro gb128 hg w68 hbox hb; have n0_ := m_ (blk_below (kN BK121.out) hb); have n1_ := m_ (below_step (bN HB.out) hb); have n2_ := m_ (hbox); have n3_ := m_ ((by rw [hg]; exact (below_size (bN HB.out)) : w.heap.size ≤ gb128)); have n4_ := m_ ((by rw [hg]; exact (below_size (bN HB.out)) : w.heap.size ≤ gb128)); have n5_ := m_ (nL hg BK121.out); have n6_ := m_ (nG hg BK121.out); clear BK121; clear HB; have BK121 := n0_; have HB := n1_; have BK128 := n2_; have GW128 := n3_; have GE128 := n4_; have NB121_128 := n5_; have NB128_121 := n6_; clear n0_ n1_ n2_ n3_ n4_ n5_ n6_; clear hb hbox hg; have hnb69 := NB128_121.out; have hnc69 := NB121_128.out; have hcz70_0 : w68.cell? ⟨gb128, 0, none⟩ = some (.bool false) := bc BK128 0; have hcz70_1 : w68.cell? ⟨gb128, 1, none⟩ = some (.bool false) := bc BK128 1; have hcz70_2 : w68.cell? ⟨gb128, 2, none⟩ = some (.bool false) := bc BK128 2; have hcz70_3 : w68.cell? ⟨gb128, 3, none⟩ = some (.int .i64 0) := bc BK128 3; have hcz70_4 : w68.cell? ⟨gb128, 4, none⟩ = some (.int .i64 0) := bc BK128 4; have hfz70_0 := blk_frozen BK128.out 0; have hfz70_1 := blk_frozen BK128.out 1; have hfz70_2 := blk_frozen BK128.out 2; have hfz70_3 := blk_frozen BK128.out 3; have hfz70_4 := blk_frozen BK128.out 4; have hcz71_0 : w68.cell? ⟨gb121, 0, none⟩ = some (.int .i64 a0_0) := bc BK121 0; have hcz71_1 : w68.cell? ⟨gb121, 1, none⟩ = some (.int .i64 a0_1) := bc BK121 1; have hcz71_2 : w68.cell? ⟨gb121, 2, none⟩ = some (.int .i64 a0_2) := bc BK121 2; have hcz71_3 : w68.cell? ⟨gb121, 3, none⟩ = some (.int .i64 a0_3) := bc BK121 3; have hcz71_4 : w68.cell? ⟨gb121, 4, none⟩ = some (.int .i64 a0_4) := bc BK121 4; have hcz71_5 : w68.cell? ⟨gb121, 5, none⟩ = some (.string a0_5) := bc BK121 5; have hcz71_6 : w68.cell? ⟨gb121, 6, none⟩ = some (.string a0_6) := bc BK121 6; have hfz71_0 := blk_frozen BK121.out 0; have hfz71_1 := blk_frozen BK121.out 1; have hfz71_2 := blk_frozen BK121.out 2; have hfz71_3 := blk_frozen BK121.out 3; have hfz71_4 := blk_frozen BK121.out 4; have hfz71_5 := blk_frozen BK121.out 5; have hfz71_6 := blk_frozen BK121.out 6) | (go_at_call 21; (with_reducible refine (spec_l1In.calls a0_0 0 1023 false _ A4.out).mono ?_); rintro e w' ⟨rfl, ⟨nd, rfl⟩⟩))
   go_ret
   exact ⟨by first | rfl | (simp [errW_none, errW_some] <;> rfl) | (simp [*, errW_none, errW_some] <;> rfl), by repeat (first | (with_reducible first | exact HB.out | apply below_alloc | apply pw_below_drewN | apply below_drew1 | refine below_set ?_ GE121.out | refine below_set ?_ GE128.out) | exact HB.out)⟩
 ·replace c3 := Bool.eq_false_iff.mpr c3
  subst c3
  have H1 : (some false) = some r := by rw [if_neg (show ¬ (false = true) by decide)] at H; exact H
  clear H
  have H := H1
  clear H1
  obtain rfl := Option.some.inj H
  go_enter Tryd.func15, Tryd.ntmps15
  go_wp2_with (first | ((with_reducible refine gate_dst (N := 1) rfl ?_); (try (refine gate_guard (by rfl) ?_; dsimp only)); refine box_event ?hg (N := 1) ?hd (cs := #[.int .i64 a0_0, .int .i64 a0_1, .int .i64 a0_2, .int .i64 a0_3, .int .i64 a0_4, .string a0_5, .string a0_6]) (t := 33) ?hr ?_; (case hd => rfl); (case hg => rfl); (case hr => first | (go_simp; done) | (go_simp; rfl)); intro gb121 hg w72 hbox hb; have n0_ := m_ (below_step (bN HB.out) hb); have n1_ := m_ (hbox); have n2_ := m_ ((by rw [hg]; exact (below_size (bN HB.out)) : w.heap.size ≤ gb121)); have n3_ := m_ ((by rw [hg]; exact (below_size (bN HB.out)) : w.heap.size ≤ gb121)); clear HB; have HB := n0_; have BK121 := n1_; have GW121 := n2_; have GE121 := n3_; clear n0_ n1_ n2_ n3_; clear hb hbox hg; have hcz73_0 : w72.cell? ⟨gb121, 0, none⟩ = some (.int .i64 a0_0) := bc BK121 0; have hcz73_1 : w72.cell? ⟨gb121, 1, none⟩ = some (.int .i64 a0_1) := bc BK121 1; have hcz73_2 : w72.cell? ⟨gb121, 2, none⟩ = some (.int .i64 a0_2) := bc BK121 2; have hcz73_3 : w72.cell? ⟨gb121, 3, none⟩ = some (.int .i64 a0_3) := bc BK121 3; have hcz73_4 : w72.cell? ⟨gb121, 4, none⟩ = some (.int .i64 a0_4) := bc BK121 4; have hcz73_5 : w72.cell? ⟨gb121, 5, none⟩ = some (.string a0_5) := bc BK121 5; have hcz73_6 : w72.cell? ⟨gb121, 6, none⟩ = some (.string a0_6) := bc BK121 6; have hfz73_0 := blk_frozen BK121.out 0; have hfz73_1 := blk_frozen BK121.out 1; have hfz73_2 := blk_frozen BK121.out 2; have hfz73_3 := blk_frozen BK121.out 3; have hfz73_4 := blk_frozen BK121.out 4; have hfz73_5 := blk_frozen BK121.out 5; have hfz73_6 := blk_frozen BK121.out 6) | ((with_reducible refine gate_callee (f := 22) rfl ?_); refine goesL_ (some 8) rfl rfl Tryd.func22 (by kernel_rfl) rfl #[.string a0_6] rfl gl_ ?_; (with_reducible refine (spec_FarmGet.calls k a0_6 t122 t123 t124 t125 t126 false _ A2.out).mono ?_); rintro e w74 ⟨rfl, hb⟩; refine ⟨_, rfl, ?_⟩; have n0_ := m_ (blk_below (kN BK121.out) hb); have n1_ := m_ (below_step (bN HB.out) hb); clear BK121; clear HB; have BK121 := n0_; have HB := n1_; clear n0_ n1_; (try clear hb); (try clear hb2); (try clear hk); (try clear hi)) | ((with_reducible refine gate_dst (N := 3) rfl ?_); (try (refine gate_guard (by rfl) ?_; dsimp only)); refine box_event ?hg (N := 3) ?hd (cs := #[.bool false, .bool false, .bool false, .int .i64 0, .int .i64 0]) (t := 48) ?hr ?_; (case hd => rfl); (case hg => rfl); (case hr => first | (go_simp; done) | (go_simp; rfl)); intro gb128 hg w75 hbox hb; have n0_ := m_ (blk_below (kN BK121.out) hb); have n1_ := m_ (below_step (bN HB.out) hb); have n2_ := m_ (hbox); have n3_ := m_ ((by rw [hg]; exact (below_size (bN HB.out)) : w.heap.size ≤ gb128)); have n4_ := m_ ((by rw [hg]; exact (below_size (bN HB.out)) : w.heap.size ≤ gb128)); have n5_ := m_ (nL hg BK121.out); have n6_ := m_ (nG hg BK121.out); clear BK121; clear HB; have BK121 := n0_; have HB := n1_; have BK128 := n2_; have GW128 := n3_; have GE128 := n4_; have NB121_128 := n5_; have NB128_121 := n6_; clear n0_ n1_ n2_ n3_ n4_ n5_ n6_; clear hb hbox hg; have hnb76 := NB128_121.out; have hnc76 := NB121_128.out; have hcz77_0 : w75.cell? ⟨gb128, 0, none⟩ = some (.bool false) := bc BK128 0; have hcz77_1 : w75.cell? ⟨gb128, 1, none⟩ = some (.bool false) := bc BK128 1; have hcz77_2 : w75.cell? ⟨gb128, 2, none⟩ = some (.bool false) := bc BK128 2; have hcz77_3 : w75.cell? ⟨gb128, 3, none⟩ = some (.int .i64 0) := bc BK128 3; have hcz77_4 : w75.cell? ⟨gb128, 4, none⟩ = some (.int .i64 0) := bc BK128 4; have hfz77_0 := blk_frozen BK128.out 0; have hfz77_1 := blk_frozen BK128.out 1; have hfz77_2 := blk_frozen BK128.out 2; have hfz77_3 := blk_frozen BK128.out 3; have hfz77_4 := blk_frozen BK128.out 4))
  go_ret
  exact ⟨by first | rfl | (simp [errW_none, errW_some] <;> rfl) | (simp [*, errW_none, errW_some] <;> rfl), by repeat (first | (with_reducible first | exact HB.out | apply below_alloc | apply pw_below_drewN | apply below_drew1 | refine below_set ?_ GE121.out | refine below_set ?_ GE128.out) | exact HB.out)⟩

end Go.Proofs.YtbldbjfmibhffaaDoor.P
