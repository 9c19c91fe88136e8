/- The machine side of these statements, function by function: what each Go function answers (as a Lean function), and that it does. Written by a program (mp.py) for this claim. -/
import Derived.Test.YtllchgipnfdneaaDoorPx0
import Derived.Test.YtllchgipnfdneaaDoorPx5
namespace Go.Proofs.YtllchgipnfdneaaDoor.P
open Go.RowKit Go.Proofs.YtllchgipnfdneaaDoorW.PrintWords Go.Proofs.YtllchgipnfdneaaDoorW.PrintLast Go.Proofs.YtllchgipnfdneaaDoorW.PrintMore
attribute [local go_sem] max2_int min2_int max_two min_two max_three min_three max_four min_four   -- for this text's walks alone
set_option linter.unusedVariables false
set_option linter.unusedSimpArgs false

/-! ### spec_l6Ok: function 42 -/
def spec_l6Ok.f (a0_0 : Bool) (a0_1 : Int) (a0_2 : Int) (a0_3 : ByteArray) : Option (Bool) := (spec_l1In.f a0_1 0 2047).bind fun t102 => (if t102 = true then ((spec_l1In.f a0_2 0 16383).bind fun t103 => (if t103 = true then ((spec_l1In.f (a0_3.size : Int) 1 100).bind fun t104 => (some t104)) else (some false))) else (some false))
set_option maxHeartbeats 8000000 in
set_option maxRecDepth 100000 in
theorem spec_l6Ok.calls (a0_0 : Bool) (a0_1 : Int) (a0_2 : Int) (a0_3 : ByteArray) (r : Bool) (w : World) (h : spec_l6Ok.f a0_0 a0_1 a0_2 a0_3 = some r) :
  Calls Tryd.prog 42 #[.agg #[.bool a0_0, .int .i64 a0_1, .int .i64 a0_2, .string a0_3]] w fun e w' => e = .returned (.bool r) ∧ Below w.heap.size w w' := by
 have hu23 := Tryd.underlying23
 have HB := m_ (Below.refl w.heap.size w)
 have H : ((spec_l1In.f a0_1 0 2047).bind fun t102 => (if t102 = true then ((spec_l1In.f a0_2 0 16383).bind fun t103 => (if t103 = true then ((spec_l1In.f (a0_3.size : Int) 1 100).bind fun t104 => (some t104)) else (some false))) else (some false))) = some r := h
 clear h
 replace H := Option.bind_eq_some_iff.mp H
 obtain ⟨t102, A20, H⟩ := H
 replace H : (if t102 = true then ((spec_l1In.f a0_2 0 16383).bind fun t103 => (if t103 = true then ((spec_l1In.f (a0_3.size : Int) 1 100).bind fun t104 => (some t104)) else (some false))) else (some false)) = some r := H
 have A2 := Aside0.mk A20
 clear A20
 by_cases c3 : t102 = true
 ·subst c3
  have H1 : ((spec_l1In.f a0_2 0 16383).bind fun t103 => (if t103 = true then ((spec_l1In.f (a0_3.size : Int) 1 100).bind fun t104 => (some t104)) else (some false))) = some r := by rw [if_pos rfl] at H; exact H
  clear H
  have H := H1
  clear H1
  replace H := Option.bind_eq_some_iff.mp H
  obtain ⟨t103, A40, H⟩ := H
  replace H : (if t103 = true then ((spec_l1In.f (a0_3.size : Int) 1 100).bind fun t104 => (some t104)) else (some false)) = some r := H
  have A4 := Aside0.mk A40
  clear A40
  by_cases c5 : t103 = true
  ·subst c5
   have H1 : ((spec_l1In.f (a0_3.size : Int) 1 100).bind fun t104 => (some t104)) = some r := by rw [if_pos rfl] at H; exact H
   clear H
   have H := H1
   clear H1
   replace H := Option.bind_eq_some_iff.mp H
   obtain ⟨t104, A60, H⟩ := H
   replace H : (some t104) = some r := H
   have A6 := Aside0.mk A60
   clear A60
   obtain rfl := Option.some.inj H
   go_enter Tryd.func42, Tryd.ntmps42
   go_wp2_with (first | ((with_reducible refine gate_dst (N := 1) rfl ?_); (try (refine gate_guard (by rfl) ?_; dsimp only)); refine box_event ?hg (N := 1) ?hd (cs := #[.bool a0_0, .int .i64 a0_1, .int .i64 a0_2, .string a0_3]) (t := 23) ?hr ?_; (case hd => rfl); (case hg => rfl); (case hr => first | (go_simp; done) | (go_simp; rfl)); intro gb101 hg w7 hbox hb; have n0_ := m_ (below_step (bN HB.out) hb); have n1_ := m_ (hbox); have n2_ := m_ ((by rw [hg]; exact (below_size (bN HB.out)) : w.heap.size ≤ gb101)); have n3_ := m_ ((by rw [hg]; exact (below_size (bN HB.out)) : w.heap.size ≤ gb101)); clear HB; have HB := n0_; have BK101 := n1_; have GW101 := n2_; have GE101 := n3_; clear n0_ n1_ n2_ n3_; clear hb hbox hg; have hcz8_0 : w7.cell? ⟨gb101, 0, none⟩ = some (.bool a0_0) := (blk_cell BK101.out 0).trans rfl; have hcz8_1 : w7.cell? ⟨gb101, 1, none⟩ = some (.int .i64 a0_1) := (blk_cell BK101.out 1).trans rfl; have hcz8_2 : w7.cell? ⟨gb101, 2, none⟩ = some (.int .i64 a0_2) := (blk_cell BK101.out 2).trans rfl; have hcz8_3 : w7.cell? ⟨gb101, 3, none⟩ = some (.string a0_3) := (blk_cell BK101.out 3).trans rfl; have hfz8_0 := blk_frozen BK101.out 0; have hfz8_1 := blk_frozen BK101.out 1; have hfz8_2 := blk_frozen BK101.out 2; have hfz8_3 := blk_frozen BK101.out 3) | ((with_reducible refine gate_callee (f := 31) rfl ?_); refine goesL_ (some 5) rfl rfl Tryd.func31 (by kernel_rfl) rfl #[.int .i64 a0_1, .int .i64 0, .int .i64 2047] rfl gl_ ?_; (with_reducible refine (spec_l1In.calls a0_1 0 2047 true _ A2.out).mono ?_); rintro e w' ⟨rfl, ⟨nd, rfl⟩⟩; refine ⟨_, rfl, ?_⟩) | (go_at_call 31; (with_reducible refine (spec_l1In.calls a0_2 0 16383 true _ A4.out).mono ?_); rintro e w' ⟨rfl, ⟨nd, rfl⟩⟩) | (go_at_call 31; (with_reducible refine (spec_l1In.calls (a0_3.size : Int) 1 100 t104 _ A6.out).mono ?_); rintro e w' ⟨rfl, ⟨nd, rfl⟩⟩))
   go_ret
   exact ⟨by first | rfl | (simp [errW_none, errW_some] <;> rfl) | (simp [*, errW_none, errW_some] <;> rfl), by repeat (first | (with_reducible first | exact HB.out | apply below_alloc | apply pw_below_drewN | apply below_drew1 | refine below_set ?_ GE101.out) | exact HB.out)⟩
  ·replace c5 := Bool.eq_false_iff.mpr c5
   subst c5
   have H1 : (some false) = some r := by rw [if_neg (show ¬ (false = true) by decide)] at H; exact H
   clear H
   have H := H1
   clear H1
   obtain rfl := Option.some.inj H
   go_enter Tryd.func42, Tryd.ntmps42
   go_wp2_with (first | ((with_reducible refine gate_dst (N := 1) rfl ?_); (try (refine gate_guard (by rfl) ?_; dsimp only)); refine box_event ?hg (N := 1) ?hd (cs := #[.bool a0_0, .int .i64 a0_1, .int .i64 a0_2, .string a0_3]) (t := 23) ?hr ?_; (case hd => rfl); (case hg => rfl); (case hr => first | (go_simp; done) | (go_simp; rfl)); intro gb101 hg w9 hbox hb; have n0_ := m_ (below_step (bN HB.out) hb); have n1_ := m_ (hbox); have n2_ := m_ ((by rw [hg]; exact (below_size (bN HB.out)) : w.heap.size ≤ gb101)); have n3_ := m_ ((by rw [hg]; exact (below_size (bN HB.out)) : w.heap.size ≤ gb101)); clear HB; have HB := n0_; have BK101 := n1_; have GW101 := n2_; have GE101 := n3_; clear n0_ n1_ n2_ n3_; clear hb hbox hg; have hcz10_0 : w9.cell? ⟨gb101, 0, none⟩ = some (.bool a0_0) := (blk_cell BK101.out 0).trans rfl; have hcz10_1 : w9.cell? ⟨gb101, 1, none⟩ = some (.int .i64 a0_1) := (blk_cell BK101.out 1).trans rfl; have hcz10_2 : w9.cell? ⟨gb101, 2, none⟩ = some (.int .i64 a0_2) := (blk_cell BK101.out 2).trans rfl; have hcz10_3 : w9.cell? ⟨gb101, 3, none⟩ = some (.string a0_3) := (blk_cell BK101.out 3).trans rfl; have hfz10_0 := blk_frozen BK101.out 0; have hfz10_1 := blk_frozen BK101.out 1; have hfz10_2 := blk_frozen BK101.out 2; have hfz10_3 := blk_frozen BK101.out 3) | ((with_reducible refine gate_callee (f := 31) rfl ?_); refine goesL_ (some 5) rfl rfl Tryd.func31 (by kernel_rfl) rfl #[.int .i64 a0_1, .int .i64 0, .int .i64 2047] rfl gl_ ?_; (with_reducible refine (spec_l1In.calls a0_1 0 2047 true _ A2.out).mono ?_); rintro e w' ⟨rfl, ⟨nd, rfl⟩⟩; refine ⟨_, rfl, ?_⟩) | (go_at_call 31; (with_reducible refine (spec_l1In.calls a0_2 0 16383 false _ A4.out).mono ?_); rintro e w' ⟨rfl, ⟨nd, rfl⟩⟩))
   go_ret
   exact ⟨by first | rfl | (simp [errW_none, errW_some] <;> rfl) | (simp [*, errW_none, errW_some] <;> rfl), by repeat (first | (with_reducible first | exact HB.out | apply below_alloc | apply pw_below_drewN | apply below_drew1 | refine below_set ?_ GE101.out) | exact HB.out)⟩
 ·replace c3 := Bool.eq_false_iff.mpr c3
  subst c3
  have H1 : (some false) = some r := by rw [if_neg (show ¬ (false = true) by decide)] at H; exact H
  clear H
  have H := H1
  clear H1
  obtain rfl := Option.some.inj H
  go_enter Tryd.func42, Tryd.ntmps42
  go_wp2_with (first | ((with_reducible refine gate_dst (N := 1) rfl ?_); (try (refine gate_guard (by rfl) ?_; dsimp only)); refine box_event ?hg (N := 1) ?hd (cs := #[.bool a0_0, .int .i64 a0_1, .int .i64 a0_2, .string a0_3]) (t := 23) ?hr ?_; (case hd => rfl); (case hg => rfl); (case hr => first | (go_simp; done) | (go_simp; rfl)); intro gb101 hg w11 hbox hb; have n0_ := m_ (below_step (bN HB.out) hb); have n1_ := m_ (hbox); have n2_ := m_ ((by rw [hg]; exact (below_size (bN HB.out)) : w.heap.size ≤ gb101)); have n3_ := m_ ((by rw [hg]; exact (below_size (bN HB.out)) : w.heap.size ≤ gb101)); clear HB; have HB := n0_; have BK101 := n1_; have GW101 := n2_; have GE101 := n3_; clear n0_ n1_ n2_ n3_; clear hb hbox hg; have hcz12_0 : w11.cell? ⟨gb101, 0, none⟩ = some (.bool a0_0) := (blk_cell BK101.out 0).trans rfl; have hcz12_1 : w11.cell? ⟨gb101, 1, none⟩ = some (.int .i64 a0_1) := (blk_cell BK101.out 1).trans rfl; have hcz12_2 : w11.cell? ⟨gb101, 2, none⟩ = some (.int .i64 a0_2) := (blk_cell BK101.out 2).trans rfl; have hcz12_3 : w11.cell? ⟨gb101, 3, none⟩ = some (.string a0_3) := (blk_cell BK101.out 3).trans rfl; have hfz12_0 := blk_frozen BK101.out 0; have hfz12_1 := blk_frozen BK101.out 1; have hfz12_2 := blk_frozen BK101.out 2; have hfz12_3 := blk_frozen BK101.out 3) | ((with_reducible refine gate_callee (f := 31) rfl ?_); refine goesL_ (some 5) rfl rfl Tryd.func31 (by kernel_rfl) rfl #[.int .i64 a0_1, .int .i64 0, .int .i64 2047] rfl gl_ ?_; (with_reducible refine (spec_l1In.calls a0_1 0 2047 false _ A2.out).mono ?_); rintro e w' ⟨rfl, ⟨nd, rfl⟩⟩; refine ⟨_, rfl, ?_⟩))
  go_ret
  exact ⟨by first | rfl | (simp [errW_none, errW_some] <;> rfl) | (simp [*, errW_none, errW_some] <;> rfl), by repeat (first | (with_reducible first | exact HB.out | apply below_alloc | apply pw_below_drewN | apply below_drew1 | refine below_set ?_ GE101.out) | exact HB.out)⟩

/-! ### spec_PacketPut: function 15 -/
def spec_PacketPut.f (k : Nat) (a0_0 : Bool) (a0_1 : Int) (a0_2 : Int) (a0_3 : ByteArray) : Option (ByteArray) := (spec_l6Ok.f a0_0 a0_1 a0_2 a0_3).bind fun t114 => (if t114 = true then ((spec_l6Put.f k a0_0 a0_1 a0_2 a0_3).bind fun t115 => (some t115)) else (some (⟨#[]⟩ : ByteArray)))
theorem spec_PacketPut.mono : ∀ a0 a1 a2 a3 k, LeO (spec_PacketPut.f k a0 a1 a2 a3) (spec_PacketPut.f (k + 1) a0 a1 a2 a3) := by
 intro a0 a1 a2 a3 k
 unfold spec_PacketPut.f
 repeat' first
   | (with_reducible exact spec_l6Put.mono _ _ _ _ _)
   | (with_reducible exact LeO.refl _)
   | (with_reducible exact LeO.none _)
   | (with_reducible refine LeO.ite ?_ ?_)
   | (with_reducible refine LeO.bind ?_ (fun _ => ?_))
   | exact spec_l6Put.mono _ _ _ _ _
   | exact LeO.none _
   | refine LeO.ite ?_ ?_
   | refine LeO.bind ?_ (fun _ => ?_)
set_option maxHeartbeats 8000000 in
set_option maxRecDepth 100000 in
theorem spec_PacketPut.calls (k : Nat) (a0_0 : Bool) (a0_1 : Int) (a0_2 : Int) (a0_3 : ByteArray) (r : ByteArray) (w : World) (h : spec_PacketPut.f k a0_0 a0_1 a0_2 a0_3 = some r) :
  Calls Tryd.prog 15 #[.agg #[.bool a0_0, .int .i64 a0_1, .int .i64 a0_2, .string a0_3]] w fun e w' => e = .returned (.string r) ∧ Below w.heap.size w w' := by
 have hu23 := Tryd.underlying23
 have HB := m_ (Below.refl w.heap.size w)
 have H : ((spec_l6Ok.f a0_0 a0_1 a0_2 a0_3).bind fun t114 => (if t114 = true then ((spec_l6Put.f k a0_0 a0_1 a0_2 a0_3).bind fun t115 => (some t115)) else (some (⟨#[]⟩ : ByteArray)))) = some r := h
 clear h
 replace H := Option.bind_eq_some_iff.mp H
 obtain ⟨t114, A20, H⟩ := H
 replace H : (if t114 = true then ((spec_l6Put.f k a0_0 a0_1 a0_2 a0_3).bind fun t115 => (some t115)) else (some (⟨#[]⟩ : ByteArray))) = some r := H
 have A2 := Aside0.mk A20
 clear A20
 by_cases c3 : t114 = true
 ·subst c3
  have H1 : ((spec_l6Put.f k a0_0 a0_1 a0_2 a0_3).bind fun t115 => (some t115)) = some r := by rw [if_pos rfl] at H; exact H
  clear H
  have H := H1
  clear H1
  replace H := Option.bind_eq_some_iff.mp H
  obtain ⟨t115, A40, H⟩ := H
  replace H : (some t115) = some r := H
  have A4 := Aside0.mk A40
  clear A40
  obtain rfl := Option.some.inj H
  go_enter Tryd.func15, Tryd.ntmps15
  go_wp2_with (first | ((with_reducible refine gate_dst (N := 1) rfl ?_); refine box_event ?hg (N := 1) ?hd (cs := #[.bool a0_0, .int .i64 a0_1, .int .i64 a0_2, .string a0_3]) (t := 23) ?hr ?_; (case hd => rfl); (case hg => rfl); (case hr => first | (go_simp; done) | (go_simp; rfl)); intro gb113 hg w5 hbox hb; have n0_ := m_ (below_step (bN HB.out) hb); have n1_ := m_ (hbox); have n2_ := m_ ((by rw [hg]; exact (below_size (bN HB.out)) : w.heap.size ≤ gb113)); have n3_ := m_ ((by rw [hg]; exact (below_size (bN HB.out)) : w.heap.size ≤ gb113)); clear HB; have HB := n0_; have BK113 := n1_; have GW113 := n2_; have GE113 := n3_; clear n0_ n1_ n2_ n3_; clear hb hbox hg; have hcz6_0 : w5.cell? ⟨gb113, 0, none⟩ = some (.bool a0_0) := (blk_cell BK113.out 0).trans rfl; have hcz6_1 : w5.cell? ⟨gb113, 1, none⟩ = some (.int .i64 a0_1) := (blk_cell BK113.out 1).trans rfl; have hcz6_2 : w5.cell? ⟨gb113, 2, none⟩ = some (.int .i64 a0_2) := (blk_cell BK113.out 2).trans rfl; have hcz6_3 : w5.cell? ⟨gb113, 3, none⟩ = some (.string a0_3) := (blk_cell BK113.out 3).trans rfl; have hfz6_0 := blk_frozen BK113.out 0; have hfz6_1 := blk_frozen BK113.out 1; have hfz6_2 := blk_frozen BK113.out 2; have hfz6_3 := blk_frozen BK113.out 3) | ((with_reducible refine gate_callee (f := 42) rfl ?_); refine goesL_ (some 4) rfl rfl Tryd.func42 (by kernel_rfl) rfl #[.agg #[.bool a0_0, .int .i64 a0_1, .int .i64 a0_2, .string a0_3]] rfl gl_ ?_; (with_reducible refine (spec_l6Ok.calls a0_0 a0_1 a0_2 a0_3 true _ A2.out).mono ?_); rintro e w7 ⟨rfl, hb⟩; refine ⟨_, rfl, ?_⟩; have n0_ := m_ (blk_below (kN BK113.out) hb); have n1_ := m_ (below_step (bN HB.out) hb); clear BK113; clear HB; have BK113 := n0_; have HB := n1_; clear n0_ n1_; (try clear hb); (try clear hb2); (try clear hk); (try clear hi); have hcz8_0 : w7.cell? ⟨gb113, 0, none⟩ = some (.bool a0_0) := (blk_cell BK113.out 0).trans rfl; have hcz8_1 : w7.cell? ⟨gb113, 1, none⟩ = some (.int .i64 a0_1) := (blk_cell BK113.out 1).trans rfl; have hcz8_2 : w7.cell? ⟨gb113, 2, none⟩ = some (.int .i64 a0_2) := (blk_cell BK113.out 2).trans rfl; have hcz8_3 : w7.cell? ⟨gb113, 3, none⟩ = some (.string a0_3) := (blk_cell BK113.out 3).trans rfl; have hfz8_0 := blk_frozen BK113.out 0; have hfz8_1 := blk_frozen BK113.out 1; have hfz8_2 := blk_frozen BK113.out 2; have hfz8_3 := blk_frozen BK113.out 3) | ((with_reducible refine gate_callee (f := 43) rfl ?_); refine goesL_ (some 7) rfl rfl Tryd.func43 (by kernel_rfl) rfl #[.agg #[.bool a0_0, .int .i64 a0_1, .int .i64 a0_2, .string a0_3]] rfl gl_ ?_; (with_reducible refine (spec_l6Put.calls k a0_0 a0_1 a0_2 a0_3 t115 _ A4.out).mono ?_); rintro e w9 ⟨rfl, hb⟩; refine ⟨_, rfl, ?_⟩; have n0_ := m_ (blk_below (kN BK113.out) hb); have n1_ := m_ (below_step (bN HB.out) hb); clear BK113; clear HB; have BK113 := n0_; have HB := n1_; clear n0_ n1_; (try clear hb); (try clear hb2); (try clear hk); (try clear hi)))
  go_ret
  exact ⟨by first | rfl | (simp [errW_none, errW_some] <;> rfl) | (simp [*, errW_none, errW_some] <;> rfl), by repeat (first | (with_reducible first | exact HB.out | apply below_alloc | apply pw_below_drewN | apply below_drew1 | refine below_set ?_ GE113.out) | exact HB.out)⟩
 ·replace c3 := Bool.eq_false_iff.mpr c3
  subst c3
  have H1 : (some (⟨#[]⟩ : ByteArray)) = some r := by rw [if_neg (show ¬ (false = true) by decide)] at H; exact H
  clear H
  have H := H1
  clear H1
  obtain rfl := Option.some.inj H
  go_enter Tryd.func15, Tryd.ntmps15
  go_wp2_with (first | ((with_reducible refine gate_dst (N := 1) rfl ?_); refine box_event ?hg (N := 1) ?hd (cs := #[.bool a0_0, .int .i64 a0_1, .int .i64 a0_2, .string a0_3]) (t := 23) ?hr ?_; (case hd => rfl); (case hg => rfl); (case hr => first | (go_simp; done) | (go_simp; rfl)); intro gb113 hg w10 hbox hb; have n0_ := m_ (below_step (bN HB.out) hb); have n1_ := m_ (hbox); have n2_ := m_ ((by rw [hg]; exact (below_size (bN HB.out)) : w.heap.size ≤ gb113)); have n3_ := m_ ((by rw [hg]; exact (below_size (bN HB.out)) : w.heap.size ≤ gb113)); clear HB; have HB := n0_; have BK113 := n1_; have GW113 := n2_; have GE113 := n3_; clear n0_ n1_ n2_ n3_; clear hb hbox hg; have hcz11_0 : w10.cell? ⟨gb113, 0, none⟩ = some (.bool a0_0) := (blk_cell BK113.out 0).trans rfl; have hcz11_1 : w10.cell? ⟨gb113, 1, none⟩ = some (.int .i64 a0_1) := (blk_cell BK113.out 1).trans rfl; have hcz11_2 : w10.cell? ⟨gb113, 2, none⟩ = some (.int .i64 a0_2) := (blk_cell BK113.out 2).trans rfl; have hcz11_3 : w10.cell? ⟨gb113, 3, none⟩ = some (.string a0_3) := (blk_cell BK113.out 3).trans rfl; have hfz11_0 := blk_frozen BK113.out 0; have hfz11_1 := blk_frozen BK113.out 1; have hfz11_2 := blk_frozen BK113.out 2; have hfz11_3 := blk_frozen BK113.out 3) | ((with_reducible refine gate_callee (f := 42) rfl ?_); refine goesL_ (some 4) rfl rfl Tryd.func42 (by kernel_rfl) rfl #[.agg #[.bool a0_0, .int .i64 a0_1, .int .i64 a0_2, .string a0_3]] rfl gl_ ?_; (with_reducible refine (spec_l6Ok.calls a0_0 a0_1 a0_2 a0_3 false _ A2.out).mono ?_); rintro e w12 ⟨rfl, hb⟩; refine ⟨_, rfl, ?_⟩; have n0_ := m_ (blk_below (kN BK113.out) hb); have n1_ := m_ (below_step (bN HB.out) hb); clear BK113; clear HB; have BK113 := n0_; have HB := n1_; clear n0_ n1_; (try clear hb); (try clear hb2); (try clear hk); (try clear hi)))
  go_ret
  exact ⟨by first | rfl | (simp [errW_none, errW_some] <;> rfl) | (simp [*, errW_none, errW_some] <;> rfl), by repeat (first | (with_reducible first | exact HB.out | apply below_alloc | apply pw_below_drewN | apply below_drew1 | refine below_set ?_ GE113.out) | exact HB.out)⟩

/-! ### spec_l1Get: function 32 -/
def spec_l1Get.l0 : Nat → ByteArray → Int → Int → Int → Int → Option (Int)
 | 0, _, _, _, _, _ => none
 | k + 1, x0, x1, x2, x7, x8 => if x8 < x2 then (if 0 ≤ (wrap64 (x1 + x8)) then (if (wrap64 (x1 + x8)) < (x0.size : Int) then (spec_l1Get.l0 k x0 x1 x2 (wrap64 ((wrap64 (x7 * 256)) + (wrap64 (bt x0 (wrap64 (x1 + x8)))))) (wrap64 (x8 + 1))) else (none)) else (none)) else (some x7)
def spec_l1Get.f (k : Nat) (a0 : ByteArray) (a1 : Int) (a2 : Int) : Option (Int) := spec_l1Get.l0 k a0 a1 a2 0 0
theorem spec_l1Get.mono_l : ∀ k, (∀ y0 y1 y2 y3 y4, LeO (spec_l1Get.l0 k y0 y1 y2 y3 y4) (spec_l1Get.l0 (k + 1) y0 y1 y2 y3 y4))
 | 0 => fun _ _ _ _ _ r h => by simp [spec_l1Get.l0] at h
 | k + 1 => by
  have ih0 := spec_l1Get.mono_l k
  ·intro y0 y1 y2 y3 y4
   unfold spec_l1Get.l0
   repeat' first
   | (with_reducible exact ih0 _ _ _ _ _)
   | (with_reducible exact LeO.refl _)
   | (with_reducible exact LeO.none _)
   | (with_reducible refine LeO.ite ?_ ?_)
   | (with_reducible refine LeO.bind ?_ (fun _ => ?_))
   | exact ih0 _ _ _ _ _
   | exact LeO.none _
   | refine LeO.ite ?_ ?_
   | refine LeO.bind ?_ (fun _ => ?_)
theorem spec_l1Get.mono : ∀ a0 a1 a2 k, LeO (spec_l1Get.f k a0 a1 a2) (spec_l1Get.f (k + 1) a0 a1 a2) := by
 intro a0 a1 a2 k
 have ih0 := spec_l1Get.mono_l k
 unfold spec_l1Get.f
 repeat' first
   | (with_reducible exact ih0 _ _ _ _ _)
   | (with_reducible exact LeO.refl _)
   | (with_reducible exact LeO.none _)
   | (with_reducible refine LeO.ite ?_ ?_)
   | (with_reducible refine LeO.bind ?_ (fun _ => ?_))
   | exact ih0 _ _ _ _ _
   | exact LeO.none _
   | refine LeO.ite ?_ ?_
   | refine LeO.bind ?_ (fun _ => ?_)
set_option maxHeartbeats 8000000 in
set_option maxRecDepth 100000 in
theorem spec_l1Get.calls (k : Nat) (a0 : ByteArray) (a1 : Int) (a2 : Int) (r : Int) (w : World) (h : spec_l1Get.f k a0 a1 a2 = some r) :
  Calls Tryd.prog 32 #[.string a0, .int .i64 a1, .int .i64 a2] w fun e w' => e = .returned (.int .i64 r) ∧ Drawn0 w w' := by
 have H : (spec_l1Get.l0 k a0 a1 a2 0 0) = some r := h
 clear h
 have H' := Aside0.mk H
 clear H
 go_enter Tryd.func32, Tryd.ntmps32
 go_wp2
 go_loopg [7, 8] k (fun kq v7 v8 w' => ∃ (x7_1 : Int) (x8_1 : Int), v7 = .int .i64 x7_1 ∧ v8 = .int .i64 x8_1 ∧ Aside0 (spec_l1Get.l0 kq a0 a1 a2 x7_1 x8_1 = some r) ∧ Aside0 (kq ≤ k) ∧ Drawn0 w w')
 case atStart => exact ⟨(0), (0), (by first | rfl | (simp; done) | (simp [*]; done)), (by first | rfl | (simp; done) | (simp [*]; done)), H', ⟨Nat.le_refl _⟩, by repeat (first | exact Drawn0.refl _ | apply Drawn0.step)⟩
 case round =>
  clear H'
  try clear p2
  try clear c3
  obtain ⟨x7_1, x8_1, rfl, rfl, HA, HK1, ⟨m1, rfl⟩⟩ := hrel
  cases gk with
  | zero => exact absurd HA.out (by simp [spec_l1Get.l0])
  | succ k1 =>
   have H := HA.out
   clear HA
   simp only [spec_l1Get.l0] at H
   by_cases c4 : x8_1 < a2
   ·rw [if_pos c4] at H
    have c4b0 : decide (x8_1 < a2) = true := decide_eq_true c4
    clear c4
    obtain ⟨ji5, hji5⟩ : ∃ j_ : Int, (wrap64 (a1 + x8_1)) = j_ := ⟨_, rfl⟩
    replace H : (if 0 ≤ (ji5) then (if (ji5) < (a0.size : Int) then (spec_l1Get.l0 k1 a0 a1 a2 (wrap64 ((wrap64 (x7_1 * 256)) + (wrap64 (bt a0 (ji5))))) (wrap64 (x8_1 + 1))) else (none)) else (none)) = some r := by first | (rw [hji5] at H; exact H) | (simp only [hji5] at H ⊢; exact H)
    have hji5w : (IntKind.i64.wrap (a1 + x8_1)) = ji5 := (i64_w _).trans hji5
    by_cases c6 : 0 ≤ (ji5)
    ·rw [if_pos c6] at H
     have c6b0 : decide (0 ≤ (ji5)) = true := decide_eq_true c6
     clear c6
     by_cases c7 : (ji5) < (a0.size : Int)
     ·rw [if_pos c7] at H
      have c7b0 : decide ((ji5) < (a0.size : Int)) = true := decide_eq_true c7
      clear c7
      have H' := Aside0.mk H
      clear H
      have p8 : 0 ≤ ((ji5) : Int) := of_decide_eq_true (by first | (with_reducible assumption) | assumption)
      have q8 : (ji5) < (a0.size : Int) := of_decide_eq_true (by first | (with_reducible assumption) | assumption)
      have hx8 := bt_at a0 (ji5)
      replace p8 := eq_true p8
      replace q8 := eq_true q8
      go_wp2
      go_roundg k1
      case measure => have := HK1.out; omega
      case rel => exact ⟨(wrap64 ((wrap64 (x7_1 * 256)) + (wrap64 (bt a0 (ji5))))), (wrap64 (x8_1 + 1)), (by first | rfl | (simp; done) | (simp only [← hji5] <;> (first | rfl | simp)) | (simp [*]; done)), (by first | rfl | (simp; done) | (simp [*]; done)), H', ⟨by have := HK1.out; omega⟩, by repeat (first | exact Drawn0.refl _ | apply Drawn0.step)⟩
     ·rw [if_neg c7] at H
      exact absurd H (by simp)
    ·rw [if_neg c6] at H
     exact absurd H (by simp)
   ·rw [if_neg c4] at H
    have c4b0 : decide (x8_1 < a2) = false := decide_eq_false c4
    clear c4
    obtain rfl := Option.some.inj H
    go_wp2
    go_ret
    exact ⟨by first | rfl | (simp; done) | (simp [*]; done), by repeat (first | exact Drawn0.refl _ | apply Drawn0.step)⟩

/-! ### spec_PacketGet: function 10 -/
def spec_PacketGet.f (k : Nat) (a0 : ByteArray) (a1 : Int) : Option (Bool × Int × Int × ByteArray × Int) := (spec_l1In.f a1 0 (wrap64 ((a0.size : Int) - 7))).bind fun t117 => (if t117 = true then ((spec_l1Get.f k a0 a1 2).bind fun t118 => ((spec_l1Get.f k a0 (wrap64 (a1 + 4)) 2).bind fun t119 => (if (wrap64 (t119 + 7)) > (wrap64 ((a0.size : Int) - a1)) then (some (false, 0, 0, (⟨#[]⟩ : ByteArray), 0)) else ((spec_l1Get.f k a0 (wrap64 (a1 + 2)) 2).bind fun t120 => (if 0 ≤ (wrap64 (a1 + 6)) then (if (wrap64 (a1 + 6)) ≤ (wrap64 (a1 + (wrap64 (t119 + 7)))) then (if (wrap64 (a1 + (wrap64 (t119 + 7)))) ≤ (a0.size : Int) then ((spec_PacketPut.f k ((Int.tmod (wrap64 (Int.tdiv t118 4096)) 2) == 1) (Int.tmod t118 2048) (Int.tmod t120 16384) (a0.extract ((wrap64 (a1 + 6)) : Int).toNat ((wrap64 (a1 + (wrap64 (t119 + 7)))) : Int).toNat)).bind fun t122 => (if 0 ≤ a1 then (if a1 ≤ (wrap64 (a1 + (wrap64 (t119 + 7)))) then (if t122.toList = (a0.extract (a1 : Int).toNat ((wrap64 (a1 + (wrap64 (t119 + 7)))) : Int).toNat).toList then (some (((Int.tmod (wrap64 (Int.tdiv t118 4096)) 2) == 1), Int.tmod t118 2048, Int.tmod t120 16384, a0.extract ((wrap64 (a1 + 6)) : Int).toNat ((wrap64 (a1 + (wrap64 (t119 + 7)))) : Int).toNat, wrap64 (t119 + 7))) else (some (false, 0, 0, (⟨#[]⟩ : ByteArray), 0))) else (none)) else (none))) else (none)) else (none)) else (none)))))) else (some (false, 0, 0, (⟨#[]⟩ : ByteArray), 0)))
theorem spec_PacketGet.mono : ∀ a0 a1 k, LeO (spec_PacketGet.f k a0 a1) (spec_PacketGet.f (k + 1) a0 a1) := by
 intro a0 a1 k
 unfold spec_PacketGet.f
 repeat' first
   | (with_reducible exact spec_PacketPut.mono _ _ _ _ _)
   | (with_reducible exact spec_l1Get.mono _ _ _ _)
   | (with_reducible exact LeO.refl _)
   | (with_reducible exact LeO.none _)
   | (with_reducible refine LeO.ite ?_ ?_)
   | (with_reducible refine LeO.bind ?_ (fun _ => ?_))
   | exact spec_PacketPut.mono _ _ _ _ _
   | exact spec_l1Get.mono _ _ _ _
   | exact LeO.none _
   | refine LeO.ite ?_ ?_
   | refine LeO.bind ?_ (fun _ => ?_)
def spec_PacketGet.T7 : Bool × List (List Nat × List Nat) := (true, [([], []), ([0], [0]), ([1], [1]), ([2], [2]), ([], []), ([4], [4]), ([], []), ([], []), ([7], [7]), ([6, 8], [6, 8]), ([9], [9]), ([], []), ([], []), ([12], [12]), ([], []), ([], []), ([14, 15], [14, 15]), ([11, 13, 16], [11, 13, 16]), ([3, 5, 10, 17], [3, 5, 10, 17]), ([], []), ([19, 18, 9, 0, 1, 2, 3, 4, 5, 6, 7, 8, 9, 10, 11, 12, 13, 14, 15, 16, 17, 18, 19], [18, 19])])
def spec_PacketGet.B7 : List Nat := [0, 1, 3, 7, 0, 16, 0, 0, 128, 448, 960, 0, 0, 4096, 0, 0, 49152, 129024, 262143, 0, 1048575]
theorem spec_PacketGet.tab7 : rtab .any (opsOf Tryd.f10 7) = spec_PacketGet.T7 := by kernel_rfl
theorem spec_PacketGet.bits7 : waitsOk spec_PacketGet.T7.2 spec_PacketGet.B7 = true := by kernel_rfl
def spec_PacketGet.T8 : Bool × List (List Nat × List Nat) := (true, [([], []), ([0], [0]), ([], []), ([], []), ([], []), ([], []), ([4, 5], [4, 5]), ([2, 3, 6], [2, 3, 6]), ([1, 7], [1, 7])])
def spec_PacketGet.B8 : List Nat := [0, 1, 0, 0, 0, 0, 48, 124, 255]
theorem spec_PacketGet.tab8 : rtab .any (opsOf Tryd.f10 8) = spec_PacketGet.T8 := by kernel_rfl
theorem spec_PacketGet.bits8 : waitsOk spec_PacketGet.T8.2 spec_PacketGet.B8 = true := by kernel_rfl
set_option maxHeartbeats 8000000 in
set_option maxRecDepth 100000 in
theorem spec_PacketGet.calls (k : Nat) (a0 : ByteArray) (a1 : Int) (r1 : Bool) (r2 : Int) (r3 : Int) (r4 : ByteArray) (r5 : Int) (w : World) (h : spec_PacketGet.f k a0 a1 = some (r1, r2, r3, r4, r5)) :
  Calls Tryd.prog 10 #[.string a0, .int .i64 a1] w fun e w' => e = .returned (.tuple #[.agg #[.bool r1, .int .i64 r2, .int .i64 r3, .string r4], .int .i64 r5]) ∧ Below w.heap.size w w' := by
 have hu23 := Tryd.underlying23
 have HB := m_ (Below.refl w.heap.size w)
 have H : ((spec_l1In.f a1 0 (wrap64 ((a0.size : Int) - 7))).bind fun t117 => (if t117 = true then ((spec_l1Get.f k a0 a1 2).bind fun t118 => ((spec_l1Get.f k a0 (wrap64 (a1 + 4)) 2).bind fun t119 => (if (wrap64 (t119 + 7)) > (wrap64 ((a0.size : Int) - a1)) then (some (false, 0, 0, (⟨#[]⟩ : ByteArray), 0)) else ((spec_l1Get.f k a0 (wrap64 (a1 + 2)) 2).bind fun t120 => (if 0 ≤ (wrap64 (a1 + 6)) then (if (wrap64 (a1 + 6)) ≤ (wrap64 (a1 + (wrap64 (t119 + 7)))) then (if (wrap64 (a1 + (wrap64 (t119 + 7)))) ≤ (a0.size : Int) then ((spec_PacketPut.f k ((Int.tmod (wrap64 (Int.tdiv t118 4096)) 2) == 1) (Int.tmod t118 2048) (Int.tmod t120 16384) (a0.extract ((wrap64 (a1 + 6)) : Int).toNat ((wrap64 (a1 + (wrap64 (t119 + 7)))) : Int).toNat)).bind fun t122 => (if 0 ≤ a1 then (if a1 ≤ (wrap64 (a1 + (wrap64 (t119 + 7)))) then (if t122.toList = (a0.extract (a1 : Int).toNat ((wrap64 (a1 + (wrap64 (t119 + 7)))) : Int).toNat).toList then (some (((Int.tmod (wrap64 (Int.tdiv t118 4096)) 2) == 1), Int.tmod t118 2048, Int.tmod t120 16384, a0.extract ((wrap64 (a1 + 6)) : Int).toNat ((wrap64 (a1 + (wrap64 (t119 + 7)))) : Int).toNat, wrap64 (t119 + 7))) else (some (false, 0, 0, (⟨#[]⟩ : ByteArray), 0))) else (none)) else (none))) else (none)) else (none)) else (none)))))) else (some (false, 0, 0, (⟨#[]⟩ : ByteArray), 0)))) = some (r1, r2, r3, r4, r5) := h
 clear h
 replace H := Option.bind_eq_some_iff.mp H
 obtain ⟨t117, A30, H⟩ := H
 replace H : (if t117 = true then ((spec_l1Get.f k a0 a1 2).bind fun t118 => ((spec_l1Get.f k a0 (wrap64 (a1 + 4)) 2).bind fun t119 => (if (wrap64 (t119 + 7)) > (wrap64 ((a0.size : Int) - a1)) then (some (false, 0, 0, (⟨#[]⟩ : ByteArray), 0)) else ((spec_l1Get.f k a0 (wrap64 (a1 + 2)) 2).bind fun t120 => (if 0 ≤ (wrap64 (a1 + 6)) then (if (wrap64 (a1 + 6)) ≤ (wrap64 (a1 + (wrap64 (t119 + 7)))) then (if (wrap64 (a1 + (wrap64 (t119 + 7)))) ≤ (a0.size : Int) then ((spec_PacketPut.f k ((Int.tmod (wrap64 (Int.tdiv t118 4096)) 2) == 1) (Int.tmod t118 2048) (Int.tmod t120 16384) (a0.extract ((wrap64 (a1 + 6)) : Int).toNat ((wrap64 (a1 + (wrap64 (t119 + 7)))) : Int).toNat)).bind fun t122 => (if 0 ≤ a1 then (if a1 ≤ (wrap64 (a1 + (wrap64 (t119 + 7)))) then (if t122.toList = (a0.extract (a1 : Int).toNat ((wrap64 (a1 + (wrap64 (t119 + 7)))) : Int).toNat).toList then (some (((Int.tmod (wrap64 (Int.tdiv t118 4096)) 2) == 1), Int.tmod t118 2048, Int.tmod t120 16384, a0.extract ((wrap64 (a1 + 6)) : Int).toNat ((wrap64 (a1 + (wrap64 (t119 + 7)))) : Int).toNat, wrap64 (t119 + 7))) else (some (false, 0, 0, (⟨#[]⟩ : ByteArray), 0))) else (none)) else (none))) else (none)) else (none)) else (none)))))) else (some (false, 0, 0, (⟨#[]⟩ : ByteArray), 0))) = some (r1, r2, r3, r4, r5) := H
 have A3 := Aside0.mk A30
 clear A30
 by_cases c4 : t117 = true
 ·subst c4
  have H1 : ((spec_l1Get.f k a0 a1 2).bind fun t118 => ((spec_l1Get.f k a0 (wrap64 (a1 + 4)) 2).bind fun t119 => (if (wrap64 (t119 + 7)) > (wrap64 ((a0.size : Int) - a1)) then (some (false, 0, 0, (⟨#[]⟩ : ByteArray), 0)) else ((spec_l1Get.f k a0 (wrap64 (a1 + 2)) 2).bind fun t120 => (if 0 ≤ (wrap64 (a1 + 6)) then (if (wrap64 (a1 + 6)) ≤ (wrap64 (a1 + (wrap64 (t119 + 7)))) then (if (wrap64 (a1 + (wrap64 (t119 + 7)))) ≤ (a0.size : Int) then ((spec_PacketPut.f k ((Int.tmod (wrap64 (Int.tdiv t118 4096)) 2) == 1) (Int.tmod t118 2048) (Int.tmod t120 16384) (a0.extract ((wrap64 (a1 + 6)) : Int).toNat ((wrap64 (a1 + (wrap64 (t119 + 7)))) : Int).toNat)).bind fun t122 => (if 0 ≤ a1 then (if a1 ≤ (wrap64 (a1 + (wrap64 (t119 + 7)))) then (if t122.toList = (a0.extract (a1 : Int).toNat ((wrap64 (a1 + (wrap64 (t119 + 7)))) : Int).toNat).toList then (some (((Int.tmod (wrap64 (Int.tdiv t118 4096)) 2) == 1), Int.tmod t118 2048, Int.tmod t120 16384, a0.extract ((wrap64 (a1 + 6)) : Int).toNat ((wrap64 (a1 + (wrap64 (t119 + 7)))) : Int).toNat, wrap64 (t119 + 7))) else (some (false, 0, 0, (⟨#[]⟩ : ByteArray), 0))) else (none)) else (none))) else (none)) else (none)) else (none)))))) = some (r1, r2, r3, r4, r5) := by rw [if_pos rfl] at H; exact H
  clear H
  have H := H1
  clear H1
  replace H := Option.bind_eq_some_iff.mp H
  obtain ⟨t118, A50, H⟩ := H
  replace H : ((spec_l1Get.f k a0 (wrap64 (a1 + 4)) 2).bind fun t119 => (if (wrap64 (t119 + 7)) > (wrap64 ((a0.size : Int) - a1)) then (some (false, 0, 0, (⟨#[]⟩ : ByteArray), 0)) else ((spec_l1Get.f k a0 (wrap64 (a1 + 2)) 2).bind fun t120 => (if 0 ≤ (wrap64 (a1 + 6)) then (if (wrap64 (a1 + 6)) ≤ (wrap64 (a1 + (wrap64 (t119 + 7)))) then (if (wrap64 (a1 + (wrap64 (t119 + 7)))) ≤ (a0.size : Int) then ((spec_PacketPut.f k ((Int.tmod (wrap64 (Int.tdiv t118 4096)) 2) == 1) (Int.tmod t118 2048) (Int.tmod t120 16384) (a0.extract ((wrap64 (a1 + 6)) : Int).toNat ((wrap64 (a1 + (wrap64 (t119 + 7)))) : Int).toNat)).bind fun t122 => (if 0 ≤ a1 then (if a1 ≤ (wrap64 (a1 + (wrap64 (t119 + 7)))) then (if t122.toList = (a0.extract (a1 : Int).toNat ((wrap64 (a1 + (wrap64 (t119 + 7)))) : Int).toNat).toList then (some (((Int.tmod (wrap64 (Int.tdiv t118 4096)) 2) == 1), Int.tmod t118 2048, Int.tmod t120 16384, a0.extract ((wrap64 (a1 + 6)) : Int).toNat ((wrap64 (a1 + (wrap64 (t119 + 7)))) : Int).toNat, wrap64 (t119 + 7))) else (some (false, 0, 0, (⟨#[]⟩ : ByteArray), 0))) else (none)) else (none))) else (none)) else (none)) else (none))))) = some (r1, r2, r3, r4, r5) := H
  have A5 := Aside0.mk A50
  clear A50
  replace H := Option.bind_eq_some_iff.mp H
  obtain ⟨t119, A60, H⟩ := H
  replace H : (if (wrap64 (t119 + 7)) > (wrap64 ((a0.size : Int) - a1)) then (some (false, 0, 0, (⟨#[]⟩ : ByteArray), 0)) else ((spec_l1Get.f k a0 (wrap64 (a1 + 2)) 2).bind fun t120 => (if 0 ≤ (wrap64 (a1 + 6)) then (if (wrap64 (a1 + 6)) ≤ (wrap64 (a1 + (wrap64 (t119 + 7)))) then (if (wrap64 (a1 + (wrap64 (t119 + 7)))) ≤ (a0.size : Int) then ((spec_PacketPut.f k ((Int.tmod (wrap64 (Int.tdiv t118 4096)) 2) == 1) (Int.tmod t118 2048) (Int.tmod t120 16384) (a0.extract ((wrap64 (a1 + 6)) : Int).toNat ((wrap64 (a1 + (wrap64 (t119 + 7)))) : Int).toNat)).bind fun t122 => (if 0 ≤ a1 then (if a1 ≤ (wrap64 (a1 + (wrap64 (t119 + 7)))) then (if t122.toList = (a0.extract (a1 : Int).toNat ((wrap64 (a1 + (wrap64 (t119 + 7)))) : Int).toNat).toList then (some (((Int.tmod (wrap64 (Int.tdiv t118 4096)) 2) == 1), Int.tmod t118 2048, Int.tmod t120 16384, a0.extract ((wrap64 (a1 + 6)) : Int).toNat ((wrap64 (a1 + (wrap64 (t119 + 7)))) : Int).toNat, wrap64 (t119 + 7))) else (some (false, 0, 0, (⟨#[]⟩ : ByteArray), 0))) else (none)) else (none))) else (none)) else (none)) else (none)))) = some (r1, r2, r3, r4, r5) := H
  have A6 := Aside0.mk A60
  clear A60
  by_cases c7 : (wrap64 (t119 + 7)) > (wrap64 ((a0.size : Int) - a1))
  ·rw [if_pos c7] at H
   have c7b0 : decide ((wrap64 ((a0.size : Int) - a1)) < (wrap64 (t119 + 7))) = true := decide_eq_true c7
   clear c7
   simp only [Option.some.injEq, Prod.mk.injEq] at H
   obtain ⟨rfl, rfl, rfl, rfl, rfl⟩ := H
   go_enter Tryd.func10, Tryd.ntmps10
   go_wp2_with (first | ((with_reducible refine gate_dst (N := 4) rfl ?_); refine box_event ?hg (N := 4) ?hd (cs := #[.bool false, .int .i64 0, .int .i64 0, .string (⟨#[]⟩ : ByteArray)]) (t := 23) ?hr ?_; (case hd => rfl); (case hg => rfl); (case hr => first | (go_simp; done) | (go_simp; rfl)); intro gb116 hg w8 hbox hb; have n0_ := m_ (below_step (bN HB.out) hb); have n1_ := m_ (hbox); have n2_ := m_ ((by rw [hg]; exact (below_size (bN HB.out)) : w.heap.size ≤ gb116)); have n3_ := m_ ((by rw [hg]; exact (below_size (bN HB.out)) : w.heap.size ≤ gb116)); clear HB; have HB := n0_; have BK116 := n1_; have GW116 := n2_; have GE116 := n3_; clear n0_ n1_ n2_ n3_; clear hb hbox hg) | ((with_reducible refine gate_callee (f := 31) rfl ?_); refine goesL_ (some 13) rfl rfl Tryd.func31 (by kernel_rfl) rfl #[.int .i64 a1, .int .i64 0, .int .i64 (wrap64 ((a0.size : Int) - 7))] rfl gl_ ?_; (with_reducible refine (spec_l1In.calls a1 0 (wrap64 ((a0.size : Int) - 7)) true _ A3.out).mono ?_); rintro e w' ⟨rfl, ⟨nd, rfl⟩⟩; refine ⟨_, rfl, ?_⟩; (try (rw [drewN_self w8]; generalize hq_ : World.drewN w8 _ = w8; have n0_ : Aside0 (w8.heap[gb116]? = some (.cells #[.bool false, .int .i64 0, .int .i64 0, .string (⟨#[]⟩ : ByteArray)] 23 (0, 0))) := ⟨by rw [← hq_]; exact (kN BK116.out)⟩; have n1_ : Aside0 (Below w.heap.size w w8) := ⟨by rw [← hq_]; exact (bN HB.out)⟩; clear BK116 HB hq_; have BK116 := n0_; have HB := n1_; clear n0_ n1_))) | ((with_reducible refine gate_callee (f := 32) rfl ?_); refine goesL_ (some 18) rfl rfl Tryd.func32 (by kernel_rfl) rfl #[.string a0, .int .i64 a1, .int .i64 2] rfl gl_ ?_; (with_reducible refine (spec_l1Get.calls k a0 a1 2 t118 _ A5.out).mono ?_); rintro e w' ⟨rfl, ⟨nd, rfl⟩⟩; refine ⟨_, rfl, ?_⟩; (try (rw [drewN_self w8]; generalize hq_ : World.drewN w8 _ = w8; have n0_ : Aside0 (w8.heap[gb116]? = some (.cells #[.bool false, .int .i64 0, .int .i64 0, .string (⟨#[]⟩ : ByteArray)] 23 (0, 0))) := ⟨by rw [← hq_]; exact (kN BK116.out)⟩; have n1_ : Aside0 (Below w.heap.size w w8) := ⟨by rw [← hq_]; exact (bN HB.out)⟩; clear BK116 HB hq_; have BK116 := n0_; have HB := n1_; clear n0_ n1_))) | ((with_reducible refine gate_callee (f := 32) rfl ?_); refine goesL_ (some 22) rfl rfl Tryd.func32 (by kernel_rfl) rfl #[.string a0, .int .i64 (wrap64 (a1 + 4)), .int .i64 2] rfl gl_ ?_; (with_reducible refine (spec_l1Get.calls k a0 (wrap64 (a1 + 4)) 2 t119 _ A6.out).mono ?_); rintro e w' ⟨rfl, ⟨nd, rfl⟩⟩; refine ⟨_, rfl, ?_⟩; (try (rw [drewN_self w8]; generalize hq_ : World.drewN w8 _ = w8; have n0_ : Aside0 (w8.heap[gb116]? = some (.cells #[.bool false, .int .i64 0, .int .i64 0, .string (⟨#[]⟩ : ByteArray)] 23 (0, 0))) := ⟨by rw [← hq_]; exact (kN BK116.out)⟩; have n1_ : Aside0 (Below w.heap.size w w8) := ⟨by rw [← hq_]; exact (bN HB.out)⟩; clear BK116 HB hq_; have BK116 := n0_; have HB := n1_; clear n0_ n1_)); have hcz9_0 : w8.cell? ⟨gb116, 0, none⟩ = some (.bool false) := (blk_cell BK116.out 0).trans rfl; have hcz9_1 : w8.cell? ⟨gb116, 1, none⟩ = some (.int .i64 0) := (blk_cell BK116.out 1).trans rfl; have hcz9_2 : w8.cell? ⟨gb116, 2, none⟩ = some (.int .i64 0) := (blk_cell BK116.out 2).trans rfl; have hcz9_3 : w8.cell? ⟨gb116, 3, none⟩ = some (.string (⟨#[]⟩ : ByteArray)) := (blk_cell BK116.out 3).trans rfl; have hfz9_0 := blk_frozen BK116.out 0; have hfz9_1 := blk_frozen BK116.out 1; have hfz9_2 := blk_frozen BK116.out 2; have hfz9_3 := blk_frozen BK116.out 3))
   refine bodyPost_ret (results_ct rfl _ _ gb116 23 #[.bool false, .int .i64 0, .int .i64 0, .string (⟨#[]⟩ : ByteArray)] (0, 0) _ rfl (kP BK116.out) Tryd.underlying23 rfl (by kernel_rfl)) rfl ?_
   exact ⟨by first | rfl | (simp [errW_none, errW_some] <;> rfl) | (simp [*, errW_none, errW_some] <;> rfl), by repeat (first | (with_reducible first | exact HB.out | apply below_alloc | apply pw_below_drewN | apply below_drew1 | refine below_set ?_ GE116.out) | exact HB.out)⟩
  ·rw [if_neg c7] at H
   have c7b0 : decide ((wrap64 ((a0.size : Int) - a1)) < (wrap64 (t119 + 7))) = false := decide_eq_false c7
   clear c7
   replace H := Option.bind_eq_some_iff.mp H
   obtain ⟨t120, A100, H⟩ := H
   replace H : (if 0 ≤ (wrap64 (a1 + 6)) then (if (wrap64 (a1 + 6)) ≤ (wrap64 (a1 + (wrap64 (t119 + 7)))) then (if (wrap64 (a1 + (wrap64 (t119 + 7)))) ≤ (a0.size : Int) then ((spec_PacketPut.f k ((Int.tmod (wrap64 (Int.tdiv t118 4096)) 2) == 1) (Int.tmod t118 2048) (Int.tmod t120 16384) (a0.extract ((wrap64 (a1 + 6)) : Int).toNat ((wrap64 (a1 + (wrap64 (t119 + 7)))) : Int).toNat)).bind fun t122 => (if 0 ≤ a1 then (if a1 ≤ (wrap64 (a1 + (wrap64 (t119 + 7)))) then (if t122.toList = (a0.extract (a1 : Int).toNat ((wrap64 (a1 + (wrap64 (t119 + 7)))) : Int).toNat).toList then (some (((Int.tmod (wrap64 (Int.tdiv t118 4096)) 2) == 1), Int.tmod t118 2048, Int.tmod t120 16384, a0.extract ((wrap64 (a1 + 6)) : Int).toNat ((wrap64 (a1 + (wrap64 (t119 + 7)))) : Int).toNat, wrap64 (t119 + 7))) else (some (false, 0, 0, (⟨#[]⟩ : ByteArray), 0))) else (none)) else (none))) else (none)) else (none)) else (none)) = some (r1, r2, r3, r4, r5) := H
   have A10 := Aside0.mk A100
   clear A100
   obtain ⟨ji11, hji11⟩ : ∃ j_ : Int, (wrap64 (a1 + 6)) = j_ := ⟨_, rfl⟩
   replace H : (if 0 ≤ (ji11) then (if (ji11) ≤ (wrap64 (a1 + (wrap64 (t119 + 7)))) then (if (wrap64 (a1 + (wrap64 (t119 + 7)))) ≤ (a0.size : Int) then ((spec_PacketPut.f k ((Int.tmod (wrap64 (Int.tdiv t118 4096)) 2) == 1) (Int.tmod t118 2048) (Int.tmod t120 16384) (a0.extract ((ji11) : Int).toNat ((wrap64 (a1 + (wrap64 (t119 + 7)))) : Int).toNat)).bind fun t122 => (if 0 ≤ a1 then (if a1 ≤ (wrap64 (a1 + (wrap64 (t119 + 7)))) then (if t122.toList = (a0.extract (a1 : Int).toNat ((wrap64 (a1 + (wrap64 (t119 + 7)))) : Int).toNat).toList then (some (((Int.tmod (wrap64 (Int.tdiv t118 4096)) 2) == 1), Int.tmod t118 2048, Int.tmod t120 16384, a0.extract ((ji11) : Int).toNat ((wrap64 (a1 + (wrap64 (t119 + 7)))) : Int).toNat, wrap64 (t119 + 7))) else (some (false, 0, 0, (⟨#[]⟩ : ByteArray), 0))) else (none)) else (none))) else (none)) else (none)) else (none)) = some (r1, r2, r3, r4, r5) := by first | (rw [hji11] at H; exact H) | (simp only [hji11] at H ⊢; exact H)
   (try rw [hji11] at A3)
   (try rw [hji11] at A5)
   (try rw [hji11] at A6)
   (try rw [hji11] at A10)
   have hji11w : (IntKind.i64.wrap (a1 + 6)) = ji11 := (i64_w _).trans hji11
   by_cases c12 : 0 ≤ (ji11)
   ·rw [if_pos c12] at H
    have c12b0 := eq_true c12
    have c12b1 : decide (0 ≤ (ji11)) = true := decide_eq_true c12
    clear c12
    by_cases c13 : (ji11) ≤ (wrap64 (a1 + (wrap64 (t119 + 7))))
    ·rw [if_pos c13] at H
     have c13b0 := eq_true c13
     have c13b1 : decide ((ji11) ≤ (wrap64 (a1 + (wrap64 (t119 + 7))))) = true := decide_eq_true c13
     by_cases c14 : (wrap64 (a1 + (wrap64 (t119 + 7)))) ≤ (a0.size : Int)
     ·rw [if_pos c14] at H
      have c14b0 := eq_true c14
      have c14b1 : decide ((wrap64 (a1 + (wrap64 (t119 + 7)))) ≤ (a0.size : Int)) = true := decide_eq_true c14
      replace H := Option.bind_eq_some_iff.mp H
      obtain ⟨t122, A150, H⟩ := H
      replace H : (if 0 ≤ a1 then (if a1 ≤ (wrap64 (a1 + (wrap64 (t119 + 7)))) then (if t122.toList = (a0.extract (a1 : Int).toNat ((wrap64 (a1 + (wrap64 (t119 + 7)))) : Int).toNat).toList then (some (((Int.tmod (wrap64 (Int.tdiv t118 4096)) 2) == 1), Int.tmod t118 2048, Int.tmod t120 16384, a0.extract ((ji11) : Int).toNat ((wrap64 (a1 + (wrap64 (t119 + 7)))) : Int).toNat, wrap64 (t119 + 7))) else (some (false, 0, 0, (⟨#[]⟩ : ByteArray), 0))) else (none)) else (none)) = some (r1, r2, r3, r4, r5) := H
      have A15 := Aside0.mk A150
      clear A150
      by_cases c16 : 0 ≤ a1
      ·rw [if_pos c16] at H
       have c16b0 := eq_true c16
       have c16b1 : decide (0 ≤ a1) = true := decide_eq_true c16
       clear c16
       by_cases c17 : a1 ≤ (wrap64 (a1 + (wrap64 (t119 + 7))))
       ·rw [if_pos c17] at H
        have c17b0 := eq_true c17
        have c17b1 : decide (a1 ≤ (wrap64 (a1 + (wrap64 (t119 + 7))))) = true := decide_eq_true c17
        have c18b0 := eq_true (of_decide_eq_true (by first | (with_reducible assumption) | assumption) : (wrap64 (a1 + (wrap64 (t119 + 7)))) ≤ (a0.size : Int))
        by_cases c19 : t122.toList = (a0.extract (a1 : Int).toNat ((wrap64 (a1 + (wrap64 (t119 + 7)))) : Int).toNat).toList
        ·rw [if_pos c19] at H
         have c19b0 : (t122.toList == (a0.extract (a1 : Int).toNat ((wrap64 (a1 + (wrap64 (t119 + 7)))) : Int).toNat).toList) = true := beq_iff_eq.mpr c19
         have c19b1 : (t122.toList != (a0.extract (a1 : Int).toNat ((wrap64 (a1 + (wrap64 (t119 + 7)))) : Int).toNat).toList) = false := bne_eq_false_iff_eq.mpr c19
         clear c19
         simp only [Option.some.injEq, Prod.mk.injEq] at H
         obtain ⟨rfl, rfl, rfl, rfl, rfl⟩ := H
         go_enter Tryd.func10, Tryd.ntmps10
         try go_wp2_with (first | ((with_reducible refine gate_dst (N := 4) rfl ?_); refine box_event ?hg (N := 4) ?hd (cs := #[.bool false, .int .i64 0, .int .i64 0, .string (⟨#[]⟩ : ByteArray)]) (t := 23) ?hr ?_; (case hd => rfl); (case hg => rfl); (case hr => first | (go_simp; done) | (go_simp; rfl)); intro gb116 hg w20 hbox hb; have n0_ := m_ (below_step (bN HB.out) hb); have n1_ := m_ (hbox); have n2_ := m_ ((by rw [hg]; exact (below_size (bN HB.out)) : w.heap.size ≤ gb116)); have n3_ := m_ ((by rw [hg]; exact (below_size (bN HB.out)) : w.heap.size ≤ gb116)); clear HB; have HB := n0_; have BK116 := n1_; have GW116 := n2_; have GE116 := n3_; clear n0_ n1_ n2_ n3_; clear hb hbox hg) | ((with_reducible refine gate_callee (f := 31) rfl ?_); refine goesL_ (some 13) rfl rfl Tryd.func31 (by kernel_rfl) rfl #[.int .i64 a1, .int .i64 0, .int .i64 (wrap64 ((a0.size : Int) - 7))] rfl gl_ ?_; (with_reducible refine (spec_l1In.calls a1 0 (wrap64 ((a0.size : Int) - 7)) true _ A3.out).mono ?_); rintro e w' ⟨rfl, ⟨nd, rfl⟩⟩; refine ⟨_, rfl, ?_⟩; (try (rw [drewN_self w20]; generalize hq_ : World.drewN w20 _ = w20; have n0_ : Aside0 (w20.heap[gb116]? = some (.cells #[.bool false, .int .i64 0, .int .i64 0, .string (⟨#[]⟩ : ByteArray)] 23 (0, 0))) := ⟨by rw [← hq_]; exact (kN BK116.out)⟩; have n1_ : Aside0 (Below w.heap.size w w20) := ⟨by rw [← hq_]; exact (bN HB.out)⟩; clear BK116 HB hq_; have BK116 := n0_; have HB := n1_; clear n0_ n1_))) | ((with_reducible refine gate_callee (f := 32) rfl ?_); refine goesL_ (some 18) rfl rfl Tryd.func32 (by kernel_rfl) rfl #[.string a0, .int .i64 a1, .int .i64 2] rfl gl_ ?_; (with_reducible refine (spec_l1Get.calls k a0 a1 2 t118 _ A5.out).mono ?_); rintro e w' ⟨rfl, ⟨nd, rfl⟩⟩; refine ⟨_, rfl, ?_⟩; (try (rw [drewN_self w20]; generalize hq_ : World.drewN w20 _ = w20; have n0_ : Aside0 (w20.heap[gb116]? = some (.cells #[.bool false, .int .i64 0, .int .i64 0, .string (⟨#[]⟩ : ByteArray)] 23 (0, 0))) := ⟨by rw [← hq_]; exact (kN BK116.out)⟩; have n1_ : Aside0 (Below w.heap.size w w20) := ⟨by rw [← hq_]; exact (bN HB.out)⟩; clear BK116 HB hq_; have BK116 := n0_; have HB := n1_; clear n0_ n1_))) | ((with_reducible refine gate_callee (f := 32) rfl ?_); refine goesL_ (some 22) rfl rfl Tryd.func32 (by kernel_rfl) rfl #[.string a0, .int .i64 (wrap64 (a1 + 4)), .int .i64 2] rfl gl_ ?_; (with_reducible refine (spec_l1Get.calls k a0 (wrap64 (a1 + 4)) 2 t119 _ A6.out).mono ?_); rintro e w' ⟨rfl, ⟨nd, rfl⟩⟩; refine ⟨_, rfl, ?_⟩; (try (rw [drewN_self w20]; generalize hq_ : World.drewN w20 _ = w20; have n0_ : Aside0 (w20.heap[gb116]? = some (.cells #[.bool false, .int .i64 0, .int .i64 0, .string (⟨#[]⟩ : ByteArray)] 23 (0, 0))) := ⟨by rw [← hq_]; exact (kN BK116.out)⟩; have n1_ : Aside0 (Below w.heap.size w w20) := ⟨by rw [← hq_]; exact (bN HB.out)⟩; clear BK116 HB hq_; have BK116 := n0_; have HB := n1_; clear n0_ n1_))))
         have n0_ := m_ (blk_drew BK116.out)
         have n1_ := m_ (below_drew1 HB.out)
         clear BK116
         clear HB
         have BK116 := n0_
         have HB := n1_
         clear n0_ n1_
         refine start_ (n := 21) (S := fun w' => True) (ds := []) #[false, false, false, false, false, false, false, false, false, false, false, false, false, false, false, false, false, false, false, false, false] (by kernel_rfl) rfl rfl trivial (fun hHeld => ?_); refine with_tabW spec_PacketGet.tab7 spec_PacketGet.bits7 (fun HT_ HW_ => ?_)
         generalize w20.drew = w21 at BK116 HB hHeld ⊢
         refine pu 0 31 HT_ (h := ?_)
         refine pu 1 32 HT_ (h := ?_)
         refine pu 2 33 HT_ (h := ?_)
         refine pu 3 34 HT_ (h := ?_)
         refine pu 4 35 HT_ (h := ?_)
         refine pu 5 36 HT_ (h := ?_)
         refine pu 6 37 HT_ (h := ?_)
         refine pu 7 38 HT_ (h := ?_)
         refine pu 8 39 HT_ (h := ?_)
         refine pu 11 42 HT_ (h := ?_)
         refine pu 12 43 HT_ (h := ?_)
         refine pu 13 44 HT_ (h := ?_)
         refine pu 14 45 HT_ (h := ?_)
         refine pu 15 46 HT_ (h := ?_)
         refine pu 16 47 HT_ (h := ?_)
         refine pu 17 48 HT_ (h := ?_)
         refine join_ (σ := Nat) 1 #[true, true, true, true, true, true, true, true, true, true, true, true, true, true, true, true, true, true, true, true, false] (fun s_ => [(40, .int .i64 t120), (8, .pointer (some ⟨s_, 0, none⟩)), (41, .int .i64 (Int.tmod t120 16384)), (49, .agg #[.bool ((Int.tmod (wrap64 (Int.tdiv t118 4096)) 2) == 1), .int .i64 (Int.tmod t118 2048), .int .i64 (Int.tmod t120 16384), .string (a0.extract ((ji11) : Int).toNat ((wrap64 (a1 + (wrap64 (t119 + 7)))) : Int).toNat)])]) (fun s_ w' => (w'.heap[gb116]? = some (.cells #[.bool false, .int .i64 0, .int .i64 0, .string (⟨#[]⟩ : ByteArray)] 23 (0, 0))) ∧ (w'.heap[s_]? = some (.cells #[.bool false, .int .i64 0, .int .i64 0, .string (⟨#[]⟩ : ByteArray)] 23 (0, 0))) ∧ (w.heap.size ≤ s_) ∧ (w.heap.size ≤ s_) ∧ (gb116 ≠ s_) ∧ (s_ ≠ gb116) ∧ (Below w.heap.size w w')) ?_ ?_
         rotate_left
         ·intro hCont
          refine two_ (i := 9) (j := 19) (Ni := some 40) (Nj := some 8) #[true, true, true, true, true, true, true, true, true, true, false, true, true, true, true, true, true, true, false, false, false] #[true, true, true, true, true, true, true, true, true, false, false, true, true, true, true, true, true, true, false, true, false] rfl rfl rfl rfl (two_of HT_.out (by kernel_rfl)) (by decide) (by decide) (fun K hK => ?_) (fun K hK => ?_)
          ·skip
           refine goes_ Tryd.func32 (by kernel_rfl) rfl #[.string a0, .int .i64 (wrap64 (a1 + 2)), .int .i64 2] (by rfl) rfl rfl gl_ ?_
           with_reducible refine (spec_l1Get.calls k a0 (wrap64 (a1 + 2)) 2 t120 _ A10.out).mono ?_
           rintro e w' ⟨rfl, ⟨nd, rfl⟩⟩
           refine ⟨_, rfl, ?_⟩
           refine hK.out _ _ trivial (fun hHeld => ?_)
           clear hK K
           refine norm_ (a' := ?_) ?_ ?_
           rotate_left
           ·show Act.put _ (some 40) _ = _
            simp only [Act.put, List.setIfInBounds_toArray, List.set_cons_zero, List.set_cons_succ, i64_w, i32_w]
            rfl
           refine pu 10 41 HT_ (h := ?_)
           refine pu 18 49 HT_ (h := ?_)
           refine one_ (i := 19) (N := some 8) #[true, true, true, true, true, true, true, true, true, true, true, true, true, true, true, true, true, true, true, true, false] rfl rfl (one_of HT_.out (by kernel_rfl)) (by decide) (fun K hK => ?_)
           refine box_step ?hg (N := 8) ?hd (cs := #[.bool false, .int .i64 0, .int .i64 0, .string (⟨#[]⟩ : ByteArray)]) (t := 23) ?hr ?_; (case hd => rfl); (case hg => rfl); (case hr => first | (go_simp; done) | (go_simp; rfl))
           intro gb121 hg w22 hbox hb
           have n0_ := m_ (blk_below (g := gb116) (o := .cells #[.bool false, .int .i64 0, .int .i64 0, .string (⟨#[]⟩ : ByteArray)] 23 (0, 0)) (kN BK116.out) hb)
           have n1_ := m_ (below_step (bN HB.out) hb)
           have n2_ := m_ (hbox)
           have n3_ := m_ ((by rw [hg]; exact (below_size (bN HB.out)) : w.heap.size ≤ gb121))
           have n4_ := m_ ((by rw [hg]; exact (below_size (bN HB.out)) : w.heap.size ≤ gb121))
           have n5_ := m_ ((by rw [hg]; exact Nat.ne_of_lt (blk_lt (g := gb116) (o := .cells #[.bool false, .int .i64 0, .int .i64 0, .string (⟨#[]⟩ : ByteArray)] 23 (0, 0)) (kN BK116.out)) : gb116 ≠ gb121))
           have n6_ := m_ ((by rw [hg]; exact Nat.ne_of_gt (blk_lt (g := gb116) (o := .cells #[.bool false, .int .i64 0, .int .i64 0, .string (⟨#[]⟩ : ByteArray)] 23 (0, 0)) (kN BK116.out)) : gb121 ≠ gb116))
           clear BK116
           clear HB
           have BK116 := n0_
           have HB := n1_
           have BK121 := n2_
           have GW121 := n3_
           have GE121 := n4_
           have NB116_121 := n5_
           have NB121_116 := n6_
           clear n0_ n1_ n2_ n3_ n4_ n5_ n6_
           clear hb hbox hg
           refine hK.out _ _ trivial (fun hHeld => ?_)
           clear hK K
           refine norm_ (a' := ?_) ?_ ?_
           rotate_left
           ·show Act.put _ (some 8) _ = _
            simp only [Act.put, List.setIfInBounds_toArray, List.set_cons_zero, List.set_cons_succ, i64_w, i32_w]
            rfl
           exact norm_ (by simp only [putAll, Act.put, List.setIfInBounds_toArray, List.set_cons_zero, List.set_cons_succ]) (hCont (gb121) _ ⟨(kN BK116.out), (kN BK121.out), GW121.out, GE121.out, NB116_121.out, NB121_116.out, (bN HB.out)⟩)
          ·skip
           refine box_step ?hg (N := 8) ?hd (cs := #[.bool false, .int .i64 0, .int .i64 0, .string (⟨#[]⟩ : ByteArray)]) (t := 23) ?hr ?_; (case hd => rfl); (case hg => rfl); (case hr => first | (go_simp; done) | (go_simp; rfl))
           intro gb121 hg w22 hbox hb
           have n0_ := m_ (blk_below (g := gb116) (o := .cells #[.bool false, .int .i64 0, .int .i64 0, .string (⟨#[]⟩ : ByteArray)] 23 (0, 0)) (kN BK116.out) hb)
           have n1_ := m_ (below_step (bN HB.out) hb)
           have n2_ := m_ (hbox)
           have n3_ := m_ ((by rw [hg]; exact (below_size (bN HB.out)) : w.heap.size ≤ gb121))
           have n4_ := m_ ((by rw [hg]; exact (below_size (bN HB.out)) : w.heap.size ≤ gb121))
           have n5_ := m_ ((by rw [hg]; exact Nat.ne_of_lt (blk_lt (g := gb116) (o := .cells #[.bool false, .int .i64 0, .int .i64 0, .string (⟨#[]⟩ : ByteArray)] 23 (0, 0)) (kN BK116.out)) : gb116 ≠ gb121))
           have n6_ := m_ ((by rw [hg]; exact Nat.ne_of_gt (blk_lt (g := gb116) (o := .cells #[.bool false, .int .i64 0, .int .i64 0, .string (⟨#[]⟩ : ByteArray)] 23 (0, 0)) (kN BK116.out)) : gb121 ≠ gb116))
           clear BK116
           clear HB
           have BK116 := n0_
           have HB := n1_
           have BK121 := n2_
           have GW121 := n3_
           have GE121 := n4_
           have NB116_121 := n5_
           have NB121_116 := n6_
           clear n0_ n1_ n2_ n3_ n4_ n5_ n6_
           clear hb hbox hg
           refine hK.out _ _ trivial (fun hHeld => ?_)
           clear hK K
           refine norm_ (a' := ?_) ?_ ?_
           rotate_left
           ·show Act.put _ (some 8) _ = _
            simp only [Act.put, List.setIfInBounds_toArray, List.set_cons_zero, List.set_cons_succ, i64_w, i32_w]
            rfl
           refine one_ (i := 9) (N := some 40) #[true, true, true, true, true, true, true, true, true, true, false, true, true, true, true, true, true, true, false, true, false] rfl rfl (one_of HT_.out (by kernel_rfl)) (by decide) (fun K hK => ?_)
           refine goes_ Tryd.func32 (by kernel_rfl) rfl #[.string a0, .int .i64 (wrap64 (a1 + 2)), .int .i64 2] (by rfl) rfl rfl gl_ ?_
           with_reducible refine (spec_l1Get.calls k a0 (wrap64 (a1 + 2)) 2 t120 _ A10.out).mono ?_
           rintro e w' ⟨rfl, ⟨nd, rfl⟩⟩
           refine ⟨_, rfl, ?_⟩
           refine hK.out _ _ trivial (fun hHeld => ?_)
           clear hK K
           refine norm_ (a' := ?_) ?_ ?_
           rotate_left
           ·show Act.put _ (some 40) _ = _
            simp only [Act.put, List.setIfInBounds_toArray, List.set_cons_zero, List.set_cons_succ, i64_w, i32_w]
            rfl
           refine pu 10 41 HT_ (h := ?_)
           refine pu 18 49 HT_ (h := ?_)
           exact norm_ (by simp only [putAll, Act.put, List.setIfInBounds_toArray, List.set_cons_zero, List.set_cons_succ]) (hCont (gb121) _ ⟨(kN BK116.out), (kN BK121.out), GW121.out, GE121.out, NB116_121.out, NB121_116.out, (bN HB.out)⟩)
         rintro gb121 w23 ⟨h0_, h1_, h2_, h3_, h4_, h5_, h6_⟩
         have n0_ : Aside0 (w23.heap[gb116]? = some (.cells #[.bool false, .int .i64 0, .int .i64 0, .string (⟨#[]⟩ : ByteArray)] 23 (0, 0))) := ⟨h0_⟩
         have n1_ : Aside0 (w23.heap[gb121]? = some (.cells #[.bool false, .int .i64 0, .int .i64 0, .string (⟨#[]⟩ : ByteArray)] 23 (0, 0))) := ⟨h1_⟩
         have n2_ : Aside0 (w.heap.size ≤ gb121) := ⟨h2_⟩
         have n3_ : Aside0 (w.heap.size ≤ gb121) := ⟨h3_⟩
         have n4_ : Aside0 (gb116 ≠ gb121) := ⟨h4_⟩
         have n5_ : Aside0 (gb121 ≠ gb116) := ⟨h5_⟩
         have n6_ : Aside0 (Below w.heap.size w w23) := ⟨h6_⟩
         clear BK116
         clear HB
         clear h0_ h1_ h2_ h3_ h4_ h5_ h6_
         have BK116 := n0_
         have BK121 := n1_
         have GW121 := n2_
         have GE121 := n3_
         have NB116_121 := n4_
         have NB121_116 := n5_
         have HB := n6_
         clear n0_ n1_ n2_ n3_ n4_ n5_ n6_
         have hHeld := trivial
         refine norm_ (a' := ?_) ?_ ?_
         rotate_left
         ·simp only [putAll, Act.put, List.setIfInBounds_toArray, List.set_cons_zero, List.set_cons_succ]
          rfl
         refine one_ (i := 20) (N := none) #[true, true, true, true, true, true, true, true, true, true, true, true, true, true, true, true, true, true, true, true, true] rfl rfl (one_of HT_.out (by kernel_rfl)) (by decide) (fun K hK => ?_)
         have hs24 : w23.cell? ⟨gb121, 0, none⟩ = some (.bool false) := (blk_cell BK121.out 0).trans rfl
         have hfs24 := blk_frozen BK121.out 0
         have hns24_0 := NB116_121.out
         have hms24_0 := NB121_116.out
         have hs25 : w23.cell? ⟨gb121, 1, none⟩ = some (.int .i64 0) := (blk_cell BK121.out 1).trans rfl
         have hfs25 := blk_frozen BK121.out 1
         have hns25_0 := NB116_121.out
         have hms25_0 := NB121_116.out
         have hs26 : w23.cell? ⟨gb121, 2, none⟩ = some (.int .i64 0) := (blk_cell BK121.out 2).trans rfl
         have hfs26 := blk_frozen BK121.out 2
         have hns26_0 := NB116_121.out
         have hms26_0 := NB121_116.out
         have hs27 : w23.cell? ⟨gb121, 3, none⟩ = some (.string (⟨#[]⟩ : ByteArray)) := (blk_cell BK121.out 3).trans rfl
         have hfs27 := blk_frozen BK121.out 3
         have hns27_0 := NB116_121.out
         have hms27_0 := NB121_116.out
         refine skip_ (w1 := ?_) (by rfl) rfl ?_ ?_
         rotate_left
         ·go_simp
          rfl
         refine hK.out _ _ trivial (fun hHeld => ?_)
         clear hK K
         refine done_ (done_of HT_.out (by kernel_rfl)) ?_
         try go_wp2
         have n0_ : Aside0 (((((w23.setCell ⟨gb121, 0, none⟩ (.bool ((Int.tmod (wrap64 (Int.tdiv t118 4096)) 2) == 1))).setCell ⟨gb121, 1, none⟩ (.int .i64 (Int.tmod t118 2048))).setCell ⟨gb121, 2, none⟩ (.int .i64 (Int.tmod t120 16384))).setCell ⟨gb121, 3, none⟩ (.string (a0.extract ((ji11) : Int).toNat ((wrap64 (a1 + (wrap64 (t119 + 7)))) : Int).toNat))).heap[gb116]? = some (.cells #[.bool false, .int .i64 0, .int .i64 0, .string (⟨#[]⟩ : ByteArray)] 23 (0, 0))) := ⟨kF BK116.out NB116_121.out⟩
         have n1_ : Aside0 (((((w23.setCell ⟨gb121, 0, none⟩ (.bool ((Int.tmod (wrap64 (Int.tdiv t118 4096)) 2) == 1))).setCell ⟨gb121, 1, none⟩ (.int .i64 (Int.tmod t118 2048))).setCell ⟨gb121, 2, none⟩ (.int .i64 (Int.tmod t120 16384))).setCell ⟨gb121, 3, none⟩ (.string (a0.extract ((ji11) : Int).toNat ((wrap64 (a1 + (wrap64 (t119 + 7)))) : Int).toNat))).heap[gb121]? = some (.cells #[.bool ((Int.tmod (wrap64 (Int.tdiv t118 4096)) 2) == 1), .int .i64 (Int.tmod t118 2048), .int .i64 (Int.tmod t120 16384), .string (a0.extract ((ji11) : Int).toNat ((wrap64 (a1 + (wrap64 (t119 + 7)))) : Int).toNat)] 23 (0, 0))) := ⟨kP BK121.out⟩
         have n2_ : Aside0 (Below w.heap.size w ((((w23.setCell ⟨gb121, 0, none⟩ (.bool ((Int.tmod (wrap64 (Int.tdiv t118 4096)) 2) == 1))).setCell ⟨gb121, 1, none⟩ (.int .i64 (Int.tmod t118 2048))).setCell ⟨gb121, 2, none⟩ (.int .i64 (Int.tmod t120 16384))).setCell ⟨gb121, 3, none⟩ (.string (a0.extract ((ji11) : Int).toNat ((wrap64 (a1 + (wrap64 (t119 + 7)))) : Int).toNat)))) := ⟨by repeat (first | (with_reducible first | exact HB.out | apply below_alloc | apply pw_below_drewN | apply below_drew1 | refine below_set ?_ GE116.out | refine below_set ?_ GE121.out) | exact HB.out)⟩
         (try clear BK116)
         (try clear BK121)
         (try clear HB)
         generalize ((((w23.setCell ⟨gb121, 0, none⟩ (.bool ((Int.tmod (wrap64 (Int.tdiv t118 4096)) 2) == 1))).setCell ⟨gb121, 1, none⟩ (.int .i64 (Int.tmod t118 2048))).setCell ⟨gb121, 2, none⟩ (.int .i64 (Int.tmod t120 16384))).setCell ⟨gb121, 3, none⟩ (.string (a0.extract ((ji11) : Int).toNat ((wrap64 (a1 + (wrap64 (t119 + 7)))) : Int).toNat))) = w28 at n0_ n1_ n2_ ⊢
         have BK116 := n0_
         have BK121 := n1_
         have HB := n2_
         clear n0_ n1_ n2_
         have n0_ := m_ (blk_drew BK116.out)
         have n1_ := m_ (blk_drew BK121.out)
         have n2_ := m_ (below_drew1 HB.out)
         clear BK116
         clear BK121
         clear HB
         have BK116 := n0_
         have BK121 := n1_
         have HB := n2_
         clear n0_ n1_ n2_
         refine start_ (n := 9) (S := fun w' => w'.cell? ⟨gb121, 0, none⟩ = some (.bool ((Int.tmod (wrap64 (Int.tdiv t118 4096)) 2) == 1)) ∧ w'.cell? ⟨gb121, 1, none⟩ = some (.int .i64 (Int.tmod t118 2048)) ∧ w'.cell? ⟨gb121, 2, none⟩ = some (.int .i64 (Int.tmod t120 16384)) ∧ w'.cell? ⟨gb121, 3, none⟩ = some (.string (a0.extract ((ji11) : Int).toNat ((wrap64 (a1 + (wrap64 (t119 + 7)))) : Int).toNat))) (ds := []) #[false, false, false, false, false, false, false, false, false] (by kernel_rfl) rfl rfl ⟨(blk_cell BK121.out 0).trans rfl, (blk_cell BK121.out 1).trans rfl, (blk_cell BK121.out 2).trans rfl, (blk_cell BK121.out 3).trans rfl⟩ (fun hHeld => ?_); refine with_tabW spec_PacketGet.tab8 spec_PacketGet.bits8 (fun HT_ HW_ => ?_)
         generalize w28.drew = w29 at BK116 BK121 HB hHeld ⊢
         refine pu 2 52 HT_ (h := ?_)
         refine pu 3 53 HT_ (h := ?_)
         refine pu 4 54 HT_ (h := ?_)
         refine pu 5 55 HT_ (h := ?_)
         refine pu 6 56 HT_ (h := ?_)
         refine pu 7 57 HT_ (h := ?_)
         refine take_ (i := 0) (N := some 50) (v := ?_) (a' := ?_) #[true, false, true, true, true, true, true, true, false] rfl rfl (take_ofW HT_.out HW_.out (by kernel_rfl)) (fun _ _ _ h => h) (Or.inl ⟨by rfl, ?_⟩) hHeld ?_ ?_
         rotate_left
         ·rintro w' ⟨s0, s1, s2, s3⟩
          go_simp
          with_reducible rfl
         rotate_left
         ·simp only [Act.put, List.setIfInBounds_toArray, List.set_cons_zero, List.set_cons_succ, i64_w, i32_w]
          rfl
         refine one_ (i := 1) (N := some 51) #[true, true, true, true, true, true, true, true, false] rfl rfl (one_of HT_.out (by kernel_rfl)) (by decide) (fun K hK => ?_)
         refine goes_ Tryd.func15 (by kernel_rfl) rfl #[.agg #[.bool ((Int.tmod (wrap64 (Int.tdiv t118 4096)) 2) == 1), .int .i64 (Int.tmod t118 2048), .int .i64 (Int.tmod t120 16384), .string (a0.extract ((ji11) : Int).toNat ((wrap64 (a1 + (wrap64 (t119 + 7)))) : Int).toNat)]] (by rfl) rfl rfl (by (try simp only [List.map_toArray, List.map_cons, List.map_nil]); first | done | (simp only [hji11]; rfl) | rfl | (simp only [List.length_drop, List.length_take]; rfl)) ?_
         with_reducible refine (spec_PacketPut.calls k ((Int.tmod (wrap64 (Int.tdiv t118 4096)) 2) == 1) (Int.tmod t118 2048) (Int.tmod t120 16384) (a0.extract ((ji11) : Int).toNat ((wrap64 (a1 + (wrap64 (t119 + 7)))) : Int).toNat) t122 _ A15.out).mono ?_
         rintro e w30 ⟨rfl, hb⟩
         refine ⟨_, rfl, ?_⟩
         have n0_ := m_ (blk_below (g := gb116) (o := .cells #[.bool false, .int .i64 0, .int .i64 0, .string (⟨#[]⟩ : ByteArray)] 23 (0, 0)) (kN BK116.out) hb)
         have n1_ := m_ (blk_below (kN BK121.out) hb)
         have n2_ := m_ (below_step (bN HB.out) hb)
         clear BK116
         clear BK121
         clear HB
         have BK116 := n0_
         have BK121 := n1_
         have HB := n2_
         clear n0_ n1_ n2_
         (try clear hb)
         (try clear hb2)
         (try clear hk)
         (try clear hi)
         refine hK.out _ _ ⟨(blk_cell BK121.out 0).trans rfl, (blk_cell BK121.out 1).trans rfl, (blk_cell BK121.out 2).trans rfl, (blk_cell BK121.out 3).trans rfl⟩ (fun hHeld => ?_)
         clear hK K
         refine norm_ (a' := ?_) ?_ ?_
         rotate_left
         ·show Act.put _ (some 51) _ = _
          simp only [Act.put, List.setIfInBounds_toArray, List.set_cons_zero, List.set_cons_succ, i64_w, i32_w]
          rfl
         refine pu 8 58 HT_ (h := ?_)
         refine done_ (done_of HT_.out (by kernel_rfl)) ?_
         have hnb31 := NB121_116.out
         have hnc31 := NB116_121.out
         have hcz32_0 : w30.cell? ⟨gb121, 0, none⟩ = some (.bool ((Int.tmod (wrap64 (Int.tdiv t118 4096)) 2) == 1)) := (blk_cell BK121.out 0).trans rfl
         have hcz32_1 : w30.cell? ⟨gb121, 1, none⟩ = some (.int .i64 (Int.tmod t118 2048)) := (blk_cell BK121.out 1).trans rfl
         have hcz32_2 : w30.cell? ⟨gb121, 2, none⟩ = some (.int .i64 (Int.tmod t120 16384)) := (blk_cell BK121.out 2).trans rfl
         have hcz32_3 : w30.cell? ⟨gb121, 3, none⟩ = some (.string (a0.extract ((ji11) : Int).toNat ((wrap64 (a1 + (wrap64 (t119 + 7)))) : Int).toNat)) := (blk_cell BK121.out 3).trans rfl
         have hfz32_0 := blk_frozen BK121.out 0
         have hfz32_1 := blk_frozen BK121.out 1
         have hfz32_2 := blk_frozen BK121.out 2
         have hfz32_3 := blk_frozen BK121.out 3
         have hcz33_0 : w30.cell? ⟨gb116, 0, none⟩ = some (.bool false) := (blk_cell BK116.out 0).trans rfl
         have hcz33_1 : w30.cell? ⟨gb116, 1, none⟩ = some (.int .i64 0) := (blk_cell BK116.out 1).trans rfl
         have hcz33_2 : w30.cell? ⟨gb116, 2, none⟩ = some (.int .i64 0) := (blk_cell BK116.out 2).trans rfl
         have hcz33_3 : w30.cell? ⟨gb116, 3, none⟩ = some (.string (⟨#[]⟩ : ByteArray)) := (blk_cell BK116.out 3).trans rfl
         have hfz33_0 := blk_frozen BK116.out 0
         have hfz33_1 := blk_frozen BK116.out 1
         have hfz33_2 := blk_frozen BK116.out 2
         have hfz33_3 := blk_frozen BK116.out 3
         try go_wp2
         refine bodyPost_ret (results_ct rfl _ _ gb116 23 #[.bool ((Int.tmod (wrap64 (Int.tdiv t118 4096)) 2) == 1), .int .i64 (Int.tmod t118 2048), .int .i64 (Int.tmod t120 16384), .string (a0.extract ((ji11) : Int).toNat ((wrap64 (a1 + (wrap64 (t119 + 7)))) : Int).toNat)] (0, 0) _ rfl (kP BK116.out) Tryd.underlying23 rfl (by kernel_rfl)) rfl ?_
         exact ⟨by first | rfl | (simp [errW_none, errW_some] <;> rfl) | (simp only [← hji11]; first | rfl | (simp [errW_none, errW_some] <;> rfl)) | (simp [*, errW_none, errW_some] <;> rfl), by repeat (first | (with_reducible first | exact HB.out | apply below_alloc | apply pw_below_drewN | apply below_drew1 | refine below_set ?_ GE116.out | refine below_set ?_ GE121.out) | exact HB.out)⟩
        ·rw [if_neg c19] at H
         have c19b0 : (t122.toList == (a0.extract (a1 : Int).toNat ((wrap64 (a1 + (wrap64 (t119 + 7)))) : Int).toNat).toList) = false := beq_eq_false_iff_ne.mpr c19
         have c19b1 : (t122.toList != (a0.extract (a1 : Int).toNat ((wrap64 (a1 + (wrap64 (t119 + 7)))) : Int).toNat).toList) = true := bne_iff_ne.mpr c19
         simp only [Option.some.injEq, Prod.mk.injEq] at H
         obtain ⟨rfl, rfl, rfl, rfl, rfl⟩ := H
         go_enter Tryd.func10, Tryd.ntmps10
         try go_wp2_with (first | ((with_reducible refine gate_dst (N := 4) rfl ?_); refine box_event ?hg (N := 4) ?hd (cs := #[.bool false, .int .i64 0, .int .i64 0, .string (⟨#[]⟩ : ByteArray)]) (t := 23) ?hr ?_; (case hd => rfl); (case hg => rfl); (case hr => first | (go_simp; done) | (go_simp; rfl)); intro gb116 hg w34 hbox hb; have n0_ := m_ (below_step (bN HB.out) hb); have n1_ := m_ (hbox); have n2_ := m_ ((by rw [hg]; exact (below_size (bN HB.out)) : w.heap.size ≤ gb116)); have n3_ := m_ ((by rw [hg]; exact (below_size (bN HB.out)) : w.heap.size ≤ gb116)); clear HB; have HB := n0_; have BK116 := n1_; have GW116 := n2_; have GE116 := n3_; clear n0_ n1_ n2_ n3_; clear hb hbox hg) | ((with_reducible refine gate_callee (f := 31) rfl ?_); refine goesL_ (some 13) rfl rfl Tryd.func31 (by kernel_rfl) rfl #[.int .i64 a1, .int .i64 0, .int .i64 (wrap64 ((a0.size : Int) - 7))] rfl gl_ ?_; (with_reducible refine (spec_l1In.calls a1 0 (wrap64 ((a0.size : Int) - 7)) true _ A3.out).mono ?_); rintro e w' ⟨rfl, ⟨nd, rfl⟩⟩; refine ⟨_, rfl, ?_⟩; (try (rw [drewN_self w34]; generalize hq_ : World.drewN w34 _ = w34; have n0_ : Aside0 (w34.heap[gb116]? = some (.cells #[.bool false, .int .i64 0, .int .i64 0, .string (⟨#[]⟩ : ByteArray)] 23 (0, 0))) := ⟨by rw [← hq_]; exact (kN BK116.out)⟩; have n1_ : Aside0 (Below w.heap.size w w34) := ⟨by rw [← hq_]; exact (bN HB.out)⟩; clear BK116 HB hq_; have BK116 := n0_; have HB := n1_; clear n0_ n1_))) | ((with_reducible refine gate_callee (f := 32) rfl ?_); refine goesL_ (some 18) rfl rfl Tryd.func32 (by kernel_rfl) rfl #[.string a0, .int .i64 a1, .int .i64 2] rfl gl_ ?_; (with_reducible refine (spec_l1Get.calls k a0 a1 2 t118 _ A5.out).mono ?_); rintro e w' ⟨rfl, ⟨nd, rfl⟩⟩; refine ⟨_, rfl, ?_⟩; (try (rw [drewN_self w34]; generalize hq_ : World.drewN w34 _ = w34; have n0_ : Aside0 (w34.heap[gb116]? = some (.cells #[.bool false, .int .i64 0, .int .i64 0, .string (⟨#[]⟩ : ByteArray)] 23 (0, 0))) := ⟨by rw [← hq_]; exact (kN BK116.out)⟩; have n1_ : Aside0 (Below w.heap.size w w34) := ⟨by rw [← hq_]; exact (bN HB.out)⟩; clear BK116 HB hq_; have BK116 := n0_; have HB := n1_; clear n0_ n1_))) | ((with_reducible refine gate_callee (f := 32) rfl ?_); refine goesL_ (some 22) rfl rfl Tryd.func32 (by kernel_rfl) rfl #[.string a0, .int .i64 (wrap64 (a1 + 4)), .int .i64 2] rfl gl_ ?_; (with_reducible refine (spec_l1Get.calls k a0 (wrap64 (a1 + 4)) 2 t119 _ A6.out).mono ?_); rintro e w' ⟨rfl, ⟨nd, rfl⟩⟩; refine ⟨_, rfl, ?_⟩; (try (rw [drewN_self w34]; generalize hq_ : World.drewN w34 _ = w34; have n0_ : Aside0 (w34.heap[gb116]? = some (.cells #[.bool false, .int .i64 0, .int .i64 0, .string (⟨#[]⟩ : ByteArray)] 23 (0, 0))) := ⟨by rw [← hq_]; exact (kN BK116.out)⟩; have n1_ : Aside0 (Below w.heap.size w w34) := ⟨by rw [← hq_]; exact (bN HB.out)⟩; clear BK116 HB hq_; have BK116 := n0_; have HB := n1_; clear n0_ n1_))))
         have n0_ := m_ (blk_drew BK116.out)
         have n1_ := m_ (below_drew1 HB.out)
         clear BK116
         clear HB
         have BK116 := n0_
         have HB := n1_
         clear n0_ n1_
         refine start_ (n := 21) (S := fun w' => True) (ds := []) #[false, false, false, false, false, false, false, false, false, false, false, false, false, false, false, false, false, false, false, false, false] (by kernel_rfl) rfl rfl trivial (fun hHeld => ?_); refine with_tabW spec_PacketGet.tab7 spec_PacketGet.bits7 (fun HT_ HW_ => ?_)
         generalize w34.drew = w35 at BK116 HB hHeld ⊢
         refine pu 0 31 HT_ (h := ?_)
         refine pu 1 32 HT_ (h := ?_)
         refine pu 2 33 HT_ (h := ?_)
         refine pu 3 34 HT_ (h := ?_)
         refine pu 4 35 HT_ (h := ?_)
         refine pu 5 36 HT_ (h := ?_)
         refine pu 6 37 HT_ (h := ?_)
         refine pu 7 38 HT_ (h := ?_)
         refine pu 8 39 HT_ (h := ?_)
         refine pu 11 42 HT_ (h := ?_)
         refine pu 12 43 HT_ (h := ?_)
         refine pu 13 44 HT_ (h := ?_)
         refine pu 14 45 HT_ (h := ?_)
         refine pu 15 46 HT_ (h := ?_)
         refine pu 16 47 HT_ (h := ?_)
         refine pu 17 48 HT_ (h := ?_)
         refine join_ (σ := Nat) 1 #[true, true, true, true, true, true, true, true, true, true, true, true, true, true, true, true, true, true, true, true, false] (fun s_ => [(40, .int .i64 t120), (8, .pointer (some ⟨s_, 0, none⟩)), (41, .int .i64 (Int.tmod t120 16384)), (49, .agg #[.bool ((Int.tmod (wrap64 (Int.tdiv t118 4096)) 2) == 1), .int .i64 (Int.tmod t118 2048), .int .i64 (Int.tmod t120 16384), .string (a0.extract ((ji11) : Int).toNat ((wrap64 (a1 + (wrap64 (t119 + 7)))) : Int).toNat)])]) (fun s_ w' => (w'.heap[gb116]? = some (.cells #[.bool false, .int .i64 0, .int .i64 0, .string (⟨#[]⟩ : ByteArray)] 23 (0, 0))) ∧ (w'.heap[s_]? = some (.cells #[.bool false, .int .i64 0, .int .i64 0, .string (⟨#[]⟩ : ByteArray)] 23 (0, 0))) ∧ (w.heap.size ≤ s_) ∧ (w.heap.size ≤ s_) ∧ (gb116 ≠ s_) ∧ (s_ ≠ gb116) ∧ (Below w.heap.size w w')) ?_ ?_
         rotate_left
         ·intro hCont
          refine two_ (i := 9) (j := 19) (Ni := some 40) (Nj := some 8) #[true, true, true, true, true, true, true, true, true, true, false, true, true, true, true, true, true, true, false, false, false] #[true, true, true, true, true, true, true, true, true, false, false, true, true, true, true, true, true, true, false, true, false] rfl rfl rfl rfl (two_of HT_.out (by kernel_rfl)) (by decide) (by decide) (fun K hK => ?_) (fun K hK => ?_)
          ·skip
           refine goes_ Tryd.func32 (by kernel_rfl) rfl #[.string a0, .int .i64 (wrap64 (a1 + 2)), .int .i64 2] (by rfl) rfl rfl gl_ ?_
           with_reducible refine (spec_l1Get.calls k a0 (wrap64 (a1 + 2)) 2 t120 _ A10.out).mono ?_
           rintro e w' ⟨rfl, ⟨nd, rfl⟩⟩
           refine ⟨_, rfl, ?_⟩
           refine hK.out _ _ trivial (fun hHeld => ?_)
           clear hK K
           refine norm_ (a' := ?_) ?_ ?_
           rotate_left
           ·show Act.put _ (some 40) _ = _
            simp only [Act.put, List.setIfInBounds_toArray, List.set_cons_zero, List.set_cons_succ, i64_w, i32_w]
            rfl
           refine pu 10 41 HT_ (h := ?_)
           refine pu 18 49 HT_ (h := ?_)
           refine one_ (i := 19) (N := some 8) #[true, true, true, true, true, true, true, true, true, true, true, true, true, true, true, true, true, true, true, true, false] rfl rfl (one_of HT_.out (by kernel_rfl)) (by decide) (fun K hK => ?_)
           refine box_step ?hg (N := 8) ?hd (cs := #[.bool false, .int .i64 0, .int .i64 0, .string (⟨#[]⟩ : ByteArray)]) (t := 23) ?hr ?_; (case hd => rfl); (case hg => rfl); (case hr => first | (go_simp; done) | (go_simp; rfl))
           intro gb121 hg w36 hbox hb
           have n0_ := m_ (blk_below (g := gb116) (o := .cells #[.bool false, .int .i64 0, .int .i64 0, .string (⟨#[]⟩ : ByteArray)] 23 (0, 0)) (kN BK116.out) hb)
           have n1_ := m_ (below_step (bN HB.out) hb)
           have n2_ := m_ (hbox)
           have n3_ := m_ ((by rw [hg]; exact (below_size (bN HB.out)) : w.heap.size ≤ gb121))
           have n4_ := m_ ((by rw [hg]; exact (below_size (bN HB.out)) : w.heap.size ≤ gb121))
           have n5_ := m_ ((by rw [hg]; exact Nat.ne_of_lt (blk_lt (g := gb116) (o := .cells #[.bool false, .int .i64 0, .int .i64 0, .string (⟨#[]⟩ : ByteArray)] 23 (0, 0)) (kN BK116.out)) : gb116 ≠ gb121))
           have n6_ := m_ ((by rw [hg]; exact Nat.ne_of_gt (blk_lt (g := gb116) (o := .cells #[.bool false, .int .i64 0, .int .i64 0, .string (⟨#[]⟩ : ByteArray)] 23 (0, 0)) (kN BK116.out)) : gb121 ≠ gb116))
           clear BK116
           clear HB
           have BK116 := n0_
           have HB := n1_
           have BK121 := n2_
           have GW121 := n3_
           have GE121 := n4_
           have NB116_121 := n5_
           have NB121_116 := n6_
           clear n0_ n1_ n2_ n3_ n4_ n5_ n6_
           clear hb hbox hg
           refine hK.out _ _ trivial (fun hHeld => ?_)
           clear hK K
           refine norm_ (a' := ?_) ?_ ?_
           rotate_left
           ·show Act.put _ (some 8) _ = _
            simp only [Act.put, List.setIfInBounds_toArray, List.set_cons_zero, List.set_cons_succ, i64_w, i32_w]
            rfl
           exact norm_ (by simp only [putAll, Act.put, List.setIfInBounds_toArray, List.set_cons_zero, List.set_cons_succ]) (hCont (gb121) _ ⟨(kN BK116.out), (kN BK121.out), GW121.out, GE121.out, NB116_121.out, NB121_116.out, (bN HB.out)⟩)
          ·skip
           refine box_step ?hg (N := 8) ?hd (cs := #[.bool false, .int .i64 0, .int .i64 0, .string (⟨#[]⟩ : ByteArray)]) (t := 23) ?hr ?_; (case hd => rfl); (case hg => rfl); (case hr => first | (go_simp; done) | (go_simp; rfl))
           intro gb121 hg w36 hbox hb
           have n0_ := m_ (blk_below (g := gb116) (o := .cells #[.bool false, .int .i64 0, .int .i64 0, .string (⟨#[]⟩ : ByteArray)] 23 (0, 0)) (kN BK116.out) hb)
           have n1_ := m_ (below_step (bN HB.out) hb)
           have n2_ := m_ (hbox)
           have n3_ := m_ ((by rw [hg]; exact (below_size (bN HB.out)) : w.heap.size ≤ gb121))
           have n4_ := m_ ((by rw [hg]; exact (below_size (bN HB.out)) : w.heap.size ≤ gb121))
           have n5_ := m_ ((by rw [hg]; exact Nat.ne_of_lt (blk_lt (g := gb116) (o := .cells #[.bool false, .int .i64 0, .int .i64 0, .string (⟨#[]⟩ : ByteArray)] 23 (0, 0)) (kN BK116.out)) : gb116 ≠ gb121))
           have n6_ := m_ ((by rw [hg]; exact Nat.ne_of_gt (blk_lt (g := gb116) (o := .cells #[.bool false, .int .i64 0, .int .i64 0, .string (⟨#[]⟩ : ByteArray)] 23 (0, 0)) (kN BK116.out)) : gb121 ≠ gb116))
           clear BK116
           clear HB
           have BK116 := n0_
           have HB := n1_
           have BK121 := n2_
           have GW121 := n3_
           have GE121 := n4_
           have NB116_121 := n5_
           have NB121_116 := n6_
           clear n0_ n1_ n2_ n3_ n4_ n5_ n6_
           clear hb hbox hg
           refine hK.out _ _ trivial (fun hHeld => ?_)
           clear hK K
           refine norm_ (a' := ?_) ?_ ?_
           rotate_left
           ·show Act.put _ (some 8) _ = _
            simp only [Act.put, List.setIfInBounds_toArray, List.set_cons_zero, List.set_cons_succ, i64_w, i32_w]
            rfl
           refine one_ (i := 9) (N := some 40) #[true, true, true, true, true, true, true, true, true, true, false, true, true, true, true, true, true, true, false, true, false] rfl rfl (one_of HT_.out (by kernel_rfl)) (by decide) (fun K hK => ?_)
           refine goes_ Tryd.func32 (by kernel_rfl) rfl #[.string a0, .int .i64 (wrap64 (a1 + 2)), .int .i64 2] (by rfl) rfl rfl gl_ ?_
           with_reducible refine (spec_l1Get.calls k a0 (wrap64 (a1 + 2)) 2 t120 _ A10.out).mono ?_
           rintro e w' ⟨rfl, ⟨nd, rfl⟩⟩
           refine ⟨_, rfl, ?_⟩
           refine hK.out _ _ trivial (fun hHeld => ?_)
           clear hK K
           refine norm_ (a' := ?_) ?_ ?_
           rotate_left
           ·show Act.put _ (some 40) _ = _
            simp only [Act.put, List.setIfInBounds_toArray, List.set_cons_zero, List.set_cons_succ, i64_w, i32_w]
            rfl
           refine pu 10 41 HT_ (h := ?_)
           refine pu 18 49 HT_ (h := ?_)
           exact norm_ (by simp only [putAll, Act.put, List.setIfInBounds_toArray, List.set_cons_zero, List.set_cons_succ]) (hCont (gb121) _ ⟨(kN BK116.out), (kN BK121.out), GW121.out, GE121.out, NB116_121.out, NB121_116.out, (bN HB.out)⟩)
         rintro gb121 w37 ⟨h0_, h1_, h2_, h3_, h4_, h5_, h6_⟩
         have n0_ : Aside0 (w37.heap[gb116]? = some (.cells #[.bool false, .int .i64 0, .int .i64 0, .string (⟨#[]⟩ : ByteArray)] 23 (0, 0))) := ⟨h0_⟩
         have n1_ : Aside0 (w37.heap[gb121]? = some (.cells #[.bool false, .int .i64 0, .int .i64 0, .string (⟨#[]⟩ : ByteArray)] 23 (0, 0))) := ⟨h1_⟩
         have n2_ : Aside0 (w.heap.size ≤ gb121) := ⟨h2_⟩
         have n3_ : Aside0 (w.heap.size ≤ gb121) := ⟨h3_⟩
         have n4_ : Aside0 (gb116 ≠ gb121) := ⟨h4_⟩
         have n5_ : Aside0 (gb121 ≠ gb116) := ⟨h5_⟩
         have n6_ : Aside0 (Below w.heap.size w w37) := ⟨h6_⟩
         clear BK116
         clear HB
         clear h0_ h1_ h2_ h3_ h4_ h5_ h6_
         have BK116 := n0_
         have BK121 := n1_
         have GW121 := n2_
         have GE121 := n3_
         have NB116_121 := n4_
         have NB121_116 := n5_
         have HB := n6_
         clear n0_ n1_ n2_ n3_ n4_ n5_ n6_
         have hHeld := trivial
         refine norm_ (a' := ?_) ?_ ?_
         rotate_left
         ·simp only [putAll, Act.put, List.setIfInBounds_toArray, List.set_cons_zero, List.set_cons_succ]
          rfl
         refine one_ (i := 20) (N := none) #[true, true, true, true, true, true, true, true, true, true, true, true, true, true, true, true, true, true, true, true, true] rfl rfl (one_of HT_.out (by kernel_rfl)) (by decide) (fun K hK => ?_)
         have hs38 : w37.cell? ⟨gb121, 0, none⟩ = some (.bool false) := (blk_cell BK121.out 0).trans rfl
         have hfs38 := blk_frozen BK121.out 0
         have hns38_0 := NB116_121.out
         have hms38_0 := NB121_116.out
         have hs39 : w37.cell? ⟨gb121, 1, none⟩ = some (.int .i64 0) := (blk_cell BK121.out 1).trans rfl
         have hfs39 := blk_frozen BK121.out 1
         have hns39_0 := NB116_121.out
         have hms39_0 := NB121_116.out
         have hs40 : w37.cell? ⟨gb121, 2, none⟩ = some (.int .i64 0) := (blk_cell BK121.out 2).trans rfl
         have hfs40 := blk_frozen BK121.out 2
         have hns40_0 := NB116_121.out
         have hms40_0 := NB121_116.out
         have hs41 : w37.cell? ⟨gb121, 3, none⟩ = some (.string (⟨#[]⟩ : ByteArray)) := (blk_cell BK121.out 3).trans rfl
         have hfs41 := blk_frozen BK121.out 3
         have hns41_0 := NB116_121.out
         have hms41_0 := NB121_116.out
         refine skip_ (w1 := ?_) (by rfl) rfl ?_ ?_
         rotate_left
         ·go_simp
          rfl
         refine hK.out _ _ trivial (fun hHeld => ?_)
         clear hK K
         refine done_ (done_of HT_.out (by kernel_rfl)) ?_
         try go_wp2
         have n0_ : Aside0 (((((w37.setCell ⟨gb121, 0, none⟩ (.bool ((Int.tmod (wrap64 (Int.tdiv t118 4096)) 2) == 1))).setCell ⟨gb121, 1, none⟩ (.int .i64 (Int.tmod t118 2048))).setCell ⟨gb121, 2, none⟩ (.int .i64 (Int.tmod t120 16384))).setCell ⟨gb121, 3, none⟩ (.string (a0.extract ((ji11) : Int).toNat ((wrap64 (a1 + (wrap64 (t119 + 7)))) : Int).toNat))).heap[gb116]? = some (.cells #[.bool false, .int .i64 0, .int .i64 0, .string (⟨#[]⟩ : ByteArray)] 23 (0, 0))) := ⟨kF BK116.out NB116_121.out⟩
         have n1_ : Aside0 (((((w37.setCell ⟨gb121, 0, none⟩ (.bool ((Int.tmod (wrap64 (Int.tdiv t118 4096)) 2) == 1))).setCell ⟨gb121, 1, none⟩ (.int .i64 (Int.tmod t118 2048))).setCell ⟨gb121, 2, none⟩ (.int .i64 (Int.tmod t120 16384))).setCell ⟨gb121, 3, none⟩ (.string (a0.extract ((ji11) : Int).toNat ((wrap64 (a1 + (wrap64 (t119 + 7)))) : Int).toNat))).heap[gb121]? = some (.cells #[.bool ((Int.tmod (wrap64 (Int.tdiv t118 4096)) 2) == 1), .int .i64 (Int.tmod t118 2048), .int .i64 (Int.tmod t120 16384), .string (a0.extract ((ji11) : Int).toNat ((wrap64 (a1 + (wrap64 (t119 + 7)))) : Int).toNat)] 23 (0, 0))) := ⟨kP BK121.out⟩
         have n2_ : Aside0 (Below w.heap.size w ((((w37.setCell ⟨gb121, 0, none⟩ (.bool ((Int.tmod (wrap64 (Int.tdiv t118 4096)) 2) == 1))).setCell ⟨gb121, 1, none⟩ (.int .i64 (Int.tmod t118 2048))).setCell ⟨gb121, 2, none⟩ (.int .i64 (Int.tmod t120 16384))).setCell ⟨gb121, 3, none⟩ (.string (a0.extract ((ji11) : Int).toNat ((wrap64 (a1 + (wrap64 (t119 + 7)))) : Int).toNat)))) := ⟨by repeat (first | (with_reducible first | exact HB.out | apply below_alloc | apply pw_below_drewN | apply below_drew1 | refine below_set ?_ GE116.out | refine below_set ?_ GE121.out) | exact HB.out)⟩
         (try clear BK116)
         (try clear BK121)
         (try clear HB)
         generalize ((((w37.setCell ⟨gb121, 0, none⟩ (.bool ((Int.tmod (wrap64 (Int.tdiv t118 4096)) 2) == 1))).setCell ⟨gb121, 1, none⟩ (.int .i64 (Int.tmod t118 2048))).setCell ⟨gb121, 2, none⟩ (.int .i64 (Int.tmod t120 16384))).setCell ⟨gb121, 3, none⟩ (.string (a0.extract ((ji11) : Int).toNat ((wrap64 (a1 + (wrap64 (t119 + 7)))) : Int).toNat))) = w42 at n0_ n1_ n2_ ⊢
         have BK116 := n0_
         have BK121 := n1_
         have HB := n2_
         clear n0_ n1_ n2_
         have n0_ := m_ (blk_drew BK116.out)
         have n1_ := m_ (blk_drew BK121.out)
         have n2_ := m_ (below_drew1 HB.out)
         clear BK116
         clear BK121
         clear HB
         have BK116 := n0_
         have BK121 := n1_
         have HB := n2_
         clear n0_ n1_ n2_
         refine start_ (n := 9) (S := fun w' => w'.cell? ⟨gb121, 0, none⟩ = some (.bool ((Int.tmod (wrap64 (Int.tdiv t118 4096)) 2) == 1)) ∧ w'.cell? ⟨gb121, 1, none⟩ = some (.int .i64 (Int.tmod t118 2048)) ∧ w'.cell? ⟨gb121, 2, none⟩ = some (.int .i64 (Int.tmod t120 16384)) ∧ w'.cell? ⟨gb121, 3, none⟩ = some (.string (a0.extract ((ji11) : Int).toNat ((wrap64 (a1 + (wrap64 (t119 + 7)))) : Int).toNat))) (ds := []) #[false, false, false, false, false, false, false, false, false] (by kernel_rfl) rfl rfl ⟨(blk_cell BK121.out 0).trans rfl, (blk_cell BK121.out 1).trans rfl, (blk_cell BK121.out 2).trans rfl, (blk_cell BK121.out 3).trans rfl⟩ (fun hHeld => ?_); refine with_tabW spec_PacketGet.tab8 spec_PacketGet.bits8 (fun HT_ HW_ => ?_)
         generalize w42.drew = w43 at BK116 BK121 HB hHeld ⊢
         refine pu 2 52 HT_ (h := ?_)
         refine pu 3 53 HT_ (h := ?_)
         refine pu 4 54 HT_ (h := ?_)
         refine pu 5 55 HT_ (h := ?_)
         refine pu 6 56 HT_ (h := ?_)
         refine pu 7 57 HT_ (h := ?_)
         refine take_ (i := 0) (N := some 50) (v := ?_) (a' := ?_) #[true, false, true, true, true, true, true, true, false] rfl rfl (take_ofW HT_.out HW_.out (by kernel_rfl)) (fun _ _ _ h => h) (Or.inl ⟨by rfl, ?_⟩) hHeld ?_ ?_
         rotate_left
         ·rintro w' ⟨s0, s1, s2, s3⟩
          go_simp
          with_reducible rfl
         rotate_left
         ·simp only [Act.put, List.setIfInBounds_toArray, List.set_cons_zero, List.set_cons_succ, i64_w, i32_w]
          rfl
         refine one_ (i := 1) (N := some 51) #[true, true, true, true, true, true, true, true, false] rfl rfl (one_of HT_.out (by kernel_rfl)) (by decide) (fun K hK => ?_)
         refine goes_ Tryd.func15 (by kernel_rfl) rfl #[.agg #[.bool ((Int.tmod (wrap64 (Int.tdiv t118 4096)) 2) == 1), .int .i64 (Int.tmod t118 2048), .int .i64 (Int.tmod t120 16384), .string (a0.extract ((ji11) : Int).toNat ((wrap64 (a1 + (wrap64 (t119 + 7)))) : Int).toNat)]] (by rfl) rfl rfl (by (try simp only [List.map_toArray, List.map_cons, List.map_nil]); first | done | (simp only [hji11]; rfl) | rfl | (simp only [List.length_drop, List.length_take]; rfl)) ?_
         with_reducible refine (spec_PacketPut.calls k ((Int.tmod (wrap64 (Int.tdiv t118 4096)) 2) == 1) (Int.tmod t118 2048) (Int.tmod t120 16384) (a0.extract ((ji11) : Int).toNat ((wrap64 (a1 + (wrap64 (t119 + 7)))) : Int).toNat) t122 _ A15.out).mono ?_
         rintro e w44 ⟨rfl, hb⟩
         refine ⟨_, rfl, ?_⟩
         have n0_ := m_ (blk_below (g := gb116) (o := .cells #[.bool false, .int .i64 0, .int .i64 0, .string (⟨#[]⟩ : ByteArray)] 23 (0, 0)) (kN BK116.out) hb)
         have n1_ := m_ (blk_below (kN BK121.out) hb)
         have n2_ := m_ (below_step (bN HB.out) hb)
         clear BK116
         clear BK121
         clear HB
         have BK116 := n0_
         have BK121 := n1_
         have HB := n2_
         clear n0_ n1_ n2_
         (try clear hb)
         (try clear hb2)
         (try clear hk)
         (try clear hi)
         refine hK.out _ _ ⟨(blk_cell BK121.out 0).trans rfl, (blk_cell BK121.out 1).trans rfl, (blk_cell BK121.out 2).trans rfl, (blk_cell BK121.out 3).trans rfl⟩ (fun hHeld => ?_)
         clear hK K
         refine norm_ (a' := ?_) ?_ ?_
         rotate_left
         ·show Act.put _ (some 51) _ = _
          simp only [Act.put, List.setIfInBounds_toArray, List.set_cons_zero, List.set_cons_succ, i64_w, i32_w]
          rfl
         refine pu 8 58 HT_ (h := ?_)
         refine done_ (done_of HT_.out (by kernel_rfl)) ?_
         have hnb45 := NB116_121.out
         have hnc45 := NB121_116.out
         have hcz46_0 : w44.cell? ⟨gb116, 0, none⟩ = some (.bool false) := (blk_cell BK116.out 0).trans rfl
         have hcz46_1 : w44.cell? ⟨gb116, 1, none⟩ = some (.int .i64 0) := (blk_cell BK116.out 1).trans rfl
         have hcz46_2 : w44.cell? ⟨gb116, 2, none⟩ = some (.int .i64 0) := (blk_cell BK116.out 2).trans rfl
         have hcz46_3 : w44.cell? ⟨gb116, 3, none⟩ = some (.string (⟨#[]⟩ : ByteArray)) := (blk_cell BK116.out 3).trans rfl
         have hfz46_0 := blk_frozen BK116.out 0
         have hfz46_1 := blk_frozen BK116.out 1
         have hfz46_2 := blk_frozen BK116.out 2
         have hfz46_3 := blk_frozen BK116.out 3
         try go_wp2
         refine bodyPost_ret (results_ct rfl _ _ gb116 23 #[.bool false, .int .i64 0, .int .i64 0, .string (⟨#[]⟩ : ByteArray)] (0, 0) _ rfl (kP BK116.out) Tryd.underlying23 rfl (by kernel_rfl)) rfl ?_
         exact ⟨by first | rfl | (simp [errW_none, errW_some] <;> rfl) | (simp only [← hji11]; first | rfl | (simp [errW_none, errW_some] <;> rfl)) | (simp [*, errW_none, errW_some] <;> rfl), by repeat (first | (with_reducible first | exact HB.out | apply below_alloc | apply pw_below_drewN | apply below_drew1 | refine below_set ?_ GE116.out | refine below_set ?_ GE121.out) | exact HB.out)⟩
       ·rw [if_neg c17] at H
        exact absurd H (by simp)
      ·rw [if_neg c16] at H
       exact absurd H (by simp)
     ·rw [if_neg c14] at H
      exact absurd H (by simp)
    ·rw [if_neg c13] at H
     exact absurd H (by simp)
   ·rw [if_neg c12] at H
    exact absurd H (by simp)
 ·replace c4 := Bool.eq_false_iff.mpr c4
  subst c4
  have H1 : (some (false, 0, 0, (⟨#[]⟩ : ByteArray), 0)) = some (r1, r2, r3, r4, r5) := by rw [if_neg (show ¬ (false = true) by decide)] at H; exact H
  clear H
  have H := H1
  clear H1
  simp only [Option.some.injEq, Prod.mk.injEq] at H
  obtain ⟨rfl, rfl, rfl, rfl, rfl⟩ := H
  go_enter Tryd.func10, Tryd.ntmps10
  go_wp2_with (first | ((with_reducible refine gate_dst (N := 4) rfl ?_); refine box_event ?hg (N := 4) ?hd (cs := #[.bool false, .int .i64 0, .int .i64 0, .string (⟨#[]⟩ : ByteArray)]) (t := 23) ?hr ?_; (case hd => rfl); (case hg => rfl); (case hr => first | (go_simp; done) | (go_simp; rfl)); intro gb116 hg w47 hbox hb; have n0_ := m_ (below_step (bN HB.out) hb); have n1_ := m_ (hbox); have n2_ := m_ ((by rw [hg]; exact (below_size (bN HB.out)) : w.heap.size ≤ gb116)); have n3_ := m_ ((by rw [hg]; exact (below_size (bN HB.out)) : w.heap.size ≤ gb116)); clear HB; have HB := n0_; have BK116 := n1_; have GW116 := n2_; have GE116 := n3_; clear n0_ n1_ n2_ n3_; clear hb hbox hg) | ((with_reducible refine gate_callee (f := 31) rfl ?_); refine goesL_ (some 13) rfl rfl Tryd.func31 (by kernel_rfl) rfl #[.int .i64 a1, .int .i64 0, .int .i64 (wrap64 ((a0.size : Int) - 7))] rfl gl_ ?_; (with_reducible refine (spec_l1In.calls a1 0 (wrap64 ((a0.size : Int) - 7)) false _ A3.out).mono ?_); rintro e w' ⟨rfl, ⟨nd, rfl⟩⟩; refine ⟨_, rfl, ?_⟩; (try (rw [drewN_self w47]; generalize hq_ : World.drewN w47 _ = w47; have n0_ : Aside0 (w47.heap[gb116]? = some (.cells #[.bool false, .int .i64 0, .int .i64 0, .string (⟨#[]⟩ : ByteArray)] 23 (0, 0))) := ⟨by rw [← hq_]; exact (kN BK116.out)⟩; have n1_ : Aside0 (Below w.heap.size w w47) := ⟨by rw [← hq_]; exact (bN HB.out)⟩; clear BK116 HB hq_; have BK116 := n0_; have HB := n1_; clear n0_ n1_)); have hcz48_0 : w47.cell? ⟨gb116, 0, none⟩ = some (.bool false) := (blk_cell BK116.out 0).trans rfl; have hcz48_1 : w47.cell? ⟨gb116, 1, none⟩ = some (.int .i64 0) := (blk_cell BK116.out 1).trans rfl; have hcz48_2 : w47.cell? ⟨gb116, 2, none⟩ = some (.int .i64 0) := (blk_cell BK116.out 2).trans rfl; have hcz48_3 : w47.cell? ⟨gb116, 3, none⟩ = some (.string (⟨#[]⟩ : ByteArray)) := (blk_cell BK116.out 3).trans rfl; have hfz48_0 := blk_frozen BK116.out 0; have hfz48_1 := blk_frozen BK116.out 1; have hfz48_2 := blk_frozen BK116.out 2; have hfz48_3 := blk_frozen BK116.out 3))
  refine bodyPost_ret (results_ct rfl _ _ gb116 23 #[.bool false, .int .i64 0, .int .i64 0, .string (⟨#[]⟩ : ByteArray)] (0, 0) _ rfl (kP BK116.out) Tryd.underlying23 rfl (by kernel_rfl)) rfl ?_
  exact ⟨by first | rfl | (simp [errW_none, errW_some] <;> rfl) | (simp [*, errW_none, errW_some] <;> rfl), by repeat (first | (with_reducible first | exact HB.out | apply below_alloc | apply pw_below_drewN | apply below_drew1 | refine below_set ?_ GE116.out) | exact HB.out)⟩

end Go.Proofs.YtllchgipnfdneaaDoor.P
