/- The machine side of these statements, function by function: what each Go function answers (as a Lean function), and that it does. Written by a program (mp.py) for this claim. -/
import Derived.Test.YtllchgipnfdneaaDoorPx0
import Derived.Test.YtllchgipnfdneaaDoorPx5
import Derived.Test.YtllchgipnfdneaaDoorPx6
namespace Go.Proofs.YtllchgipnfdneaaDoor.P
open Go.RowKit Go.Proofs.YtllchgipnfdneaaDoorW.PrintWords Go.Proofs.YtllchgipnfdneaaDoorW.PrintLast Go.Proofs.YtllchgipnfdneaaDoorW.PrintMore
attribute [local go_sem] max2_int min2_int max_two min_two max_three min_three max_four min_four   -- for this text's walks alone
set_option linter.unusedVariables false
set_option linter.unusedSimpArgs false

/-! ### impl_repOk: function 52 -/
def impl_repOk.f (a0_0 : Int) (a0_1 : Int) (a0_2 : Int) (a0_3 : Int) (a0_4 : Int) (a0_5 : ByteArray) : Option (Bool) := (impl_within.f a0_0 2046).bind fun t352 => (if t352 = true then ((impl_within.f a0_1 16383).bind fun t353 => (if t353 = true then ((impl_within.f a0_2 255).bind fun t354 => (if t354 = true then ((impl_within.f a0_3 255).bind fun t355 => (if t355 = true then ((impl_within.f a0_4 99999).bind fun t356 => (if t356 = true then (some (decide ((a0_5.size : Int) ≤ 60))) else (some false))) else (some false))) else (some false))) else (some false))) else (some false))
set_option maxHeartbeats 8000000 in
set_option maxRecDepth 100000 in
theorem impl_repOk.calls (a0_0 : Int) (a0_1 : Int) (a0_2 : Int) (a0_3 : Int) (a0_4 : Int) (a0_5 : ByteArray) (r : Bool) (w : World) (h : impl_repOk.f a0_0 a0_1 a0_2 a0_3 a0_4 a0_5 = some r) :
  Calls Tryd.prog 52 #[.agg #[.int .i64 a0_0, .int .i64 a0_1, .int .i64 a0_2, .int .i64 a0_3, .int .i64 a0_4, .string a0_5]] w fun e w' => e = .returned (.bool r) ∧ Below w.heap.size w w' := by
 have hu35 := Tryd.underlying35
 have HB := m_ (Below.refl w.heap.size w)
 have H : ((impl_within.f a0_0 2046).bind fun t352 => (if t352 = true then ((impl_within.f a0_1 16383).bind fun t353 => (if t353 = true then ((impl_within.f a0_2 255).bind fun t354 => (if t354 = true then ((impl_within.f a0_3 255).bind fun t355 => (if t355 = true then ((impl_within.f a0_4 99999).bind fun t356 => (if t356 = true then (some (decide ((a0_5.size : Int) ≤ 60))) else (some false))) else (some false))) else (some false))) else (some false))) else (some false))) = some r := h
 clear h
 replace H := Option.bind_eq_some_iff.mp H
 obtain ⟨t352, A20, H⟩ := H
 replace H : (if t352 = true then ((impl_within.f a0_1 16383).bind fun t353 => (if t353 = true then ((impl_within.f a0_2 255).bind fun t354 => (if t354 = true then ((impl_within.f a0_3 255).bind fun t355 => (if t355 = true then ((impl_within.f a0_4 99999).bind fun t356 => (if t356 = true then (some (decide ((a0_5.size : Int) ≤ 60))) else (some false))) else (some false))) else (some false))) else (some false))) else (some false)) = some r := H
 have A2 := Aside0.mk A20
 clear A20
 by_cases c3 : t352 = true
 ·subst c3
  have H1 : ((impl_within.f a0_1 16383).bind fun t353 => (if t353 = true then ((impl_within.f a0_2 255).bind fun t354 => (if t354 = true then ((impl_within.f a0_3 255).bind fun t355 => (if t355 = true then ((impl_within.f a0_4 99999).bind fun t356 => (if t356 = true then (some (decide ((a0_5.size : Int) ≤ 60))) else (some false))) else (some false))) else (some false))) else (some false))) = some r := by rw [if_pos rfl] at H; exact H
  clear H
  have H := H1
  clear H1
  replace H := Option.bind_eq_some_iff.mp H
  obtain ⟨t353, A40, H⟩ := H
  replace H : (if t353 = true then ((impl_within.f a0_2 255).bind fun t354 => (if t354 = true then ((impl_within.f a0_3 255).bind fun t355 => (if t355 = true then ((impl_within.f a0_4 99999).bind fun t356 => (if t356 = true then (some (decide ((a0_5.size : Int) ≤ 60))) else (some false))) else (some false))) else (some false))) else (some false)) = some r := H
  have A4 := Aside0.mk A40
  clear A40
  by_cases c5 : t353 = true
  ·subst c5
   have H1 : ((impl_within.f a0_2 255).bind fun t354 => (if t354 = true then ((impl_within.f a0_3 255).bind fun t355 => (if t355 = true then ((impl_within.f a0_4 99999).bind fun t356 => (if t356 = true then (some (decide ((a0_5.size : Int) ≤ 60))) else (some false))) else (some false))) else (some false))) = some r := by rw [if_pos rfl] at H; exact H
   clear H
   have H := H1
   clear H1
   replace H := Option.bind_eq_some_iff.mp H
   obtain ⟨t354, A60, H⟩ := H
   replace H : (if t354 = true then ((impl_within.f a0_3 255).bind fun t355 => (if t355 = true then ((impl_within.f a0_4 99999).bind fun t356 => (if t356 = true then (some (decide ((a0_5.size : Int) ≤ 60))) else (some false))) else (some false))) else (some false)) = some r := H
   have A6 := Aside0.mk A60
   clear A60
   by_cases c7 : t354 = true
   ·subst c7
    have H1 : ((impl_within.f a0_3 255).bind fun t355 => (if t355 = true then ((impl_within.f a0_4 99999).bind fun t356 => (if t356 = true then (some (decide ((a0_5.size : Int) ≤ 60))) else (some false))) else (some false))) = some r := by rw [if_pos rfl] at H; exact H
    clear H
    have H := H1
    clear H1
    replace H := Option.bind_eq_some_iff.mp H
    obtain ⟨t355, A80, H⟩ := H
    replace H : (if t355 = true then ((impl_within.f a0_4 99999).bind fun t356 => (if t356 = true then (some (decide ((a0_5.size : Int) ≤ 60))) else (some false))) else (some false)) = some r := H
    have A8 := Aside0.mk A80
    clear A80
    by_cases c9 : t355 = true
    ·subst c9
     have H1 : ((impl_within.f a0_4 99999).bind fun t356 => (if t356 = true then (some (decide ((a0_5.size : Int) ≤ 60))) else (some false))) = some r := by rw [if_pos rfl] at H; exact H
     clear H
     have H := H1
     clear H1
     replace H := Option.bind_eq_some_iff.mp H
     obtain ⟨t356, A100, H⟩ := H
     replace H : (if t356 = true then (some (decide ((a0_5.size : Int) ≤ 60))) else (some false)) = some r := H
     have A10 := Aside0.mk A100
     clear A100
     by_cases c11 : t356 = true
     ·subst c11
      have H1 : (some (decide ((a0_5.size : Int) ≤ 60))) = some r := by rw [if_pos rfl] at H; exact H
      clear H
      have H := H1
      clear H1
      obtain rfl := Option.some.inj H
      go_enter Tryd.func52, Tryd.ntmps52
      go_wp2_with (first | ((with_reducible refine gate_dst (N := 1) rfl ?_); (try (refine gate_guard (by rfl) ?_; dsimp only)); refine box_event ?hg (N := 1) ?hd (cs := #[.int .i64 a0_0, .int .i64 a0_1, .int .i64 a0_2, .int .i64 a0_3, .int .i64 a0_4, .string a0_5]) (t := 35) ?hr ?_; (case hd => rfl); (case hg => rfl); (case hr => first | (go_simp; done) | (go_simp; rfl)); intro gb351 hg w12 hbox hb; have n0_ := m_ (below_step (bN HB.out) hb); have n1_ := m_ (hbox); have n2_ := m_ ((by rw [hg]; exact (below_size (bN HB.out)) : w.heap.size ≤ gb351)); have n3_ := m_ ((by rw [hg]; exact (below_size (bN HB.out)) : w.heap.size ≤ gb351)); clear HB; have HB := n0_; have BK351 := n1_; have GW351 := n2_; have GE351 := n3_; clear n0_ n1_ n2_ n3_; clear hb hbox hg; have hcz13_0 : w12.cell? ⟨gb351, 0, none⟩ = some (.int .i64 a0_0) := (blk_cell BK351.out 0).trans rfl; have hcz13_1 : w12.cell? ⟨gb351, 1, none⟩ = some (.int .i64 a0_1) := (blk_cell BK351.out 1).trans rfl; have hcz13_2 : w12.cell? ⟨gb351, 2, none⟩ = some (.int .i64 a0_2) := (blk_cell BK351.out 2).trans rfl; have hcz13_3 : w12.cell? ⟨gb351, 3, none⟩ = some (.int .i64 a0_3) := (blk_cell BK351.out 3).trans rfl; have hcz13_4 : w12.cell? ⟨gb351, 4, none⟩ = some (.int .i64 a0_4) := (blk_cell BK351.out 4).trans rfl; have hcz13_5 : w12.cell? ⟨gb351, 5, none⟩ = some (.string a0_5) := (blk_cell BK351.out 5).trans rfl; have hfz13_0 := blk_frozen BK351.out 0; have hfz13_1 := blk_frozen BK351.out 1; have hfz13_2 := blk_frozen BK351.out 2; have hfz13_3 := blk_frozen BK351.out 3; have hfz13_4 := blk_frozen BK351.out 4; have hfz13_5 := blk_frozen BK351.out 5) | ((with_reducible refine gate_callee (f := 70) rfl ?_); refine goesL_ (some 5) rfl rfl Tryd.func70 (by kernel_rfl) rfl #[.int .i64 a0_0, .int .i64 2046] rfl gl_ ?_; (with_reducible refine (impl_within.calls a0_0 2046 true _ A2.out).mono ?_); rintro e w' ⟨rfl, ⟨nd, rfl⟩⟩; refine ⟨_, rfl, ?_⟩) | (go_at_call 70; (with_reducible refine (impl_within.calls a0_1 16383 true _ A4.out).mono ?_); rintro e w' ⟨rfl, ⟨nd, rfl⟩⟩) | (go_at_call 70; (with_reducible refine (impl_within.calls a0_2 255 true _ A6.out).mono ?_); rintro e w' ⟨rfl, ⟨nd, rfl⟩⟩) | (go_at_call 70; (with_reducible refine (impl_within.calls a0_3 255 true _ A8.out).mono ?_); rintro e w' ⟨rfl, ⟨nd, rfl⟩⟩) | (go_at_call 70; (with_reducible refine (impl_within.calls a0_4 99999 true _ A10.out).mono ?_); rintro e w' ⟨rfl, ⟨nd, rfl⟩⟩))
      go_ret
      exact ⟨by first | rfl | (simp [errW_none, errW_some] <;> rfl) | (simp [*, errW_none, errW_some] <;> rfl), by repeat (first | (with_reducible first | exact HB.out | apply below_alloc | apply pw_below_drewN | apply below_drew1 | refine below_set ?_ GE351.out) | exact HB.out)⟩
     ·replace c11 := Bool.eq_false_iff.mpr c11
      subst c11
      have H1 : (some false) = some r := by rw [if_neg (show ¬ (false = true) by decide)] at H; exact H
      clear H
      have H := H1
      clear H1
      obtain rfl := Option.some.inj H
      go_enter Tryd.func52, Tryd.ntmps52
      go_wp2_with (first | ((with_reducible refine gate_dst (N := 1) rfl ?_); (try (refine gate_guard (by rfl) ?_; dsimp only)); refine box_event ?hg (N := 1) ?hd (cs := #[.int .i64 a0_0, .int .i64 a0_1, .int .i64 a0_2, .int .i64 a0_3, .int .i64 a0_4, .string a0_5]) (t := 35) ?hr ?_; (case hd => rfl); (case hg => rfl); (case hr => first | (go_simp; done) | (go_simp; rfl)); intro gb351 hg w14 hbox hb; have n0_ := m_ (below_step (bN HB.out) hb); have n1_ := m_ (hbox); have n2_ := m_ ((by rw [hg]; exact (below_size (bN HB.out)) : w.heap.size ≤ gb351)); have n3_ := m_ ((by rw [hg]; exact (below_size (bN HB.out)) : w.heap.size ≤ gb351)); clear HB; have HB := n0_; have BK351 := n1_; have GW351 := n2_; have GE351 := n3_; clear n0_ n1_ n2_ n3_; clear hb hbox hg; have hcz15_0 : w14.cell? ⟨gb351, 0, none⟩ = some (.int .i64 a0_0) := (blk_cell BK351.out 0).trans rfl; have hcz15_1 : w14.cell? ⟨gb351, 1, none⟩ = some (.int .i64 a0_1) := (blk_cell BK351.out 1).trans rfl; have hcz15_2 : w14.cell? ⟨gb351, 2, none⟩ = some (.int .i64 a0_2) := (blk_cell BK351.out 2).trans rfl; have hcz15_3 : w14.cell? ⟨gb351, 3, none⟩ = some (.int .i64 a0_3) := (blk_cell BK351.out 3).trans rfl; have hcz15_4 : w14.cell? ⟨gb351, 4, none⟩ = some (.int .i64 a0_4) := (blk_cell BK351.out 4).trans rfl; have hcz15_5 : w14.cell? ⟨gb351, 5, none⟩ = some (.string a0_5) := (blk_cell BK351.out 5).trans rfl; have hfz15_0 := blk_frozen BK351.out 0; have hfz15_1 := blk_frozen BK351.out 1; have hfz15_2 := blk_frozen BK351.out 2; have hfz15_3 := blk_frozen BK351.out 3; have hfz15_4 := blk_frozen BK351.out 4; have hfz15_5 := blk_frozen BK351.out 5) | ((with_reducible refine gate_callee (f := 70) rfl ?_); refine goesL_ (some 5) rfl rfl Tryd.func70 (by kernel_rfl) rfl #[.int .i64 a0_0, .int .i64 2046] rfl gl_ ?_; (with_reducible refine (impl_within.calls a0_0 2046 true _ A2.out).mono ?_); rintro e w' ⟨rfl, ⟨nd, rfl⟩⟩; refine ⟨_, rfl, ?_⟩) | (go_at_call 70; (with_reducible refine (impl_within.calls a0_1 16383 true _ A4.out).mono ?_); rintro e w' ⟨rfl, ⟨nd, rfl⟩⟩) | (go_at_call 70; (with_reducible refine (impl_within.calls a0_2 255 true _ A6.out).mono ?_); rintro e w' ⟨rfl, ⟨nd, rfl⟩⟩) | (go_at_call 70; (with_reducible refine (impl_within.calls a0_3 255 true _ A8.out).mono ?_); rintro e w' ⟨rfl, ⟨nd, rfl⟩⟩) | (go_at_call 70; (with_reducible refine (impl_within.calls a0_4 99999 false _ A10.out).mono ?_); rintro e w' ⟨rfl, ⟨nd, rfl⟩⟩))
      go_ret
      exact ⟨by first | rfl | (simp [errW_none, errW_some] <;> rfl) | (simp [*, errW_none, errW_some] <;> rfl), by repeat (first | (with_reducible first | exact HB.out | apply below_alloc | apply pw_below_drewN | apply below_drew1 | refine below_set ?_ GE351.out) | exact HB.out)⟩
    ·replace c9 := Bool.eq_false_iff.mpr c9
     subst c9
     have H1 : (some false) = some r := by rw [if_neg (show ¬ (false = true) by decide)] at H; exact H
     clear H
     have H := H1
     clear H1
     obtain rfl := Option.some.inj H
     go_enter Tryd.func52, Tryd.ntmps52
     go_wp2_with (first | ((with_reducible refine gate_dst (N := 1) rfl ?_); (try (refine gate_guard (by rfl) ?_; dsimp only)); refine box_event ?hg (N := 1) ?hd (cs := #[.int .i64 a0_0, .int .i64 a0_1, .int .i64 a0_2, .int .i64 a0_3, .int .i64 a0_4, .string a0_5]) (t := 35) ?hr ?_; (case hd => rfl); (case hg => rfl); (case hr => first | (go_simp; done) | (go_simp; rfl)); intro gb351 hg w16 hbox hb; have n0_ := m_ (below_step (bN HB.out) hb); have n1_ := m_ (hbox); have n2_ := m_ ((by rw [hg]; exact (below_size (bN HB.out)) : w.heap.size ≤ gb351)); have n3_ := m_ ((by rw [hg]; exact (below_size (bN HB.out)) : w.heap.size ≤ gb351)); clear HB; have HB := n0_; have BK351 := n1_; have GW351 := n2_; have GE351 := n3_; clear n0_ n1_ n2_ n3_; clear hb hbox hg; have hcz17_0 : w16.cell? ⟨gb351, 0, none⟩ = some (.int .i64 a0_0) := (blk_cell BK351.out 0).trans rfl; have hcz17_1 : w16.cell? ⟨gb351, 1, none⟩ = some (.int .i64 a0_1) := (blk_cell BK351.out 1).trans rfl; have hcz17_2 : w16.cell? ⟨gb351, 2, none⟩ = some (.int .i64 a0_2) := (blk_cell BK351.out 2).trans rfl; have hcz17_3 : w16.cell? ⟨gb351, 3, none⟩ = some (.int .i64 a0_3) := (blk_cell BK351.out 3).trans rfl; have hcz17_4 : w16.cell? ⟨gb351, 4, none⟩ = some (.int .i64 a0_4) := (blk_cell BK351.out 4).trans rfl; have hcz17_5 : w16.cell? ⟨gb351, 5, none⟩ = some (.string a0_5) := (blk_cell BK351.out 5).trans rfl; have hfz17_0 := blk_frozen BK351.out 0; have hfz17_1 := blk_frozen BK351.out 1; have hfz17_2 := blk_frozen BK351.out 2; have hfz17_3 := blk_frozen BK351.out 3; have hfz17_4 := blk_frozen BK351.out 4; have hfz17_5 := blk_frozen BK351.out 5) | ((with_reducible refine gate_callee (f := 70) rfl ?_); refine goesL_ (some 5) rfl rfl Tryd.func70 (by kernel_rfl) rfl #[.int .i64 a0_0, .int .i64 2046] rfl gl_ ?_; (with_reducible refine (impl_within.calls a0_0 2046 true _ A2.out).mono ?_); rintro e w' ⟨rfl, ⟨nd, rfl⟩⟩; refine ⟨_, rfl, ?_⟩) | (go_at_call 70; (with_reducible refine (impl_within.calls a0_1 16383 true _ A4.out).mono ?_); rintro e w' ⟨rfl, ⟨nd, rfl⟩⟩) | (go_at_call 70; (with_reducible refine (impl_within.calls a0_2 255 true _ A6.out).mono ?_); rintro e w' ⟨rfl, ⟨nd, rfl⟩⟩) | (go_at_call 70; (with_reducible refine (impl_within.calls a0_3 255 false _ A8.out).mono ?_); rintro e w' ⟨rfl, ⟨nd, rfl⟩⟩))
     go_ret
     exact ⟨by first | rfl | (simp [errW_none, errW_some] <;> rfl) | (simp [*, errW_none, errW_some] <;> rfl), by repeat (first | (with_reducible first | exact HB.out | apply below_alloc | apply pw_below_drewN | apply below_drew1 | refine below_set ?_ GE351.out) | exact HB.out)⟩
   ·replace c7 := Bool.eq_false_iff.mpr c7
    subst c7
    have H1 : (some false) = some r := by rw [if_neg (show ¬ (false = true) by decide)] at H; exact H
    clear H
    have H := H1
    clear H1
    obtain rfl := Option.some.inj H
    go_enter Tryd.func52, Tryd.ntmps52
    go_wp2_with (first | ((with_reducible refine gate_dst (N := 1) rfl ?_); (try (refine gate_guard (by rfl) ?_; dsimp only)); refine box_event ?hg (N := 1) ?hd (cs := #[.int .i64 a0_0, .int .i64 a0_1, .int .i64 a0_2, .int .i64 a0_3, .int .i64 a0_4, .string a0_5]) (t := 35) ?hr ?_; (case hd => rfl); (case hg => rfl); (case hr => first | (go_simp; done) | (go_simp; rfl)); intro gb351 hg w18 hbox hb; have n0_ := m_ (below_step (bN HB.out) hb); have n1_ := m_ (hbox); have n2_ := m_ ((by rw [hg]; exact (below_size (bN HB.out)) : w.heap.size ≤ gb351)); have n3_ := m_ ((by rw [hg]; exact (below_size (bN HB.out)) : w.heap.size ≤ gb351)); clear HB; have HB := n0_; have BK351 := n1_; have GW351 := n2_; have GE351 := n3_; clear n0_ n1_ n2_ n3_; clear hb hbox hg; have hcz19_0 : w18.cell? ⟨gb351, 0, none⟩ = some (.int .i64 a0_0) := (blk_cell BK351.out 0).trans rfl; have hcz19_1 : w18.cell? ⟨gb351, 1, none⟩ = some (.int .i64 a0_1) := (blk_cell BK351.out 1).trans rfl; have hcz19_2 : w18.cell? ⟨gb351, 2, none⟩ = some (.int .i64 a0_2) := (blk_cell BK351.out 2).trans rfl; have hcz19_3 : w18.cell? ⟨gb351, 3, none⟩ = some (.int .i64 a0_3) := (blk_cell BK351.out 3).trans rfl; have hcz19_4 : w18.cell? ⟨gb351, 4, none⟩ = some (.int .i64 a0_4) := (blk_cell BK351.out 4).trans rfl; have hcz19_5 : w18.cell? ⟨gb351, 5, none⟩ = some (.string a0_5) := (blk_cell BK351.out 5).trans rfl; have hfz19_0 := blk_frozen BK351.out 0; have hfz19_1 := blk_frozen BK351.out 1; have hfz19_2 := blk_frozen BK351.out 2; have hfz19_3 := blk_frozen BK351.out 3; have hfz19_4 := blk_frozen BK351.out 4; have hfz19_5 := blk_frozen BK351.out 5) | ((with_reducible refine gate_callee (f := 70) rfl ?_); refine goesL_ (some 5) rfl rfl Tryd.func70 (by kernel_rfl) rfl #[.int .i64 a0_0, .int .i64 2046] rfl gl_ ?_; (with_reducible refine (impl_within.calls a0_0 2046 true _ A2.out).mono ?_); rintro e w' ⟨rfl, ⟨nd, rfl⟩⟩; refine ⟨_, rfl, ?_⟩) | (go_at_call 70; (with_reducible refine (impl_within.calls a0_1 16383 true _ A4.out).mono ?_); rintro e w' ⟨rfl, ⟨nd, rfl⟩⟩) | (go_at_call 70; (with_reducible refine (impl_within.calls a0_2 255 false _ A6.out).mono ?_); rintro e w' ⟨rfl, ⟨nd, rfl⟩⟩))
    go_ret
    exact ⟨by first | rfl | (simp [errW_none, errW_some] <;> rfl) | (simp [*, errW_none, errW_some] <;> rfl), by repeat (first | (with_reducible first | exact HB.out | apply below_alloc | apply pw_below_drewN | apply below_drew1 | refine below_set ?_ GE351.out) | exact HB.out)⟩
  ·replace c5 := Bool.eq_false_iff.mpr c5
   subst c5
   have H1 : (some false) = some r := by rw [if_neg (show ¬ (false = true) by decide)] at H; exact H
   clear H
   have H := H1
   clear H1
   obtain rfl := Option.some.inj H
   go_enter Tryd.func52, Tryd.ntmps52
   go_wp2_with (first | ((with_reducible refine gate_dst (N := 1) rfl ?_); (try (refine gate_guard (by rfl) ?_; dsimp only)); refine box_event ?hg (N := 1) ?hd (cs := #[.int .i64 a0_0, .int .i64 a0_1, .int .i64 a0_2, .int .i64 a0_3, .int .i64 a0_4, .string a0_5]) (t := 35) ?hr ?_; (case hd => rfl); (case hg => rfl); (case hr => first | (go_simp; done) | (go_simp; rfl)); intro gb351 hg w20 hbox hb; have n0_ := m_ (below_step (bN HB.out) hb); have n1_ := m_ (hbox); have n2_ := m_ ((by rw [hg]; exact (below_size (bN HB.out)) : w.heap.size ≤ gb351)); have n3_ := m_ ((by rw [hg]; exact (below_size (bN HB.out)) : w.heap.size ≤ gb351)); clear HB; have HB := n0_; have BK351 := n1_; have GW351 := n2_; have GE351 := n3_; clear n0_ n1_ n2_ n3_; clear hb hbox hg; have hcz21_0 : w20.cell? ⟨gb351, 0, none⟩ = some (.int .i64 a0_0) := (blk_cell BK351.out 0).trans rfl; have hcz21_1 : w20.cell? ⟨gb351, 1, none⟩ = some (.int .i64 a0_1) := (blk_cell BK351.out 1).trans rfl; have hcz21_2 : w20.cell? ⟨gb351, 2, none⟩ = some (.int .i64 a0_2) := (blk_cell BK351.out 2).trans rfl; have hcz21_3 : w20.cell? ⟨gb351, 3, none⟩ = some (.int .i64 a0_3) := (blk_cell BK351.out 3).trans rfl; have hcz21_4 : w20.cell? ⟨gb351, 4, none⟩ = some (.int .i64 a0_4) := (blk_cell BK351.out 4).trans rfl; have hcz21_5 : w20.cell? ⟨gb351, 5, none⟩ = some (.string a0_5) := (blk_cell BK351.out 5).trans rfl; have hfz21_0 := blk_frozen BK351.out 0; have hfz21_1 := blk_frozen BK351.out 1; have hfz21_2 := blk_frozen BK351.out 2; have hfz21_3 := blk_frozen BK351.out 3; have hfz21_4 := blk_frozen BK351.out 4; have hfz21_5 := blk_frozen BK351.out 5) | ((with_reducible refine gate_callee (f := 70) rfl ?_); refine goesL_ (some 5) rfl rfl Tryd.func70 (by kernel_rfl) rfl #[.int .i64 a0_0, .int .i64 2046] rfl gl_ ?_; (with_reducible refine (impl_within.calls a0_0 2046 true _ A2.out).mono ?_); rintro e w' ⟨rfl, ⟨nd, rfl⟩⟩; refine ⟨_, rfl, ?_⟩) | (go_at_call 70; (with_reducible refine (impl_within.calls a0_1 16383 false _ A4.out).mono ?_); rintro e w' ⟨rfl, ⟨nd, rfl⟩⟩))
   go_ret
   exact ⟨by first | rfl | (simp [errW_none, errW_some] <;> rfl) | (simp [*, errW_none, errW_some] <;> rfl), by repeat (first | (with_reducible first | exact HB.out | apply below_alloc | apply pw_below_drewN | apply below_drew1 | refine below_set ?_ GE351.out) | exact HB.out)⟩
 ·replace c3 := Bool.eq_false_iff.mpr c3
  subst c3
  have H1 : (some false) = some r := by rw [if_neg (show ¬ (false = true) by decide)] at H; exact H
  clear H
  have H := H1
  clear H1
  obtain rfl := Option.some.inj H
  go_enter Tryd.func52, Tryd.ntmps52
  go_wp2_with (first | ((with_reducible refine gate_dst (N := 1) rfl ?_); (try (refine gate_guard (by rfl) ?_; dsimp only)); refine box_event ?hg (N := 1) ?hd (cs := #[.int .i64 a0_0, .int .i64 a0_1, .int .i64 a0_2, .int .i64 a0_3, .int .i64 a0_4, .string a0_5]) (t := 35) ?hr ?_; (case hd => rfl); (case hg => rfl); (case hr => first | (go_simp; done) | (go_simp; rfl)); intro gb351 hg w22 hbox hb; have n0_ := m_ (below_step (bN HB.out) hb); have n1_ := m_ (hbox); have n2_ := m_ ((by rw [hg]; exact (below_size (bN HB.out)) : w.heap.size ≤ gb351)); have n3_ := m_ ((by rw [hg]; exact (below_size (bN HB.out)) : w.heap.size ≤ gb351)); clear HB; have HB := n0_; have BK351 := n1_; have GW351 := n2_; have GE351 := n3_; clear n0_ n1_ n2_ n3_; clear hb hbox hg; have hcz23_0 : w22.cell? ⟨gb351, 0, none⟩ = some (.int .i64 a0_0) := (blk_cell BK351.out 0).trans rfl; have hcz23_1 : w22.cell? ⟨gb351, 1, none⟩ = some (.int .i64 a0_1) := (blk_cell BK351.out 1).trans rfl; have hcz23_2 : w22.cell? ⟨gb351, 2, none⟩ = some (.int .i64 a0_2) := (blk_cell BK351.out 2).trans rfl; have hcz23_3 : w22.cell? ⟨gb351, 3, none⟩ = some (.int .i64 a0_3) := (blk_cell BK351.out 3).trans rfl; have hcz23_4 : w22.cell? ⟨gb351, 4, none⟩ = some (.int .i64 a0_4) := (blk_cell BK351.out 4).trans rfl; have hcz23_5 : w22.cell? ⟨gb351, 5, none⟩ = some (.string a0_5) := (blk_cell BK351.out 5).trans rfl; have hfz23_0 := blk_frozen BK351.out 0; have hfz23_1 := blk_frozen BK351.out 1; have hfz23_2 := blk_frozen BK351.out 2; have hfz23_3 := blk_frozen BK351.out 3; have hfz23_4 := blk_frozen BK351.out 4; have hfz23_5 := blk_frozen BK351.out 5) | ((with_reducible refine gate_callee (f := 70) rfl ?_); refine goesL_ (some 5) rfl rfl Tryd.func70 (by kernel_rfl) rfl #[.int .i64 a0_0, .int .i64 2046] rfl gl_ ?_; (with_reducible refine (impl_within.calls a0_0 2046 false _ A2.out).mono ?_); rintro e w' ⟨rfl, ⟨nd, rfl⟩⟩; refine ⟨_, rfl, ?_⟩))
  go_ret
  exact ⟨by first | rfl | (simp [errW_none, errW_some] <;> rfl) | (simp [*, errW_none, errW_some] <;> rfl), by repeat (first | (with_reducible first | exact HB.out | apply below_alloc | apply pw_below_drewN | apply below_drew1 | refine below_set ?_ GE351.out) | exact HB.out)⟩

/-! ### impl_RepPut: function 21 -/
def impl_RepPut.f (k : Nat) (a0_0 : Int) (a0_1 : Int) (a0_2 : Int) (a0_3 : Int) (a0_4 : Int) (a0_5 : ByteArray) : Option ByteArray :=
  (impl_repOk.f a0_0 a0_1 a0_2 a0_3 a0_4 a0_5).bind fun b => if b = true then
    if a0_5.size ≤ 1000 then (impl_NumPut.f k a0_2 1).bind fun x1 => (impl_NumPut.f k a0_3 1).bind fun x2 => (impl_NumPut.f k a0_4 4).bind fun x3 =>
      if x1.size + x2.size + x3.size ≤ 1000 then impl_PacketPut.f k false a0_0 a0_1 (strOfNums (bytesOf ⟨#[32]⟩ ++ (bytesOf x1 ++ (bytesOf x2 ++ (bytesOf x3 ++ bytesOf a0_5))))) else none
    else none else some ⟨#[]⟩
theorem impl_RepPut.mono : ∀ a0 a1 a2 a3 a4 a5 k, LeO (impl_RepPut.f k a0 a1 a2 a3 a4 a5) (impl_RepPut.f (k + 1) a0 a1 a2 a3 a4 a5) := by
  intro a0 a1 a2 a3 a4 a5 k
  unfold impl_RepPut.f
  repeat' first
  | (with_reducible exact impl_NumPut.mono _ _ _)
  | (with_reducible exact impl_PacketPut.mono _ _ _ _ _)
  | (with_reducible exact LeO.refl _)
  | (with_reducible exact LeO.none _)
  | (with_reducible refine LeO.ite ?_ ?_)
  | (with_reducible refine LeO.bind ?_ (fun _ => ?_))
set_option maxHeartbeats 8000000 in
set_option maxRecDepth 100000 in
theorem impl_RepPut.calls (k : Nat) (a0_0 : Int) (a0_1 : Int) (a0_2 : Int) (a0_3 : Int) (a0_4 : Int) (a0_5 : ByteArray) (r : ByteArray) (w : World) (h : impl_RepPut.f k a0_0 a0_1 a0_2 a0_3 a0_4 a0_5 = some r) :
  Calls Tryd.prog 21 #[.agg #[.int .i64 a0_0, .int .i64 a0_1, .int .i64 a0_2, .int .i64 a0_3, .int .i64 a0_4, .string a0_5]] w fun e w' => e = .returned (.string r) ∧ Below w.heap.size w w' := by
  unfold impl_RepPut.f at h
  obtain ⟨b, hb, h⟩ := Option.bind_eq_some_iff.mp h
  have HA := Aside0.mk hb
  clear hb
  cases b with
  | false =>
    simp at h
    subst h
    go_enter Tryd.func21, Tryd.ntmps21
    go_wp2_with fail
    refine (impl_repOk.calls _ _ _ _ _ _ _ _ HA.out).mono ?_
    rintro e w1 ⟨rfl, B1⟩
    go_wp2_with fail
    go_ret
    exact ⟨rfl, ((Below.refl _ _).alloc (Nat.le_refl _) _).trans (B1.mono (by simp))⟩
  | true =>
    rw [if_pos rfl] at h
    split at h
    case isFalse => cases h
    rename_i hlen0
    obtain ⟨x1, A1, h⟩ := Option.bind_eq_some_iff.mp h
    obtain ⟨x2, A2, h⟩ := Option.bind_eq_some_iff.mp h
    obtain ⟨x3, A3, h⟩ := Option.bind_eq_some_iff.mp h
    split at h
    case isFalse => cases h
    rename_i hlen1
    have hlen := Aside0.mk (And.intro hlen0 hlen1)
    clear hlen0 hlen1
    replace A1 := Aside0.mk A1
    replace A2 := Aside0.mk A2
    replace A3 := Aside0.mk A3
    have L1 := Aside0.mk (bytesOf_length x1)
    have L2 := Aside0.mk (bytesOf_length x2)
    have L3 := Aside0.mk (bytesOf_length x3)
    have L4 := Aside0.mk (bytesOf_length a0_5)
    have AP := Aside0.mk h
    clear h
    go_enter Tryd.func21, Tryd.ntmps21
    go_wp2_with fail
    refine (impl_repOk.calls _ _ _ _ _ _ _ _ HA.out).mono ?_
    rintro e w1 ⟨rfl, B1⟩
    have P1 : w1.heap[w.heap.size]? = some (.cells #[.int .i64 a0_0, .int .i64 a0_1, .int .i64 a0_2, .int .i64 a0_3, .int .i64 a0_4, .string a0_5] 35 (0, 0)) := (B1.block _ (by simp)).trans (heap_alloc_new _ _)
    have hB : Below w.heap.size w w1 := ((Below.refl _ _).alloc (Nat.le_refl _) _).trans (B1.mono (by simp))
    replace hB := Aside0.mk hB
    have hz1 : w.heap.size < w1.heap.size := blk_lt P1
    clear B1
    obtain ⟨c0, c1, c2, c3, c4, c5⟩ := box6 P1
    replace P1 := Aside0.mk P1
    go_wp2_with fail
    refine (w_text w1.heap.size _ _ w1 _ (Wr.made w1) (by have s32 : (⟨#[32]⟩ : ByteArray).size = 1 := rfl; have s47 : (⟨#[47]⟩ : ByteArray).size = 1 := rfl; have := hlen.out; have := L1.out; have := L2.out; have := L3.out; have := L4.out; simp [bytesOf_length]; omega)).mono ?_
    rintro e w2 ⟨rfl, R2⟩
    clear c0 c1 c2 c3 c4 c5
    obtain ⟨c0, c1, c2, c3, c4, c5⟩ := box6 (R2.low P1.out hz1)
    replace R2 := Aside0.mk R2
    go_wp2_with fail
    refine (w_number k w1.heap.size _ _ x1 _ w1 _ R2.out A1.out (by have s32 : (⟨#[32]⟩ : ByteArray).size = 1 := rfl; have s47 : (⟨#[47]⟩ : ByteArray).size = 1 := rfl; have := hlen.out; have := L1.out; have := L2.out; have := L3.out; have := L4.out; simp [bytesOf_length]; omega)).mono ?_
    rintro e w3 ⟨rfl, R3⟩
    clear c0 c1 c2 c3 c4 c5 R2
    obtain ⟨c0, c1, c2, c3, c4, c5⟩ := box6 (R3.low P1.out hz1)
    replace R3 := Aside0.mk R3
    go_wp2_with fail
    refine (w_number k w1.heap.size _ _ x2 _ w1 _ R3.out A2.out (by have s32 : (⟨#[32]⟩ : ByteArray).size = 1 := rfl; have s47 : (⟨#[47]⟩ : ByteArray).size = 1 := rfl; have := hlen.out; have := L1.out; have := L2.out; have := L3.out; have := L4.out; simp [bytesOf_length]; omega)).mono ?_
    rintro e w4 ⟨rfl, R4⟩
    clear c0 c1 c2 c3 c4 c5 R3
    obtain ⟨c0, c1, c2, c3, c4, c5⟩ := box6 (R4.low P1.out hz1)
    replace R4 := Aside0.mk R4
    go_wp2_with fail
    refine (w_number k w1.heap.size _ _ x3 _ w1 _ R4.out A3.out (by have s32 : (⟨#[32]⟩ : ByteArray).size = 1 := rfl; have s47 : (⟨#[47]⟩ : ByteArray).size = 1 := rfl; have := hlen.out; have := L1.out; have := L2.out; have := L3.out; have := L4.out; simp [bytesOf_length]; omega)).mono ?_
    rintro e w5 ⟨rfl, R5⟩
    clear c0 c1 c2 c3 c4 c5 R4
    obtain ⟨c0, c1, c2, c3, c4, c5⟩ := box6 (R5.low P1.out hz1)
    replace R5 := Aside0.mk R5
    go_wp2_with fail
    refine (w_text w1.heap.size _ _ w1 _ R5.out (by have s32 : (⟨#[32]⟩ : ByteArray).size = 1 := rfl; have s47 : (⟨#[47]⟩ : ByteArray).size = 1 := rfl; have := hlen.out; have := L1.out; have := L2.out; have := L3.out; have := L4.out; simp [bytesOf_length]; omega)).mono ?_
    rintro e w6 ⟨rfl, R6⟩
    clear c0 c1 c2 c3 c4 c5 R5
    obtain ⟨v5, d0, d1⟩ := R6.blk
    have hB2 := Aside0.mk (R6.below hB.out (Nat.le_of_lt hz1))
    obtain ⟨c0, c1, c2, c3, c4, c5⟩ := box6 (R6.low P1.out hz1)
    replace R6 := Aside0.mk R6
    go_wp2_with fail
    refine (impl_PacketPut.calls k _ _ _ _ _ _ AP.out).mono ?_
    rintro e w7 ⟨rfl, B7⟩
    have hEnd := Aside0.mk (hB2.out.trans (B7.mono hB2.out.size))
    go_wp2_with fail
    go_ret
    exact ⟨rfl, hEnd.out⟩

end Go.Proofs.YtllchgipnfdneaaDoor.P
