/- The machine side of these statements, function by function: what each Go function answers (as a Lean function), and that it does. Written by a program (mp.py) for this claim. -/
import Derived.Test.YtbldbjfmibhffaaDoorPx0
import Derived.Test.YtbldbjfmibhffaaDoorPx1
import Derived.Test.YtbldbjfmibhffaaDoorPx5
import Derived.Test.YtbldbjfmibhffaaDoorPx6
namespace Go.Proofs.YtbldbjfmibhffaaDoor.P
open Go.RowKit Go.Proofs.YtbldbjfmibhffaaDoorW.PrintWords Go.Proofs.YtbldbjfmibhffaaDoorW.PrintLast Go.Proofs.YtbldbjfmibhffaaDoorW.PrintMore
attribute [local go_sem] max2_int min2_int max_two min_two max_three min_three max_four min_four   -- for this text's walks alone
set_option linter.unusedVariables false
set_option linter.unusedSimpArgs false

/-! ### impl_downOk: function 18 -/
def impl_downOk.j0 : Nat → Bool → Bool → Int → Int → Int → Int → Int → ByteArray → ByteArray → Option (Bool)
 | 0, _, _, _, _, _, _, _, _, _ => none
 | k + 1, x4, x5, x219000, x219001, x219002, x219003, x219004, x219005, x219006 => if x4 = true then (if x5 = true then ((impl_within.f x219000 1023).bind fun t227 => (if t227 = true then ((impl_within.f x219001 7).bind fun t228 => (if t228 = true then ((impl_within.f x219002 255).bind fun t229 => (if t229 = true then ((impl_within.f x219003 255).bind fun t230 => (if t230 = true then (some ((x219005.size : Int) == 28)) else (some false))) else (some false))) else (some false))) else (some false))) else (some false)) else (some false)
def impl_downOk.f (k : Nat) (a0_0 : Int) (a0_1 : Int) (a0_2 : Int) (a0_3 : Int) (a0_4 : Int) (a0_5 : ByteArray) (a0_6 : ByteArray) : Option (Bool) := (impl_FarmGet.f k a0_6).bind fun bt219 => ((impl_within.f a0_4 27).bind fun t226 => (if t226 = true then (impl_downOk.j0 k bt219.2.2.2.2.2 true a0_0 a0_1 a0_2 a0_3 a0_4 a0_5 a0_6) else (if a0_4 = 2047 then (impl_downOk.j0 k bt219.2.2.2.2.2 true a0_0 a0_1 a0_2 a0_3 a0_4 a0_5 a0_6) else (impl_downOk.j0 k bt219.2.2.2.2.2 (a0_4 == 2046) a0_0 a0_1 a0_2 a0_3 a0_4 a0_5 a0_6))))
theorem impl_downOk.mono_l : ∀ k, (∀ y0 y1 y2 y3 y4 y5 y6 y7 y8, LeO (impl_downOk.j0 k y0 y1 y2 y3 y4 y5 y6 y7 y8) (impl_downOk.j0 (k + 1) y0 y1 y2 y3 y4 y5 y6 y7 y8))
 | 0 => fun _ _ _ _ _ _ _ _ _ r h => by simp [impl_downOk.j0] at h
 | k + 1 => by
  have ih0 := impl_downOk.mono_l k
  ·intro y0 y1 y2 y3 y4 y5 y6 y7 y8
   unfold impl_downOk.j0
   repeat' first
   | (with_reducible exact ih0 _ _ _ _ _ _ _ _ _)
   | (with_reducible exact impl_FarmGet.mono _ _)
   | (with_reducible exact LeO.refl _)
   | (with_reducible exact LeO.none _)
   | (with_reducible refine LeO.ite ?_ ?_)
   | (with_reducible refine LeO.bind ?_ (fun _ => ?_))
   | exact ih0 _ _ _ _ _ _ _ _ _
   | exact impl_FarmGet.mono _ _
   | exact LeO.none _
   | refine LeO.ite ?_ ?_
   | refine LeO.bind ?_ (fun _ => ?_)
theorem impl_downOk.mono : ∀ a0 a1 a2 a3 a4 a5 a6 k, LeO (impl_downOk.f k a0 a1 a2 a3 a4 a5 a6) (impl_downOk.f (k + 1) a0 a1 a2 a3 a4 a5 a6) := by
 intro a0 a1 a2 a3 a4 a5 a6 k
 have ih0 := impl_downOk.mono_l k
 unfold impl_downOk.f
 repeat' first
   | (with_reducible exact ih0 _ _ _ _ _ _ _ _ _)
   | (with_reducible exact impl_FarmGet.mono _ _)
   | (with_reducible exact LeO.refl _)
   | (with_reducible exact LeO.none _)
   | (with_reducible refine LeO.ite ?_ ?_)
   | (with_reducible refine LeO.bind ?_ (fun _ => ?_))
   | exact ih0 _ _ _ _ _ _ _ _ _
   | exact impl_FarmGet.mono _ _
   | exact LeO.none _
   | refine LeO.ite ?_ ?_
   | refine LeO.bind ?_ (fun _ => ?_)
set_option maxHeartbeats 8000000 in
set_option maxRecDepth 100000 in
theorem impl_downOk.calls (k : Nat) (a0_0 : Int) (a0_1 : Int) (a0_2 : Int) (a0_3 : Int) (a0_4 : Int) (a0_5 : ByteArray) (a0_6 : ByteArray) (r : Bool) (w : World) (h : impl_downOk.f k a0_0 a0_1 a0_2 a0_3 a0_4 a0_5 a0_6 = some r) :
  Calls Tryd.prog 18 #[.agg #[.int .i64 a0_0, .int .i64 a0_1, .int .i64 a0_2, .int .i64 a0_3, .int .i64 a0_4, .string a0_5, .string a0_6]] w fun e w' => e = .returned (.bool r) ∧ Below w.heap.size w w' := by
 have hu33 := Tryd.underlying33
 have hu48 := Tryd.underlying48
 have HB := m_ (Below.refl w.heap.size w)
 have H : ((impl_FarmGet.f k a0_6).bind fun bt219 => ((impl_within.f a0_4 27).bind fun t226 => (if t226 = true then (impl_downOk.j0 k bt219.2.2.2.2.2 true a0_0 a0_1 a0_2 a0_3 a0_4 a0_5 a0_6) else (if a0_4 = 2047 then (impl_downOk.j0 k bt219.2.2.2.2.2 true a0_0 a0_1 a0_2 a0_3 a0_4 a0_5 a0_6) else (impl_downOk.j0 k bt219.2.2.2.2.2 (a0_4 == 2046) a0_0 a0_1 a0_2 a0_3 a0_4 a0_5 a0_6))))) = some r := h
 clear h
 replace H := Option.bind_eq_some_iff.mp H
 obtain ⟨⟨t219, t220, t221, t222, t223, t224⟩, A20, H⟩ := H
 replace H : ((impl_within.f a0_4 27).bind fun t226 => (if t226 = true then (impl_downOk.j0 k t224 true a0_0 a0_1 a0_2 a0_3 a0_4 a0_5 a0_6) else (if a0_4 = 2047 then (impl_downOk.j0 k t224 true a0_0 a0_1 a0_2 a0_3 a0_4 a0_5 a0_6) else (impl_downOk.j0 k t224 (a0_4 == 2046) a0_0 a0_1 a0_2 a0_3 a0_4 a0_5 a0_6)))) = some r := H
 have A2 := Aside0.mk A20
 clear A20
 have HC3 := Aside0.mk H
 clear H
 go_enter Tryd.func18, Tryd.ntmps18
 go_upto_region 2 with (first | ((with_reducible refine gate_dst (N := 1) rfl ?_); (try (refine gate_guard (by rfl) ?_; dsimp only)); refine box_event ?hg (N := 1) ?hd (cs := #[.int .i64 a0_0, .int .i64 a0_1, .int .i64 a0_2, .int .i64 a0_3, .int .i64 a0_4, .string a0_5, .string a0_6]) (t := 33) ?hr ?_; (case hd => rfl); (case hg => rfl); (case hr => first | (go_simp; done) | (go_simp; rfl)); intro gb218 hg w4 hbox hb; have n0_ := m_ (below_step (bN HB.out) hb); have n1_ := m_ (hbox); have n2_ := m_ ((by rw [hg]; exact (below_size (bN HB.out)) : w.heap.size ≤ gb218)); have n3_ := m_ ((by rw [hg]; exact (below_size (bN HB.out)) : w.heap.size ≤ gb218)); clear HB; have HB := n0_; have BK218 := n1_; have GW218 := n2_; have GE218 := n3_; clear n0_ n1_ n2_ n3_; clear hb hbox hg; have hcz5_0 : w4.cell? ⟨gb218, 0, none⟩ = some (.int .i64 a0_0) := bc BK218 0; have hcz5_1 : w4.cell? ⟨gb218, 1, none⟩ = some (.int .i64 a0_1) := bc BK218 1; have hcz5_2 : w4.cell? ⟨gb218, 2, none⟩ = some (.int .i64 a0_2) := bc BK218 2; have hcz5_3 : w4.cell? ⟨gb218, 3, none⟩ = some (.int .i64 a0_3) := bc BK218 3; have hcz5_4 : w4.cell? ⟨gb218, 4, none⟩ = some (.int .i64 a0_4) := bc BK218 4; have hcz5_5 : w4.cell? ⟨gb218, 5, none⟩ = some (.string a0_5) := bc BK218 5; have hcz5_6 : w4.cell? ⟨gb218, 6, none⟩ = some (.string a0_6) := bc BK218 6; have hfz5_0 := blk_frozen BK218.out 0; have hfz5_1 := blk_frozen BK218.out 1; have hfz5_2 := blk_frozen BK218.out 2; have hfz5_3 := blk_frozen BK218.out 3; have hfz5_4 := blk_frozen BK218.out 4; have hfz5_5 := blk_frozen BK218.out 5; have hfz5_6 := blk_frozen BK218.out 6) | ((with_reducible refine gate_callee (f := 26) rfl ?_); refine goesL_ (some 9) rfl rfl Tryd.func26 (by kernel_rfl) rfl #[.string a0_6] rfl gl_ ?_; (with_reducible refine (impl_FarmGet.calls k a0_6 t219 t220 t221 t222 t223 t224 _ A2.out).mono ?_); rintro e w6 ⟨rfl, hb⟩; refine ⟨_, rfl, ?_⟩; have n0_ := m_ (blk_below (kN BK218.out) hb); have n1_ := m_ (below_step (bN HB.out) hb); clear BK218; clear HB; have BK218 := n0_; have HB := n1_; clear n0_ n1_; (try clear hb); (try clear hb2); (try clear hk); (try clear hi)) | ((with_reducible refine gate_dst (N := 3) rfl ?_); (try (refine gate_guard (by rfl) ?_; dsimp only)); refine box_event ?hg (N := 3) ?hd (cs := #[.bool false, .bool false, .bool false, .int .i64 0, .int .i64 0]) (t := 48) ?hr ?_; (case hd => rfl); (case hg => rfl); (case hr => first | (go_simp; done) | (go_simp; rfl)); intro gb225 hg w7 hbox hb; have n0_ := m_ (blk_below (kN BK218.out) hb); have n1_ := m_ (below_step (bN HB.out) hb); have n2_ := m_ (hbox); have n3_ := m_ ((by rw [hg]; exact (below_size (bN HB.out)) : w.heap.size ≤ gb225)); have n4_ := m_ ((by rw [hg]; exact (below_size (bN HB.out)) : w.heap.size ≤ gb225)); have n5_ := m_ (nL hg BK218.out); have n6_ := m_ (nG hg BK218.out); clear BK218; clear HB; have BK218 := n0_; have HB := n1_; have BK225 := n2_; have GW225 := n3_; have GE225 := n4_; have NB218_225 := n5_; have NB225_218 := n6_; clear n0_ n1_ n2_ n3_ n4_ n5_ n6_; clear hb hbox hg; have hnb8 := NB225_218.out; have hnc8 := NB218_225.out; have hcz9_0 : w7.cell? ⟨gb225, 0, none⟩ = some (.bool false) := bc BK225 0; have hcz9_1 : w7.cell? ⟨gb225, 1, none⟩ = some (.bool false) := bc BK225 1; have hcz9_2 : w7.cell? ⟨gb225, 2, none⟩ = some (.bool false) := bc BK225 2; have hcz9_3 : w7.cell? ⟨gb225, 3, none⟩ = some (.int .i64 0) := bc BK225 3; have hcz9_4 : w7.cell? ⟨gb225, 4, none⟩ = some (.int .i64 0) := bc BK225 4; have hfz9_0 := blk_frozen BK225.out 0; have hfz9_1 := blk_frozen BK225.out 1; have hfz9_2 := blk_frozen BK225.out 2; have hfz9_3 := blk_frozen BK225.out 3; have hfz9_4 := blk_frozen BK225.out 4))
 (try simp only [Act.put, List.setIfInBounds_toArray, List.set_cons_zero, List.set_cons_succ])
 go_cut [5] (fun v5 wc => ∃ (kq : Nat) (x5_2 : Bool), v5 = .bool x5_2 ∧ Aside0 (impl_downOk.j0 kq t224 x5_2 a0_0 a0_1 a0_2 a0_3 a0_4 a0_5 a0_6 = some r) ∧ Aside0 (kq ≤ k) ∧ Aside0 (wc.heap[gb218]? = some (.cells #[.int .i64 a0_0, .int .i64 a0_1, .int .i64 a0_2, .int .i64 a0_3, .int .i64 a0_4, .string a0_5, .string a0_6] 33 (0, 0))) ∧ Aside0 (wc.heap[gb225]? = some (.cells #[.bool t219, .bool t220, .bool t221, .int .i64 t222, .int .i64 t223] 48 (0, 0))) ∧ Aside0 (Below w.heap.size w wc))
 case first =>
  have H := HC3.out
  clear HC3
  replace H := Option.bind_eq_some_iff.mp H
  obtain ⟨t226, A100, H⟩ := H
  replace H : (if t226 = true then (impl_downOk.j0 k t224 true a0_0 a0_1 a0_2 a0_3 a0_4 a0_5 a0_6) else (if a0_4 = 2047 then (impl_downOk.j0 k t224 true a0_0 a0_1 a0_2 a0_3 a0_4 a0_5 a0_6) else (impl_downOk.j0 k t224 (a0_4 == 2046) a0_0 a0_1 a0_2 a0_3 a0_4 a0_5 a0_6))) = some r := H
  have A10 := Aside0.mk A100
  clear A100
  by_cases c11 : t226 = true
  ·subst c11
   have H1 : (impl_downOk.j0 k t224 true a0_0 a0_1 a0_2 a0_3 a0_4 a0_5 a0_6) = some r := by rw [if_pos rfl] at H; exact H
   clear H
   have H := H1
   clear H1
   have H' := Aside0.mk H
   clear H
   have hnb12 := NB218_225.out
   have hnc12 := NB225_218.out
   have hcz13_0 : w7.cell? ⟨gb218, 0, none⟩ = some (.int .i64 a0_0) := bc BK218 0
   have hcz13_1 : w7.cell? ⟨gb218, 1, none⟩ = some (.int .i64 a0_1) := bc BK218 1
   have hcz13_2 : w7.cell? ⟨gb218, 2, none⟩ = some (.int .i64 a0_2) := bc BK218 2
   have hcz13_3 : w7.cell? ⟨gb218, 3, none⟩ = some (.int .i64 a0_3) := bc BK218 3
   have hcz13_4 : w7.cell? ⟨gb218, 4, none⟩ = some (.int .i64 a0_4) := bc BK218 4
   have hcz13_5 : w7.cell? ⟨gb218, 5, none⟩ = some (.string a0_5) := bc BK218 5
   have hcz13_6 : w7.cell? ⟨gb218, 6, none⟩ = some (.string a0_6) := bc BK218 6
   have hfz13_0 := blk_frozen BK218.out 0
   have hfz13_1 := blk_frozen BK218.out 1
   have hfz13_2 := blk_frozen BK218.out 2
   have hfz13_3 := blk_frozen BK218.out 3
   have hfz13_4 := blk_frozen BK218.out 4
   have hfz13_5 := blk_frozen BK218.out 5
   have hfz13_6 := blk_frozen BK218.out 6
   go_wp2_with (first | ((with_reducible refine gate_callee (f := 25) rfl ?_); refine goesL_ (some 14) rfl rfl Tryd.func25 (by kernel_rfl) rfl #[.int .i64 a0_4, .int .i64 27] rfl gl_ ?_; (with_reducible refine (impl_within.calls a0_4 27 true _ A10.out).mono ?_); rintro e w' ⟨rfl, ⟨nd, rfl⟩⟩; refine ⟨_, rfl, ?_⟩))
   go_meet
   case rel => exact ⟨_, (true), (by first | rfl | (simp; done) | (simp [*]; done)), H', ⟨by first | omega | exact Nat.le_refl _⟩, ⟨kF BK218.out NB218_225.out⟩, ⟨by (with_reducible repeat (first | refine blk_drewN ?_ _ | refine blk_drew ?_ | refine blk_alloc ?_ _)); refine blk_put (cs := #[.bool t219, .bool t220, .bool t221, .int .i64 t222, .int .i64 0]) ?_ 4 _ rfl; (with_reducible repeat (first | refine blk_drewN ?_ _ | refine blk_drew ?_ | refine blk_alloc ?_ _)); refine blk_put (cs := #[.bool t219, .bool t220, .bool t221, .int .i64 0, .int .i64 0]) ?_ 3 _ rfl; (with_reducible repeat (first | refine blk_drewN ?_ _ | refine blk_drew ?_ | refine blk_alloc ?_ _)); refine blk_put (cs := #[.bool t219, .bool t220, .bool false, .int .i64 0, .int .i64 0]) ?_ 2 _ rfl; (with_reducible repeat (first | refine blk_drewN ?_ _ | refine blk_drew ?_ | refine blk_alloc ?_ _)); refine blk_put (cs := #[.bool t219, .bool false, .bool false, .int .i64 0, .int .i64 0]) ?_ 1 _ rfl; (with_reducible repeat (first | refine blk_drewN ?_ _ | refine blk_drew ?_ | refine blk_alloc ?_ _)); refine blk_put (cs := #[.bool false, .bool false, .bool false, .int .i64 0, .int .i64 0]) ?_ 0 _ rfl; (with_reducible repeat (first | refine blk_drewN ?_ _ | refine blk_drew ?_ | refine blk_alloc ?_ _)); exact BK225.out⟩, ⟨by repeat (first | (with_reducible first | exact HB.out | apply below_alloc | apply pw_below_drewN | apply below_drew1 | refine below_set ?_ GE218.out | refine below_set ?_ GE225.out) | exact HB.out)⟩⟩
  ·replace c11 := Bool.eq_false_iff.mpr c11
   subst c11
   have H1 : (if a0_4 = 2047 then (impl_downOk.j0 k t224 true a0_0 a0_1 a0_2 a0_3 a0_4 a0_5 a0_6) else (impl_downOk.j0 k t224 (a0_4 == 2046) a0_0 a0_1 a0_2 a0_3 a0_4 a0_5 a0_6)) = some r := by rw [if_neg (show ¬ (false = true) by decide)] at H; exact H
   clear H
   have H := H1
   clear H1
   by_cases c14 : a0_4 = 2047
   ·rw [if_pos c14] at H
    have c14b0 : (a0_4 == 2047) = true := beq_iff_eq.mpr c14
    have c14b1 : (a0_4 != 2047) = false := bne_eq_false_iff_eq.mpr c14
    clear c14
    (first | rw [c14b0] | (simp only [i64_w, i32_w]; rw [c14b0]) | skip)
    have H' := Aside0.mk H
    clear H
    have hnb15 := NB218_225.out
    have hnc15 := NB225_218.out
    have hcz16_0 : w7.cell? ⟨gb218, 0, none⟩ = some (.int .i64 a0_0) := bc BK218 0
    have hcz16_1 : w7.cell? ⟨gb218, 1, none⟩ = some (.int .i64 a0_1) := bc BK218 1
    have hcz16_2 : w7.cell? ⟨gb218, 2, none⟩ = some (.int .i64 a0_2) := bc BK218 2
    have hcz16_3 : w7.cell? ⟨gb218, 3, none⟩ = some (.int .i64 a0_3) := bc BK218 3
    have hcz16_4 : w7.cell? ⟨gb218, 4, none⟩ = some (.int .i64 a0_4) := bc BK218 4
    have hcz16_5 : w7.cell? ⟨gb218, 5, none⟩ = some (.string a0_5) := bc BK218 5
    have hcz16_6 : w7.cell? ⟨gb218, 6, none⟩ = some (.string a0_6) := bc BK218 6
    have hfz16_0 := blk_frozen BK218.out 0
    have hfz16_1 := blk_frozen BK218.out 1
    have hfz16_2 := blk_frozen BK218.out 2
    have hfz16_3 := blk_frozen BK218.out 3
    have hfz16_4 := blk_frozen BK218.out 4
    have hfz16_5 := blk_frozen BK218.out 5
    have hfz16_6 := blk_frozen BK218.out 6
    go_wp2_with (first | ((with_reducible refine gate_callee (f := 25) rfl ?_); refine goesL_ (some 14) rfl rfl Tryd.func25 (by kernel_rfl) rfl #[.int .i64 a0_4, .int .i64 27] rfl gl_ ?_; (with_reducible refine (impl_within.calls a0_4 27 false _ A10.out).mono ?_); rintro e w' ⟨rfl, ⟨nd, rfl⟩⟩; refine ⟨_, rfl, ?_⟩))
    go_meet
    case rel => exact ⟨_, (true), (by first | rfl | (simp; done) | (simp [*]; done)), H', ⟨by first | omega | exact Nat.le_refl _⟩, ⟨kF BK218.out NB218_225.out⟩, ⟨by (with_reducible repeat (first | refine blk_drewN ?_ _ | refine blk_drew ?_ | refine blk_alloc ?_ _)); refine blk_put (cs := #[.bool t219, .bool t220, .bool t221, .int .i64 t222, .int .i64 0]) ?_ 4 _ rfl; (with_reducible repeat (first | refine blk_drewN ?_ _ | refine blk_drew ?_ | refine blk_alloc ?_ _)); refine blk_put (cs := #[.bool t219, .bool t220, .bool t221, .int .i64 0, .int .i64 0]) ?_ 3 _ rfl; (with_reducible repeat (first | refine blk_drewN ?_ _ | refine blk_drew ?_ | refine blk_alloc ?_ _)); refine blk_put (cs := #[.bool t219, .bool t220, .bool false, .int .i64 0, .int .i64 0]) ?_ 2 _ rfl; (with_reducible repeat (first | refine blk_drewN ?_ _ | refine blk_drew ?_ | refine blk_alloc ?_ _)); refine blk_put (cs := #[.bool t219, .bool false, .bool false, .int .i64 0, .int .i64 0]) ?_ 1 _ rfl; (with_reducible repeat (first | refine blk_drewN ?_ _ | refine blk_drew ?_ | refine blk_alloc ?_ _)); refine blk_put (cs := #[.bool false, .bool false, .bool false, .int .i64 0, .int .i64 0]) ?_ 0 _ rfl; (with_reducible repeat (first | refine blk_drewN ?_ _ | refine blk_drew ?_ | refine blk_alloc ?_ _)); exact BK225.out⟩, ⟨by repeat (first | (with_reducible first | exact HB.out | apply below_alloc | apply pw_below_drewN | apply below_drew1 | refine below_set ?_ GE218.out | refine below_set ?_ GE225.out) | exact HB.out)⟩⟩
   ·rw [if_neg c14] at H
    have c14b0 : (a0_4 == 2047) = false := beq_eq_false_iff_ne.mpr c14
    have c14b1 : (a0_4 != 2047) = true := bne_iff_ne.mpr c14
    (first | rw [c14b0] | (simp only [i64_w, i32_w]; rw [c14b0]) | skip)
    have H' := Aside0.mk H
    clear H
    have hnb17 := NB218_225.out
    have hnc17 := NB225_218.out
    have hcz18_0 : w7.cell? ⟨gb218, 0, none⟩ = some (.int .i64 a0_0) := bc BK218 0
    have hcz18_1 : w7.cell? ⟨gb218, 1, none⟩ = some (.int .i64 a0_1) := bc BK218 1
    have hcz18_2 : w7.cell? ⟨gb218, 2, none⟩ = some (.int .i64 a0_2) := bc BK218 2
    have hcz18_3 : w7.cell? ⟨gb218, 3, none⟩ = some (.int .i64 a0_3) := bc BK218 3
    have hcz18_4 : w7.cell? ⟨gb218, 4, none⟩ = some (.int .i64 a0_4) := bc BK218 4
    have hcz18_5 : w7.cell? ⟨gb218, 5, none⟩ = some (.string a0_5) := bc BK218 5
    have hcz18_6 : w7.cell? ⟨gb218, 6, none⟩ = some (.string a0_6) := bc BK218 6
    have hfz18_0 := blk_frozen BK218.out 0
    have hfz18_1 := blk_frozen BK218.out 1
    have hfz18_2 := blk_frozen BK218.out 2
    have hfz18_3 := blk_frozen BK218.out 3
    have hfz18_4 := blk_frozen BK218.out 4
    have hfz18_5 := blk_frozen BK218.out 5
    have hfz18_6 := blk_frozen BK218.out 6
    go_wp2_with (first | ((with_reducible refine gate_callee (f := 25) rfl ?_); refine goesL_ (some 14) rfl rfl Tryd.func25 (by kernel_rfl) rfl #[.int .i64 a0_4, .int .i64 27] rfl gl_ ?_; (with_reducible refine (impl_within.calls a0_4 27 false _ A10.out).mono ?_); rintro e w' ⟨rfl, ⟨nd, rfl⟩⟩; refine ⟨_, rfl, ?_⟩))
    go_meet
    case rel => exact ⟨_, ((a0_4 == 2046)), (by first | rfl | (simp; done) | (simp [*]; done)), H', ⟨by first | omega | exact Nat.le_refl _⟩, ⟨kF BK218.out NB218_225.out⟩, ⟨by (with_reducible repeat (first | refine blk_drewN ?_ _ | refine blk_drew ?_ | refine blk_alloc ?_ _)); refine blk_put (cs := #[.bool t219, .bool t220, .bool t221, .int .i64 t222, .int .i64 0]) ?_ 4 _ rfl; (with_reducible repeat (first | refine blk_drewN ?_ _ | refine blk_drew ?_ | refine blk_alloc ?_ _)); refine blk_put (cs := #[.bool t219, .bool t220, .bool t221, .int .i64 0, .int .i64 0]) ?_ 3 _ rfl; (with_reducible repeat (first | refine blk_drewN ?_ _ | refine blk_drew ?_ | refine blk_alloc ?_ _)); refine blk_put (cs := #[.bool t219, .bool t220, .bool false, .int .i64 0, .int .i64 0]) ?_ 2 _ rfl; (with_reducible repeat (first | refine blk_drewN ?_ _ | refine blk_drew ?_ | refine blk_alloc ?_ _)); refine blk_put (cs := #[.bool t219, .bool false, .bool false, .int .i64 0, .int .i64 0]) ?_ 1 _ rfl; (with_reducible repeat (first | refine blk_drewN ?_ _ | refine blk_drew ?_ | refine blk_alloc ?_ _)); refine blk_put (cs := #[.bool false, .bool false, .bool false, .int .i64 0, .int .i64 0]) ?_ 0 _ rfl; (with_reducible repeat (first | refine blk_drewN ?_ _ | refine blk_drew ?_ | refine blk_alloc ?_ _)); exact BK225.out⟩, ⟨by repeat (first | (with_reducible first | exact HB.out | apply below_alloc | apply pw_below_drewN | apply below_drew1 | refine below_set ?_ GE218.out | refine below_set ?_ GE225.out) | exact HB.out)⟩⟩
 case rest =>
  clear HC3
  try clear c1
  try clear c2
  try clear p2
  try clear c8
  try clear c11
  try clear c12
  try clear c14
  try clear c14b0
  try clear c14b1
  try clear c15
  try clear c17
  try clear c18
  try clear hcz13_0
  try clear hcz13_1
  try clear hcz13_2
  try clear hcz13_3
  try clear hcz13_4
  try clear hcz13_5
  try clear hcz13_6
  try clear hcz16_0
  try clear hcz16_1
  try clear hcz16_2
  try clear hcz16_3
  try clear hcz16_4
  try clear hcz16_5
  try clear hcz16_6
  try clear hcz18_0
  try clear hcz18_1
  try clear hcz18_2
  try clear hcz18_3
  try clear hcz18_4
  try clear hcz18_5
  try clear hcz18_6
  try clear hcz5_0
  try clear hcz5_1
  try clear hcz5_2
  try clear hcz5_3
  try clear hcz5_4
  try clear hcz5_5
  try clear hcz5_6
  try clear hcz9_0
  try clear hcz9_1
  try clear hcz9_2
  try clear hcz9_3
  try clear hcz9_4
  try clear hfz13_0
  try clear hfz13_1
  try clear hfz13_2
  try clear hfz13_3
  try clear hfz13_4
  try clear hfz13_5
  try clear hfz13_6
  try clear hfz16_0
  try clear hfz16_1
  try clear hfz16_2
  try clear hfz16_3
  try clear hfz16_4
  try clear hfz16_5
  try clear hfz16_6
  try clear hfz18_0
  try clear hfz18_1
  try clear hfz18_2
  try clear hfz18_3
  try clear hfz18_4
  try clear hfz18_5
  try clear hfz18_6
  try clear hfz5_0
  try clear hfz5_1
  try clear hfz5_2
  try clear hfz5_3
  try clear hfz5_4
  try clear hfz5_5
  try clear hfz5_6
  try clear hfz9_0
  try clear hfz9_1
  try clear hfz9_2
  try clear hfz9_3
  try clear hfz9_4
  obtain ⟨kq, x5_2, rfl, HA, HJ2, BK218, BK225, HB⟩ := hcut
  cases kq with
  | zero => exact absurd HA.out (by simp [impl_downOk.j0])
  | succ kj2 =>
   have H := HA.out
   clear HA
   simp only [impl_downOk.j0] at H
   by_cases c19 : t224 = true
   ·subst c19
    have H1 : (if x5_2 = true then ((impl_within.f a0_0 1023).bind fun t227 => (if t227 = true then ((impl_within.f a0_1 7).bind fun t228 => (if t228 = true then ((impl_within.f a0_2 255).bind fun t229 => (if t229 = true then ((impl_within.f a0_3 255).bind fun t230 => (if t230 = true then (some ((a0_5.size : Int) == 28)) else (some false))) else (some false))) else (some false))) else (some false))) else (some false)) = some r := by rw [if_pos rfl] at H; exact H
    clear H
    have H := H1
    clear H1
    by_cases c20 : x5_2 = true
    ·subst c20
     have H1 : ((impl_within.f a0_0 1023).bind fun t227 => (if t227 = true then ((impl_within.f a0_1 7).bind fun t228 => (if t228 = true then ((impl_within.f a0_2 255).bind fun t229 => (if t229 = true then ((impl_within.f a0_3 255).bind fun t230 => (if t230 = true then (some ((a0_5.size : Int) == 28)) else (some false))) else (some false))) else (some false))) else (some false))) = some r := by rw [if_pos rfl] at H; exact H
     clear H
     have H := H1
     clear H1
     replace H := Option.bind_eq_some_iff.mp H
     obtain ⟨t227, A210, H⟩ := H
     replace H : (if t227 = true then ((impl_within.f a0_1 7).bind fun t228 => (if t228 = true then ((impl_within.f a0_2 255).bind fun t229 => (if t229 = true then ((impl_within.f a0_3 255).bind fun t230 => (if t230 = true then (some ((a0_5.size : Int) == 28)) else (some false))) else (some false))) else (some false))) else (some false)) = some r := H
     have A21 := Aside0.mk A210
     clear A210
     by_cases c22 : t227 = true
     ·subst c22
      have H1 : ((impl_within.f a0_1 7).bind fun t228 => (if t228 = true then ((impl_within.f a0_2 255).bind fun t229 => (if t229 = true then ((impl_within.f a0_3 255).bind fun t230 => (if t230 = true then (some ((a0_5.size : Int) == 28)) else (some false))) else (some false))) else (some false))) = some r := by rw [if_pos rfl] at H; exact H
      clear H
      have H := H1
      clear H1
      replace H := Option.bind_eq_some_iff.mp H
      obtain ⟨t228, A230, H⟩ := H
      replace H : (if t228 = true then ((impl_within.f a0_2 255).bind fun t229 => (if t229 = true then ((impl_within.f a0_3 255).bind fun t230 => (if t230 = true then (some ((a0_5.size : Int) == 28)) else (some false))) else (some false))) else (some false)) = some r := H
      have A23 := Aside0.mk A230
      clear A230
      by_cases c24 : t228 = true
      ·subst c24
       have H1 : ((impl_within.f a0_2 255).bind fun t229 => (if t229 = true then ((impl_within.f a0_3 255).bind fun t230 => (if t230 = true then (some ((a0_5.size : Int) == 28)) else (some false))) else (some false))) = some r := by rw [if_pos rfl] at H; exact H
       clear H
       have H := H1
       clear H1
       replace H := Option.bind_eq_some_iff.mp H
       obtain ⟨t229, A250, H⟩ := H
       replace H : (if t229 = true then ((impl_within.f a0_3 255).bind fun t230 => (if t230 = true then (some ((a0_5.size : Int) == 28)) else (some false))) else (some false)) = some r := H
       have A25 := Aside0.mk A250
       clear A250
       by_cases c26 : t229 = true
       ·subst c26
        have H1 : ((impl_within.f a0_3 255).bind fun t230 => (if t230 = true then (some ((a0_5.size : Int) == 28)) else (some false))) = some r := by rw [if_pos rfl] at H; exact H
        clear H
        have H := H1
        clear H1
        replace H := Option.bind_eq_some_iff.mp H
        obtain ⟨t230, A270, H⟩ := H
        replace H : (if t230 = true then (some ((a0_5.size : Int) == 28)) else (some false)) = some r := H
        have A27 := Aside0.mk A270
        clear A270
        by_cases c28 : t230 = true
        ·subst c28
         have H1 : (some ((a0_5.size : Int) == 28)) = some r := by rw [if_pos rfl] at H; exact H
         clear H
         have H := H1
         clear H1
         obtain rfl := Option.some.inj H
         have hnb29 := NB218_225.out
         have hnc29 := NB225_218.out
         have hcz30_0 : wc.cell? ⟨gb218, 0, none⟩ = some (.int .i64 a0_0) := bc BK218 0
         have hcz30_1 : wc.cell? ⟨gb218, 1, none⟩ = some (.int .i64 a0_1) := bc BK218 1
         have hcz30_2 : wc.cell? ⟨gb218, 2, none⟩ = some (.int .i64 a0_2) := bc BK218 2
         have hcz30_3 : wc.cell? ⟨gb218, 3, none⟩ = some (.int .i64 a0_3) := bc BK218 3
         have hcz30_4 : wc.cell? ⟨gb218, 4, none⟩ = some (.int .i64 a0_4) := bc BK218 4
         have hcz30_5 : wc.cell? ⟨gb218, 5, none⟩ = some (.string a0_5) := bc BK218 5
         have hcz30_6 : wc.cell? ⟨gb218, 6, none⟩ = some (.string a0_6) := bc BK218 6
         have hfz30_0 := blk_frozen BK218.out 0
         have hfz30_1 := blk_frozen BK218.out 1
         have hfz30_2 := blk_frozen BK218.out 2
         have hfz30_3 := blk_frozen BK218.out 3
         have hfz30_4 := blk_frozen BK218.out 4
         have hfz30_5 := blk_frozen BK218.out 5
         have hfz30_6 := blk_frozen BK218.out 6
         go_wp2_with (first | (go_at_call 25; (with_reducible refine (impl_within.calls a0_0 1023 true _ A21.out).mono ?_); rintro e w' ⟨rfl, ⟨nd, rfl⟩⟩) | (go_at_call 25; (with_reducible refine (impl_within.calls a0_1 7 true _ A23.out).mono ?_); rintro e w' ⟨rfl, ⟨nd, rfl⟩⟩) | (go_at_call 25; (with_reducible refine (impl_within.calls a0_2 255 true _ A25.out).mono ?_); rintro e w' ⟨rfl, ⟨nd, rfl⟩⟩) | (go_at_call 25; (with_reducible refine (impl_within.calls a0_3 255 true _ A27.out).mono ?_); rintro e w' ⟨rfl, ⟨nd, rfl⟩⟩))
         go_ret
         exact ⟨by first | rfl | (simp [errW_none, errW_some] <;> rfl) | (simp [*, errW_none, errW_some] <;> rfl), by repeat (first | (with_reducible first | exact HB.out | apply below_alloc | apply pw_below_drewN | apply below_drew1 | refine below_set ?_ GE218.out | refine below_set ?_ GE225.out) | exact HB.out)⟩
        ·replace c28 := Bool.eq_false_iff.mpr c28
         subst c28
         have H1 : (some false) = some r := by rw [if_neg (show ¬ (false = true) by decide)] at H; exact H
         clear H
         have H := H1
         clear H1
         obtain rfl := Option.some.inj H
         have hnb31 := NB218_225.out
         have hnc31 := NB225_218.out
         have hcz32_0 : wc.cell? ⟨gb218, 0, none⟩ = some (.int .i64 a0_0) := bc BK218 0
         have hcz32_1 : wc.cell? ⟨gb218, 1, none⟩ = some (.int .i64 a0_1) := bc BK218 1
         have hcz32_2 : wc.cell? ⟨gb218, 2, none⟩ = some (.int .i64 a0_2) := bc BK218 2
         have hcz32_3 : wc.cell? ⟨gb218, 3, none⟩ = some (.int .i64 a0_3) := bc BK218 3
         have hcz32_4 : wc.cell? ⟨gb218, 4, none⟩ = some (.int .i64 a0_4) := bc BK218 4
         have hcz32_5 : wc.cell? ⟨gb218, 5, none⟩ = some (.string a0_5) := bc BK218 5
         have hcz32_6 : wc.cell? ⟨gb218, 6, none⟩ = some (.string a0_6) := bc BK218 6
         have hfz32_0 := blk_frozen BK218.out 0
         have hfz32_1 := blk_frozen BK218.out 1
         have hfz32_2 := blk_frozen BK218.out 2
         have hfz32_3 := blk_frozen BK218.out 3
         have hfz32_4 := blk_frozen BK218.out 4
         have hfz32_5 := blk_frozen BK218.out 5
         have hfz32_6 := blk_frozen BK218.out 6
         go_wp2_with (first | (go_at_call 25; (with_reducible refine (impl_within.calls a0_0 1023 true _ A21.out).mono ?_); rintro e w' ⟨rfl, ⟨nd, rfl⟩⟩) | (go_at_call 25; (with_reducible refine (impl_within.calls a0_1 7 true _ A23.out).mono ?_); rintro e w' ⟨rfl, ⟨nd, rfl⟩⟩) | (go_at_call 25; (with_reducible refine (impl_within.calls a0_2 255 true _ A25.out).mono ?_); rintro e w' ⟨rfl, ⟨nd, rfl⟩⟩) | (go_at_call 25; (with_reducible refine (impl_within.calls a0_3 255 false _ A27.out).mono ?_); rintro e w' ⟨rfl, ⟨nd, rfl⟩⟩))
         go_ret
         exact ⟨by first | rfl | (simp [errW_none, errW_some] <;> rfl) | (simp [*, errW_none, errW_some] <;> rfl), by repeat (first | (with_reducible first | exact HB.out | apply below_alloc | apply pw_below_drewN | apply below_drew1 | refine below_set ?_ GE218.out | refine below_set ?_ GE225.out) | exact HB.out)⟩
       ·replace c26 := Bool.eq_false_iff.mpr c26
        subst c26
        have H1 : (some false) = some r := by rw [if_neg (show ¬ (false = true) by decide)] at H; exact H
        clear H
        have H := H1
        clear H1
        obtain rfl := Option.some.inj H
        have hnb33 := NB218_225.out
        have hnc33 := NB225_218.out
        have hcz34_0 : wc.cell? ⟨gb218, 0, none⟩ = some (.int .i64 a0_0) := bc BK218 0
        have hcz34_1 : wc.cell? ⟨gb218, 1, none⟩ = some (.int .i64 a0_1) := bc BK218 1
        have hcz34_2 : wc.cell? ⟨gb218, 2, none⟩ = some (.int .i64 a0_2) := bc BK218 2
        have hcz34_3 : wc.cell? ⟨gb218, 3, none⟩ = some (.int .i64 a0_3) := bc BK218 3
        have hcz34_4 : wc.cell? ⟨gb218, 4, none⟩ = some (.int .i64 a0_4) := bc BK218 4
        have hcz34_5 : wc.cell? ⟨gb218, 5, none⟩ = some (.string a0_5) := bc BK218 5
        have hcz34_6 : wc.cell? ⟨gb218, 6, none⟩ = some (.string a0_6) := bc BK218 6
        have hfz34_0 := blk_frozen BK218.out 0
        have hfz34_1 := blk_frozen BK218.out 1
        have hfz34_2 := blk_frozen BK218.out 2
        have hfz34_3 := blk_frozen BK218.out 3
        have hfz34_4 := blk_frozen BK218.out 4
        have hfz34_5 := blk_frozen BK218.out 5
        have hfz34_6 := blk_frozen BK218.out 6
        go_wp2_with (first | (go_at_call 25; (with_reducible refine (impl_within.calls a0_0 1023 true _ A21.out).mono ?_); rintro e w' ⟨rfl, ⟨nd, rfl⟩⟩) | (go_at_call 25; (with_reducible refine (impl_within.calls a0_1 7 true _ A23.out).mono ?_); rintro e w' ⟨rfl, ⟨nd, rfl⟩⟩) | (go_at_call 25; (with_reducible refine (impl_within.calls a0_2 255 false _ A25.out).mono ?_); rintro e w' ⟨rfl, ⟨nd, rfl⟩⟩))
        go_ret
        exact ⟨by first | rfl | (simp [errW_none, errW_some] <;> rfl) | (simp [*, errW_none, errW_some] <;> rfl), by repeat (first | (with_reducible first | exact HB.out | apply below_alloc | apply pw_below_drewN | apply below_drew1 | refine below_set ?_ GE218.out | refine below_set ?_ GE225.out) | exact HB.out)⟩
      ·replace c24 := Bool.eq_false_iff.mpr c24
       subst c24
       have H1 : (some false) = some r := by rw [if_neg (show ¬ (false = true) by decide)] at H; exact H
       clear H
       have H := H1
       clear H1
       obtain rfl := Option.some.inj H
       have hnb35 := NB218_225.out
       have hnc35 := NB225_218.out
       have hcz36_0 : wc.cell? ⟨gb218, 0, none⟩ = some (.int .i64 a0_0) := bc BK218 0
       have hcz36_1 : wc.cell? ⟨gb218, 1, none⟩ = some (.int .i64 a0_1) := bc BK218 1
       have hcz36_2 : wc.cell? ⟨gb218, 2, none⟩ = some (.int .i64 a0_2) := bc BK218 2
       have hcz36_3 : wc.cell? ⟨gb218, 3, none⟩ = some (.int .i64 a0_3) := bc BK218 3
       have hcz36_4 : wc.cell? ⟨gb218, 4, none⟩ = some (.int .i64 a0_4) := bc BK218 4
       have hcz36_5 : wc.cell? ⟨gb218, 5, none⟩ = some (.string a0_5) := bc BK218 5
       have hcz36_6 : wc.cell? ⟨gb218, 6, none⟩ = some (.string a0_6) := bc BK218 6
       have hfz36_0 := blk_frozen BK218.out 0
       have hfz36_1 := blk_frozen BK218.out 1
       have hfz36_2 := blk_frozen BK218.out 2
       have hfz36_3 := blk_frozen BK218.out 3
       have hfz36_4 := blk_frozen BK218.out 4
       have hfz36_5 := blk_frozen BK218.out 5
       have hfz36_6 := blk_frozen BK218.out 6
       go_wp2_with (first | (go_at_call 25; (with_reducible refine (impl_within.calls a0_0 1023 true _ A21.out).mono ?_); rintro e w' ⟨rfl, ⟨nd, rfl⟩⟩) | (go_at_call 25; (with_reducible refine (impl_within.calls a0_1 7 false _ A23.out).mono ?_); rintro e w' ⟨rfl, ⟨nd, rfl⟩⟩))
       go_ret
       exact ⟨by first | rfl | (simp [errW_none, errW_some] <;> rfl) | (simp [*, errW_none, errW_some] <;> rfl), by repeat (first | (with_reducible first | exact HB.out | apply below_alloc | apply pw_below_drewN | apply below_drew1 | refine below_set ?_ GE218.out | refine below_set ?_ GE225.out) | exact HB.out)⟩
     ·replace c22 := Bool.eq_false_iff.mpr c22
      subst c22
      have H1 : (some false) = some r := by rw [if_neg (show ¬ (false = true) by decide)] at H; exact H
      clear H
      have H := H1
      clear H1
      obtain rfl := Option.some.inj H
      have hnb37 := NB218_225.out
      have hnc37 := NB225_218.out
      have hcz38_0 : wc.cell? ⟨gb218, 0, none⟩ = some (.int .i64 a0_0) := bc BK218 0
      have hcz38_1 : wc.cell? ⟨gb218, 1, none⟩ = some (.int .i64 a0_1) := bc BK218 1
      have hcz38_2 : wc.cell? ⟨gb218, 2, none⟩ = some (.int .i64 a0_2) := bc BK218 2
      have hcz38_3 : wc.cell? ⟨gb218, 3, none⟩ = some (.int .i64 a0_3) := bc BK218 3
      have hcz38_4 : wc.cell? ⟨gb218, 4, none⟩ = some (.int .i64 a0_4) := bc BK218 4
      have hcz38_5 : wc.cell? ⟨gb218, 5, none⟩ = some (.string a0_5) := bc BK218 5
      have hcz38_6 : wc.cell? ⟨gb218, 6, none⟩ = some (.string a0_6) := bc BK218 6
      have hfz38_0 := blk_frozen BK218.out 0
      have hfz38_1 := blk_frozen BK218.out 1
      have hfz38_2 := blk_frozen BK218.out 2
      have hfz38_3 := blk_frozen BK218.out 3
      have hfz38_4 := blk_frozen BK218.out 4
      have hfz38_5 := blk_frozen BK218.out 5
      have hfz38_6 := blk_frozen BK218.out 6
      go_wp2_with (first | (go_at_call 25; (with_reducible refine (impl_within.calls a0_0 1023 false _ A21.out).mono ?_); rintro e w' ⟨rfl, ⟨nd, rfl⟩⟩))
      go_ret
      exact ⟨by first | rfl | (simp [errW_none, errW_some] <;> rfl) | (simp [*, errW_none, errW_some] <;> rfl), by repeat (first | (with_reducible first | exact HB.out | apply below_alloc | apply pw_below_drewN | apply below_drew1 | refine below_set ?_ GE218.out | refine below_set ?_ GE225.out) | exact HB.out)⟩
    ·replace c20 := Bool.eq_false_iff.mpr c20
     subst c20
     have H1 : (some false) = some r := by rw [if_neg (show ¬ (false = true) by decide)] at H; exact H
     clear H
     have H := H1
     clear H1
     obtain rfl := Option.some.inj H
     go_wp2
     go_ret
     exact ⟨by first | rfl | (simp [errW_none, errW_some] <;> rfl) | (simp [*, errW_none, errW_some] <;> rfl), by repeat (first | (with_reducible first | exact HB.out | apply below_alloc | apply pw_below_drewN | apply below_drew1 | refine below_set ?_ GE218.out | refine below_set ?_ GE225.out) | exact HB.out)⟩
   ·replace c19 := Bool.eq_false_iff.mpr c19
    subst c19
    have H1 : (some false) = some r := by rw [if_neg (show ¬ (false = true) by decide)] at H; exact H
    clear H
    have H := H1
    clear H1
    obtain rfl := Option.some.inj H
    go_wp2
    go_ret
    exact ⟨by first | rfl | (simp [errW_none, errW_some] <;> rfl) | (simp [*, errW_none, errW_some] <;> rfl), by repeat (first | (with_reducible first | exact HB.out | apply below_alloc | apply pw_below_drewN | apply below_drew1 | refine below_set ?_ GE218.out | refine below_set ?_ GE225.out) | exact HB.out)⟩

/-! ### impl_NumGet: function 27 -/
mutual
def impl_NumGet.j0 : Nat → ByteArray → Int → Int → Bool → Option (Int × Bool)
 | 0, _, _, _, _ => none
 | k + 1, x0, x1, x2, x27 => if x27 = true then (some (0, false)) else (impl_NumGet.l0 k x0 x1 0 x2 0)
def impl_NumGet.l0 : Nat → ByteArray → Int → Int → Int → Int → Option (Int × Bool)
 | 0, _, _, _, _, _ => none
 | k + 1, x0, x1, x8, x28, x29 => if x29 < x28 then (if 0 ≤ (wrap64 (x1 + x29)) then (if (wrap64 (x1 + x29)) < (x0.size : Int) then (impl_NumGet.l0 k x0 x1 (Go.bits .or .i64 (wrap64 (x8 * 256)) (wrap64 (bt x0 (wrap64 (x1 + x29))))) x28 (wrap64 (x29 + 1))) else (none)) else (none)) else (some (x8, true))
end
def impl_NumGet.f (k : Nat) (a0 : ByteArray) (a1 : Int) (a2 : Int) : Option (Int × Bool) := if a2 < 1 then (impl_NumGet.j0 k a0 a1 a2 true) else (if a2 > 4 then (impl_NumGet.j0 k a0 a1 a2 true) else (if a1 < 0 then (impl_NumGet.j0 k a0 a1 a2 true) else (impl_NumGet.j0 k a0 a1 a2 (decide (a1 > (wrap64 ((a0.size : Int) - a2)))))))
theorem impl_NumGet.mono_l : ∀ k, (∀ y0 y1 y2 y3, LeO (impl_NumGet.j0 k y0 y1 y2 y3) (impl_NumGet.j0 (k + 1) y0 y1 y2 y3)) ∧ (∀ y0 y1 y2 y3 y4, LeO (impl_NumGet.l0 k y0 y1 y2 y3 y4) (impl_NumGet.l0 (k + 1) y0 y1 y2 y3 y4))
 | 0 => ⟨fun _ _ _ _ r h => by simp [impl_NumGet.j0] at h, fun _ _ _ _ _ r h => by simp [impl_NumGet.l0] at h⟩
 | k + 1 => by
  obtain ⟨ih0, ih1⟩ := impl_NumGet.mono_l k
  refine ⟨?_, ?_⟩
  ·intro y0 y1 y2 y3
   unfold impl_NumGet.j0
   repeat' first
   | (with_reducible exact ih0 _ _ _ _)
   | (with_reducible exact ih1 _ _ _ _ _)
   | (with_reducible exact LeO.refl _)
   | (with_reducible exact LeO.none _)
   | (with_reducible refine LeO.ite ?_ ?_)
   | (with_reducible refine LeO.bind ?_ (fun _ => ?_))
   | exact ih0 _ _ _ _
   | exact ih1 _ _ _ _ _
   | exact LeO.none _
   | refine LeO.ite ?_ ?_
   | refine LeO.bind ?_ (fun _ => ?_)
  ·intro y0 y1 y2 y3 y4
   unfold impl_NumGet.l0
   repeat' first
   | (with_reducible exact ih0 _ _ _ _)
   | (with_reducible exact ih1 _ _ _ _ _)
   | (with_reducible exact LeO.refl _)
   | (with_reducible exact LeO.none _)
   | (with_reducible refine LeO.ite ?_ ?_)
   | (with_reducible refine LeO.bind ?_ (fun _ => ?_))
   | exact ih0 _ _ _ _
   | exact ih1 _ _ _ _ _
   | exact LeO.none _
   | refine LeO.ite ?_ ?_
   | refine LeO.bind ?_ (fun _ => ?_)
theorem impl_NumGet.mono : ∀ a0 a1 a2 k, LeO (impl_NumGet.f k a0 a1 a2) (impl_NumGet.f (k + 1) a0 a1 a2) := by
 intro a0 a1 a2 k
 obtain ⟨ih0, ih1⟩ := impl_NumGet.mono_l k
 unfold impl_NumGet.f
 repeat' first
   | (with_reducible exact ih0 _ _ _ _)
   | (with_reducible exact ih1 _ _ _ _ _)
   | (with_reducible exact LeO.refl _)
   | (with_reducible exact LeO.none _)
   | (with_reducible refine LeO.ite ?_ ?_)
   | (with_reducible refine LeO.bind ?_ (fun _ => ?_))
   | exact ih0 _ _ _ _
   | exact ih1 _ _ _ _ _
   | exact LeO.none _
   | refine LeO.ite ?_ ?_
   | refine LeO.bind ?_ (fun _ => ?_)
set_option maxHeartbeats 8000000 in
set_option maxRecDepth 100000 in
theorem impl_NumGet.calls (k : Nat) (a0 : ByteArray) (a1 : Int) (a2 : Int) (r1 : Int) (r2 : Bool) (w : World) (h : impl_NumGet.f k a0 a1 a2 = some (r1, r2)) :
  Calls Tryd.prog 27 #[.string a0, .int .i64 a1, .int .i64 a2] w fun e w' => e = .returned (.tuple #[.int .i64 r1, .bool r2]) ∧ Drawn0 w w' := by
 have H : (if a2 < 1 then (impl_NumGet.j0 k a0 a1 a2 true) else (if a2 > 4 then (impl_NumGet.j0 k a0 a1 a2 true) else (if a1 < 0 then (impl_NumGet.j0 k a0 a1 a2 true) else (impl_NumGet.j0 k a0 a1 a2 (decide (a1 > (wrap64 ((a0.size : Int) - a2)))))))) = some (r1, r2) := h
 clear h
 have HC4 := Aside0.mk H
 clear H
 go_enter Tryd.func27, Tryd.ntmps27
 go_upto_region 1 with (fail)
 go_cut [27] (fun v27 wc => ∃ (kq : Nat) (x27_3 : Bool), v27 = .bool x27_3 ∧ Aside0 (impl_NumGet.j0 kq a0 a1 a2 x27_3 = some (r1, r2)) ∧ Aside0 (kq ≤ k) ∧ Drawn0 w wc)
 case first =>
  have H := HC4.out
  clear HC4
  by_cases c5 : a2 < 1
  ·rw [if_pos c5] at H
   have c5b0 : decide (a2 < 1) = true := decide_eq_true c5
   clear c5
   (first | rw [c5b0] | (simp only [i64_w, i32_w]; rw [c5b0]) | skip)
   have H' := Aside0.mk H
   clear H
   go_wp2
   go_meet
   case rel => exact ⟨_, (true), (by first | rfl | (simp; done) | (simp [*]; done)), H', ⟨by first | omega | exact Nat.le_refl _⟩, by repeat (first | exact Drawn0.refl _ | apply Drawn0.step)⟩
  ·rw [if_neg c5] at H
   have c5b0 : decide (a2 < 1) = false := decide_eq_false c5
   clear c5
   (first | rw [c5b0] | (simp only [i64_w, i32_w]; rw [c5b0]) | skip)
   by_cases c6 : a2 > 4
   ·rw [if_pos c6] at H
    have c6b0 : decide (4 < a2) = true := decide_eq_true c6
    clear c6
    have H' := Aside0.mk H
    clear H
    go_wp2
    go_meet
    case rel => exact ⟨_, (true), (by first | rfl | (simp; done) | (simp [*]; done)), H', ⟨by first | omega | exact Nat.le_refl _⟩, by repeat (first | exact Drawn0.refl _ | apply Drawn0.step)⟩
   ·rw [if_neg c6] at H
    have c6b0 : decide (4 < a2) = false := decide_eq_false c6
    clear c6
    by_cases c7 : a1 < 0
    ·rw [if_pos c7] at H
     have c7b0 : decide (a1 < 0) = true := decide_eq_true c7
     clear c7
     have H' := Aside0.mk H
     clear H
     go_wp2
     go_meet
     case rel => exact ⟨_, (true), (by first | rfl | (simp; done) | (simp [*]; done)), H', ⟨by first | omega | exact Nat.le_refl _⟩, by repeat (first | exact Drawn0.refl _ | apply Drawn0.step)⟩
    ·rw [if_neg c7] at H
     have c7b0 : decide (a1 < 0) = false := decide_eq_false c7
     clear c7
     have H' := Aside0.mk H
     clear H
     go_wp2
     go_meet
     case rel => exact ⟨_, (decide (a1 > (wrap64 ((a0.size : Int) - a2)))), (by first | rfl | (simp; done) | (simp [*]; done)), H', ⟨by first | omega | exact Nat.le_refl _⟩, by repeat (first | exact Drawn0.refl _ | apply Drawn0.step)⟩
 case rest =>
  clear HC4
  try clear c2
  try clear p2
  try clear c5
  try clear c5b0
  try clear c6
  try clear c6b0
  try clear p6
  try clear c7
  try clear c7b0
  obtain ⟨kq, x27_3, rfl, HA, HJ3, ⟨mc3, rfl⟩⟩ := hcut
  cases kq with
  | zero => exact absurd HA.out (by simp [impl_NumGet.j0])
  | succ kj3 =>
   have H := HA.out
   clear HA
   simp only [impl_NumGet.j0] at H
   by_cases c8 : x27_3 = true
   ·subst c8
    have H1 : (some (0, false)) = some (r1, r2) := by rw [if_pos rfl] at H; exact H
    clear H
    have H := H1
    clear H1
    simp only [Option.some.injEq, Prod.mk.injEq] at H
    obtain ⟨rfl, rfl⟩ := H
    go_wp2
    go_ret2
    exact ⟨by first | rfl | (simp; done) | (simp [*]; done), by repeat (first | exact Drawn0.refl _ | apply Drawn0.step)⟩
   ·replace c8 := Bool.eq_false_iff.mpr c8
    subst c8
    have H1 : (impl_NumGet.l0 kj3 a0 a1 0 a2 0) = some (r1, r2) := by rw [if_neg (show ¬ (false = true) by decide)] at H; exact H
    clear H
    have H := H1
    clear H1
    have H' := Aside0.mk H
    clear H
    go_wp2
    go_loopg [8, 29] kj3 (fun kq v8 v29 w' => ∃ (x8_2 : Int) (x29_2 : Int), v8 = .int .i64 x8_2 ∧ v29 = .int .i64 x29_2 ∧ Aside0 (impl_NumGet.l0 kq a0 a1 x8_2 a2 x29_2 = some (r1, r2)) ∧ Aside0 (kq ≤ kj3) ∧ Drawn0 w w')
    case atStart => exact ⟨(0), (0), (by first | rfl | (simp; done) | (simp [*]; done)), (by first | rfl | (simp; done) | (simp [*]; done)), H', ⟨Nat.le_refl _⟩, by repeat (first | exact Drawn0.refl _ | apply Drawn0.step)⟩
    case round =>
     clear H'
     try clear c2
     try clear p2
     try clear c3
     try clear c5
     try clear c5b0
     try clear c6
     try clear c6b0
     try clear p6
     try clear c7
     try clear c7b0
     try clear c8
     try clear p2
     try clear p6
     obtain ⟨x8_2, x29_2, rfl, rfl, HA, HK2, ⟨m2, rfl⟩⟩ := hrel
     cases gk with
     | zero => exact absurd HA.out (by simp [impl_NumGet.l0])
     | succ k2 =>
      have H := HA.out
      clear HA
      simp only [impl_NumGet.l0] at H
      by_cases c9 : x29_2 < a2
      ·rw [if_pos c9] at H
       have c9b0 : decide (x29_2 < a2) = true := decide_eq_true c9
       clear c9
       obtain ⟨ji10, hji10⟩ : ∃ j_ : Int, (wrap64 (a1 + x29_2)) = j_ := ⟨_, rfl⟩
       replace H : (if 0 ≤ (ji10) then (if (ji10) < (a0.size : Int) then (impl_NumGet.l0 k2 a0 a1 (Go.bits .or .i64 (wrap64 (x8_2 * 256)) (wrap64 (bt a0 (ji10)))) a2 (wrap64 (x29_2 + 1))) else (none)) else (none)) = some (r1, r2) := by first | (rw [hji10] at H; exact H) | (simp only [hji10] at H ⊢; exact H)
       have hji10w : (IntKind.i64.wrap (a1 + x29_2)) = ji10 := (i64_w _).trans hji10
       by_cases c11 : 0 ≤ (ji10)
       ·rw [if_pos c11] at H
        have c11b0 : decide (0 ≤ (ji10)) = true := decide_eq_true c11
        clear c11
        by_cases c12 : (ji10) < (a0.size : Int)
        ·rw [if_pos c12] at H
         have c12b0 : decide ((ji10) < (a0.size : Int)) = true := decide_eq_true c12
         clear c12
         have H' := Aside0.mk H
         clear H
         have p13 : 0 ≤ ((ji10) : Int) := of_decide_eq_true (by first | (with_reducible assumption) | assumption)
         have q13 : (ji10) < (a0.size : Int) := of_decide_eq_true (by first | (with_reducible assumption) | assumption)
         have hx13 := bt_at a0 (ji10)
         replace p13 := eq_true p13
         replace q13 := eq_true q13
         go_wp2
         go_roundg k2
         case measure => have := HJ3.out; have := HK2.out; omega
         case rel => exact ⟨(Go.bits .or .i64 (wrap64 (x8_2 * 256)) (wrap64 (bt a0 (ji10)))), (wrap64 (x29_2 + 1)), (by first | rfl | (simp; done) | (simp only [← hji10] <;> (first | rfl | simp)) | (simp [*]; done)), (by first | rfl | (simp; done) | (simp [*]; done)), H', ⟨by have := HJ3.out; have := HK2.out; omega⟩, by repeat (first | exact Drawn0.refl _ | apply Drawn0.step)⟩
        ·rw [if_neg c12] at H
         exact absurd H (by simp)
       ·rw [if_neg c11] at H
        exact absurd H (by simp)
      ·rw [if_neg c9] at H
       have c9b0 : decide (x29_2 < a2) = false := decide_eq_false c9
       clear c9
       simp only [Option.some.injEq, Prod.mk.injEq] at H
       obtain ⟨rfl, rfl⟩ := H
       go_wp2
       go_ret2
       exact ⟨by first | rfl | (simp; done) | (simp [*]; done), by repeat (first | exact Drawn0.refl _ | apply Drawn0.step)⟩

/-! ### impl_readerOf: function 40 -/
def impl_readerOf.f (a0 : ByteArray) : Option (ByteArray × Int × Int × Bool) := some (a0, 0, -1, false)
set_option maxHeartbeats 8000000 in
set_option maxRecDepth 100000 in
theorem rd_reset_new (s : ByteArray) (W : World) :
    Calls Tryd.prog 45 #[.pointer (some ⟨W.heap.size, 0, none⟩), .string s] (W.alloc (.cells #[.string ⟨#[]⟩, .int .i64 0, .int .i64 0, .bool false] 75)) fun e w' => e = .returned (.tuple #[]) ∧ w' = W.alloc (.cells #[.string s, .int .i64 0, .int .i64 (-1), .bool false] 75) := by
  go_enter Tryd.func45, Tryd.ntmps45
  go_wp2_with fail
  first | go_end0 | ((try simp only [Exit.inBlock, Exit.then]); refine bodyPost_ret (results_none rfl _ _ _) rfl ?_)
  exact ⟨rfl, rfl⟩
set_option maxHeartbeats 8000000 in
set_option maxRecDepth 100000 in
theorem impl_readerOf.calls (a0 : ByteArray) (r1 : ByteArray) (r2 : Int) (r3 : Int) (r4 : Bool) (w0 w : World) (hB : Below w0.heap.size w0 w) (h : impl_readerOf.f a0 = some (r1, r2, r3, r4)) :
  Calls Tryd.prog 40 #[.string a0] w fun e w' => ∃ g_ : Nat, e = .returned (.pointer (some ⟨g_, 0, none⟩)) ∧ IsS75 w0 w' g_ r1 r2 r3 r4 ∧ Below w0.heap.size w0 w' ∧ Below w.heap.size w w' := by
  unfold impl_readerOf.f at h
  simp only [Option.some.injEq, Prod.mk.injEq] at h
  obtain ⟨rfl, rfl, rfl, rfl⟩ := h
  have hz := hB.size
  go_enter Tryd.func40, Tryd.ntmps40
  go_wp2_with (go_at_call 45; refine (rd_reset_new _ _).mono ?_; rintro e w' ⟨rfl, rfl⟩)
  go_ret
  exact ⟨_, rfl, ⟨heap_alloc_new _ _, hz⟩, hB.alloc hz _, (Below.refl _ _).alloc (Nat.le_refl _) _⟩

end Go.Proofs.YtbldbjfmibhffaaDoor.P
