/- The machine side of these statements, function by function: what each Go function answers (as a Lean function), and that it does. Written by a program (mp.py) for this claim. -/
import Derived.Test.YtnlhaiihbcdmoaaPx0
import Derived.Test.YtnlhaiihbcdmoaaPx3
import Derived.Test.YtnlhaiihbcdmoaaPx5
namespace Go.Proofs.Ytnlhaiihbcdmoaa.P
open Go.RowKit Go.Proofs.YtnlhaiihbcdmoaaW.PrintWords Go.Proofs.YtnlhaiihbcdmoaaW.PrintLast Go.Proofs.YtnlhaiihbcdmoaaW.PrintMore
attribute [local go_sem] max2_int min2_int max_two min_two max_three min_three max_four min_four   -- for this text's walks alone
set_option linter.unusedVariables false
set_option linter.unusedSimpArgs false

/-! ### impl_FopFirst: function 14 -/
def impl_FopFirst.f (k : Nat) (a0_0 : Int) (a0_1 : Int) (a0_2 : Int) (l0_3 : List ByteArray) (a0_4 : Bool) : Option (Int) := (impl_FopOk.f k a0_0 a0_1 a0_2 l0_3 a0_4).bind fun t268 => (if t268 = true then ((impl_goesRound_plus.f a0_2 (wrap64 (-(l0_3.length : Int)))).bind fun t269 => (some t269)) else (some 0))
theorem impl_FopFirst.mono : ∀ a0 a1 a2 a3 a4 k, LeO (impl_FopFirst.f k a0 a1 a2 a3 a4) (impl_FopFirst.f (k + 1) a0 a1 a2 a3 a4) := by
 intro a0 a1 a2 a3 a4 k
 unfold impl_FopFirst.f
 repeat' first
   | (with_reducible exact impl_FopOk.mono _ _ _ _ _ _)
   | (with_reducible exact LeO.refl _)
   | (with_reducible exact LeO.none _)
   | (with_reducible refine LeO.ite ?_ ?_)
   | (with_reducible refine LeO.bind ?_ (fun _ => ?_))
   | exact impl_FopOk.mono _ _ _ _ _ _
   | exact LeO.none _
   | refine LeO.ite ?_ ?_
   | refine LeO.bind ?_ (fun _ => ?_)
set_option maxHeartbeats 8000000 in
set_option maxRecDepth 100000 in
theorem impl_FopFirst.calls (k : Nat) (a0_0 : Int) (a0_1 : Int) (a0_2 : Int) (A0_3 : Option Addr) (c0_3 : Nat) (l0_3 : List ByteArray) (a0_4 : Bool) (r : Int) (w : World) (hr0_3 : Kd.C Kd.string w A0_3 l0_3.length l0_3) (hc0_3 : l0_3.length ≤ c0_3) (h : impl_FopFirst.f k a0_0 a0_1 a0_2 l0_3 a0_4 = some r) :
  Calls Try.prog 14 #[.agg #[.int .i64 a0_0, .int .i64 a0_1, .int .i64 a0_2, .slice A0_3 l0_3.length c0_3, .bool a0_4]] w fun e w' => e = .returned (.int .i64 r) ∧ Below w.heap.size w w' := by
 have hu25 := Try.underlying25
 have HR0_3 := Aside0.mk hr0_3
 have HC0_3 := Aside0.mk hc0_3
 clear hr0_3 hc0_3
 have HB := m_ (Below.refl w.heap.size w)
 have H : ((impl_FopOk.f k a0_0 a0_1 a0_2 l0_3 a0_4).bind fun t268 => (if t268 = true then ((impl_goesRound_plus.f a0_2 (wrap64 (-(l0_3.length : Int)))).bind fun t269 => (some t269)) else (some 0))) = some r := h
 clear h
 replace H := Option.bind_eq_some_iff.mp H
 obtain ⟨t268, A20, H⟩ := H
 replace H : (if t268 = true then ((impl_goesRound_plus.f a0_2 (wrap64 (-(l0_3.length : Int)))).bind fun t269 => (some t269)) else (some 0)) = some r := H
 have A2 := Aside0.mk A20
 clear A20
 by_cases c3 : t268 = true
 ·subst c3
  have H1 : ((impl_goesRound_plus.f a0_2 (wrap64 (-(l0_3.length : Int)))).bind fun t269 => (some t269)) = some r := by rw [if_pos rfl] at H; exact H
  clear H
  have H := H1
  clear H1
  replace H := Option.bind_eq_some_iff.mp H
  obtain ⟨t269, A40, H⟩ := H
  replace H : (some t269) = some r := H
  have A4 := Aside0.mk A40
  clear A40
  obtain rfl := Option.some.inj H
  go_enter Try.func14, Try.ntmps14
  go_wp2_with (first | ((with_reducible refine gate_dst (N := 1) rfl ?_); refine box_event ?hg (N := 1) ?hd (cs := #[.int .i64 a0_0, .int .i64 a0_1, .int .i64 a0_2, .slice A0_3 l0_3.length c0_3, .bool a0_4]) (t := 25) ?hr ?_; (case hd => rfl); (case hg => rfl); (case hr => first | (go_simp; done) | (go_simp; rfl)); intro gb267 hg w5 hbox hb; have n0_ := m_ (below_step (bN HB.out) hb); have n1_ := m_ (hbox); have n2_ := m_ ((by rw [hg]; exact (below_size (bN HB.out)) : w.heap.size ≤ gb267)); have n3_ := m_ ((by rw [hg]; exact (below_size (bN HB.out)) : w.heap.size ≤ gb267)); clear HB; have HB := n0_; have BK267 := n1_; have GW267 := n2_; have GE267 := n3_; clear n0_ n1_ n2_ n3_; clear hb hbox hg; have hcz6_0 : w5.cell? ⟨gb267, 0, none⟩ = some (.int .i64 a0_0) := bc BK267 0; have hcz6_1 : w5.cell? ⟨gb267, 1, none⟩ = some (.int .i64 a0_1) := bc BK267 1; have hcz6_2 : w5.cell? ⟨gb267, 2, none⟩ = some (.int .i64 a0_2) := bc BK267 2; have hcz6_3 : w5.cell? ⟨gb267, 3, none⟩ = some (.slice A0_3 l0_3.length c0_3) := bc BK267 3; have hcz6_4 : w5.cell? ⟨gb267, 4, none⟩ = some (.bool a0_4) := bc BK267 4; have hfz6_0 := blk_frozen BK267.out 0; have hfz6_1 := blk_frozen BK267.out 1; have hfz6_2 := blk_frozen BK267.out 2; have hfz6_3 := blk_frozen BK267.out 3; have hfz6_4 := blk_frozen BK267.out 4) | ((with_reducible refine gate_callee (f := 12) rfl ?_); refine goesL_ (some 4) rfl rfl Try.func12 (by kernel_rfl) rfl #[.agg #[.int .i64 a0_0, .int .i64 a0_1, .int .i64 a0_2, .slice A0_3 l0_3.length c0_3, .bool a0_4]] rfl gl_ ?_; (with_reducible refine (impl_FopOk.calls k a0_0 a0_1 a0_2 _ _ l0_3 a0_4 true _ ?side1 ?side2 A2.out).mono ?_); (case side1 => exact cN (Kd.C_below HR0_3.out HB.out)); (case side2 => exact HC0_3.out); rintro e w7 ⟨rfl, hb⟩; refine ⟨_, rfl, ?_⟩; have n0_ := m_ (blk_below (kN BK267.out) hb); have n1_ := m_ (below_step (bN HB.out) hb); clear BK267; clear HB; have BK267 := n0_; have HB := n1_; clear n0_ n1_; (try clear hb); (try clear hb2); (try clear hk); (try clear hi); have hcz8_0 : w7.cell? ⟨gb267, 0, none⟩ = some (.int .i64 a0_0) := bc BK267 0; have hcz8_1 : w7.cell? ⟨gb267, 1, none⟩ = some (.int .i64 a0_1) := bc BK267 1; have hcz8_2 : w7.cell? ⟨gb267, 2, none⟩ = some (.int .i64 a0_2) := bc BK267 2; have hcz8_3 : w7.cell? ⟨gb267, 3, none⟩ = some (.slice A0_3 l0_3.length c0_3) := bc BK267 3; have hcz8_4 : w7.cell? ⟨gb267, 4, none⟩ = some (.bool a0_4) := bc BK267 4; have hfz8_0 := blk_frozen BK267.out 0; have hfz8_1 := blk_frozen BK267.out 1; have hfz8_2 := blk_frozen BK267.out 2; have hfz8_3 := blk_frozen BK267.out 3; have hfz8_4 := blk_frozen BK267.out 4) | ((with_reducible refine gate_callee (f := 38) rfl ?_); refine goesL_ (some 12) rfl rfl Try.func38 (by kernel_rfl) rfl #[.int .i64 a0_2, .int .i64 (wrap64 (-(l0_3.length : Int)))] rfl gl_ ?_; (with_reducible refine (impl_goesRound_plus.calls a0_2 (wrap64 (-(l0_3.length : Int))) t269 _ A4.out).mono ?_); rintro e w' ⟨rfl, ⟨nd, rfl⟩⟩; refine ⟨_, rfl, ?_⟩))
  go_ret
  exact ⟨by first | rfl | (simp [errW_none, errW_some] <;> rfl) | (simp [*, errW_none, errW_some] <;> rfl), by repeat (first | (with_reducible first | exact HB.out | apply below_alloc | apply pw_below_drewN | apply below_drew1 | refine below_set ?_ GE267.out) | exact HB.out)⟩
 ·replace c3 := Bool.eq_false_iff.mpr c3
  subst c3
  have H1 : (some 0) = some r := by rw [if_neg (show ¬ (false = true) by decide)] at H; exact H
  clear H
  have H := H1
  clear H1
  obtain rfl := Option.some.inj H
  go_enter Try.func14, Try.ntmps14
  go_wp2_with (first | ((with_reducible refine gate_dst (N := 1) rfl ?_); refine box_event ?hg (N := 1) ?hd (cs := #[.int .i64 a0_0, .int .i64 a0_1, .int .i64 a0_2, .slice A0_3 l0_3.length c0_3, .bool a0_4]) (t := 25) ?hr ?_; (case hd => rfl); (case hg => rfl); (case hr => first | (go_simp; done) | (go_simp; rfl)); intro gb267 hg w9 hbox hb; have n0_ := m_ (below_step (bN HB.out) hb); have n1_ := m_ (hbox); have n2_ := m_ ((by rw [hg]; exact (below_size (bN HB.out)) : w.heap.size ≤ gb267)); have n3_ := m_ ((by rw [hg]; exact (below_size (bN HB.out)) : w.heap.size ≤ gb267)); clear HB; have HB := n0_; have BK267 := n1_; have GW267 := n2_; have GE267 := n3_; clear n0_ n1_ n2_ n3_; clear hb hbox hg; have hcz10_0 : w9.cell? ⟨gb267, 0, none⟩ = some (.int .i64 a0_0) := bc BK267 0; have hcz10_1 : w9.cell? ⟨gb267, 1, none⟩ = some (.int .i64 a0_1) := bc BK267 1; have hcz10_2 : w9.cell? ⟨gb267, 2, none⟩ = some (.int .i64 a0_2) := bc BK267 2; have hcz10_3 : w9.cell? ⟨gb267, 3, none⟩ = some (.slice A0_3 l0_3.length c0_3) := bc BK267 3; have hcz10_4 : w9.cell? ⟨gb267, 4, none⟩ = some (.bool a0_4) := bc BK267 4; have hfz10_0 := blk_frozen BK267.out 0; have hfz10_1 := blk_frozen BK267.out 1; have hfz10_2 := blk_frozen BK267.out 2; have hfz10_3 := blk_frozen BK267.out 3; have hfz10_4 := blk_frozen BK267.out 4) | ((with_reducible refine gate_callee (f := 12) rfl ?_); refine goesL_ (some 4) rfl rfl Try.func12 (by kernel_rfl) rfl #[.agg #[.int .i64 a0_0, .int .i64 a0_1, .int .i64 a0_2, .slice A0_3 l0_3.length c0_3, .bool a0_4]] rfl gl_ ?_; (with_reducible refine (impl_FopOk.calls k a0_0 a0_1 a0_2 _ _ l0_3 a0_4 false _ ?side1 ?side2 A2.out).mono ?_); (case side1 => exact cN (Kd.C_below HR0_3.out HB.out)); (case side2 => exact HC0_3.out); rintro e w11 ⟨rfl, hb⟩; refine ⟨_, rfl, ?_⟩; have n0_ := m_ (blk_below (kN BK267.out) hb); have n1_ := m_ (below_step (bN HB.out) hb); clear BK267; clear HB; have BK267 := n0_; have HB := n1_; clear n0_ n1_; (try clear hb); (try clear hb2); (try clear hk); (try clear hi)))
  go_ret
  exact ⟨by first | rfl | (simp [errW_none, errW_some] <;> rfl) | (simp [*, errW_none, errW_some] <;> rfl), by repeat (first | (with_reducible first | exact HB.out | apply below_alloc | apply pw_below_drewN | apply below_drew1 | refine below_set ?_ GE267.out) | exact HB.out)⟩

end Go.Proofs.Ytnlhaiihbcdmoaa.P
