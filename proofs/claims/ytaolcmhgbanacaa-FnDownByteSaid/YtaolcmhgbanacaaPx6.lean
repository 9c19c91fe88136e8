/- The machine side of these statements, function by function: what each Go function answers (as a Lean function), and that it does. Written by a program (mp.py) for this claim. -/
import Derived.Test.YtaolcmhgbanacaaPx0
import Derived.Test.YtaolcmhgbanacaaPx4
import Derived.Test.YtaolcmhgbanacaaPx5
namespace Go.Proofs.Ytaolcmhgbanacaa.P
open Go.RowKit Go.Proofs.YtaolcmhgbanacaaW.PrintWords Go.Proofs.YtaolcmhgbanacaaW.PrintLast Go.Proofs.YtaolcmhgbanacaaW.PrintMore
attribute [local go_sem] max2_int min2_int max_two min_two max_three min_three max_four min_four   -- for this text's walks alone
set_option linter.unusedVariables false
set_option linter.unusedSimpArgs false

/-! ### impl_downOk: function 12 -/
def impl_downOk.j0 : Nat → Bool → Bool → Int → Int → Int → Int → Int → ByteArray → ByteArray → Option (Bool)
 | 0, _, _, _, _, _, _, _, _, _ => none
 | k + 1, x4, x5, x232000, x232001, x232002, x232003, x232004, x232005, x232006 => if x4 = true then (if x5 = true then ((impl_within.f x232000 1023).bind fun t240 => (if t240 = true then ((impl_within.f x232001 7).bind fun t241 => (if t241 = true then ((impl_within.f x232002 255).bind fun t242 => (if t242 = true then ((impl_within.f x232003 255).bind fun t243 => (if t243 = true then (some ((x232005.size : Int) == 28)) else (some false))) else (some false))) else (some false))) else (some false))) else (some false)) else (some false)
def impl_downOk.f (k : Nat) (a0_0 : Int) (a0_1 : Int) (a0_2 : Int) (a0_3 : Int) (a0_4 : Int) (a0_5 : ByteArray) (a0_6 : ByteArray) : Option (Bool) := (impl_FarmGet.f k a0_6).bind fun bt232 => ((impl_within.f a0_4 27).bind fun t239 => (if t239 = true then (impl_downOk.j0 k bt232.2.2.2.2.2 true a0_0 a0_1 a0_2 a0_3 a0_4 a0_5 a0_6) else (if a0_4 = 2047 then (impl_downOk.j0 k bt232.2.2.2.2.2 true a0_0 a0_1 a0_2 a0_3 a0_4 a0_5 a0_6) else (impl_downOk.j0 k bt232.2.2.2.2.2 (a0_4 == 2046) a0_0 a0_1 a0_2 a0_3 a0_4 a0_5 a0_6))))
theorem impl_downOk.mono_l : ∀ k, (∀ y0 y1 y2 y3 y4 y5 y6 y7 y8, LeO (impl_downOk.j0 k y0 y1 y2 y3 y4 y5 y6 y7 y8) (impl_downOk.j0 (k + 1) y0 y1 y2 y3 y4 y5 y6 y7 y8))
 | 0 => fun _ _ _ _ _ _ _ _ _ r h => by simp [impl_downOk.j0] at h
 | k + 1 => by
  have ih0 := impl_downOk.mono_l k
  ·intro y0 y1 y2 y3 y4 y5 y6 y7 y8
   unfold impl_downOk.j0
   repeat' first
   | (with_reducible exact ih0 _ _ _ _ _ _ _ _ _)
   | (with_reducible exact impl_FarmGet.mono _ _)
   | (with_reducible exact LeO.refl _)
   | (with_reducible exact LeO.none _)
   | (with_reducible refine LeO.ite ?_ ?_)
   | (with_reducible refine LeO.bind ?_ (fun _ => ?_))
   | exact ih0 _ _ _ _ _ _ _ _ _
   | exact impl_FarmGet.mono _ _
   | exact LeO.none _
   | refine LeO.ite ?_ ?_
   | refine LeO.bind ?_ (fun _ => ?_)
theorem impl_downOk.mono : ∀ a0 a1 a2 a3 a4 a5 a6 k, LeO (impl_downOk.f k a0 a1 a2 a3 a4 a5 a6) (impl_downOk.f (k + 1) a0 a1 a2 a3 a4 a5 a6) := by
 intro a0 a1 a2 a3 a4 a5 a6 k
 have ih0 := impl_downOk.mono_l k
 unfold impl_downOk.f
 repeat' first
   | (with_reducible exact ih0 _ _ _ _ _ _ _ _ _)
   | (with_reducible exact impl_FarmGet.mono _ _)
   | (with_reducible exact LeO.refl _)
   | (with_reducible exact LeO.none _)
   | (with_reducible refine LeO.ite ?_ ?_)
   | (with_reducible refine LeO.bind ?_ (fun _ => ?_))
   | exact ih0 _ _ _ _ _ _ _ _ _
   | exact impl_FarmGet.mono _ _
   | exact LeO.none _
   | refine LeO.ite ?_ ?_
   | refine LeO.bind ?_ (fun _ => ?_)
set_option maxHeartbeats 8000000 in
set_option maxRecDepth 100000 in
theorem impl_downOk.calls (k : Nat) (a0_0 : Int) (a0_1 : Int) (a0_2 : Int) (a0_3 : Int) (a0_4 : Int) (a0_5 : ByteArray) (a0_6 : ByteArray) (r : Bool) (w : World) (h : impl_downOk.f k a0_0 a0_1 a0_2 a0_3 a0_4 a0_5 a0_6 = some r) :
  Calls Try.prog 12 #[.agg #[.int .i64 a0_0, .int .i64 a0_1, .int .i64 a0_2, .int .i64 a0_3, .int .i64 a0_4, .string a0_5, .string a0_6]] w fun e w' => e = .returned (.bool r) ∧ Below w.heap.size w w' := by
 have hu24 := Try.underlying24
 have hu48 := Try.underlying48
 have HB := m_ (Below.refl w.heap.size w)
 have H : ((impl_FarmGet.f k a0_6).bind fun bt232 => ((impl_within.f a0_4 27).bind fun t239 => (if t239 = true then (impl_downOk.j0 k bt232.2.2.2.2.2 true a0_0 a0_1 a0_2 a0_3 a0_4 a0_5 a0_6) else (if a0_4 = 2047 then (impl_downOk.j0 k bt232.2.2.2.2.2 true a0_0 a0_1 a0_2 a0_3 a0_4 a0_5 a0_6) else (impl_downOk.j0 k bt232.2.2.2.2.2 (a0_4 == 2046) a0_0 a0_1 a0_2 a0_3 a0_4 a0_5 a0_6))))) = some r := h
 clear h
 replace H := Option.bind_eq_some_iff.mp H
 obtain ⟨⟨t232, t233, t234, t235, t236, t237⟩, A20, H⟩ := H
 replace H : ((impl_within.f a0_4 27).bind fun t239 => (if t239 = true then (impl_downOk.j0 k t237 true a0_0 a0_1 a0_2 a0_3 a0_4 a0_5 a0_6) else (if a0_4 = 2047 then (impl_downOk.j0 k t237 true a0_0 a0_1 a0_2 a0_3 a0_4 a0_5 a0_6) else (impl_downOk.j0 k t237 (a0_4 == 2046) a0_0 a0_1 a0_2 a0_3 a0_4 a0_5 a0_6)))) = some r := H
 have A2 := Aside0.mk A20
 clear A20
 have HC3 := Aside0.mk H
 clear H
 go_enter Try.func12, Try.ntmps12
 go_upto_region 2 with (first | ((with_reducible refine gate_dst (N := 1) rfl ?_); (try (refine gate_guard (by rfl) ?_; dsimp only)); refine box_event ?hg (N := 1) ?hd (cs := #[.int .i64 a0_0, .int .i64 a0_1, .int .i64 a0_2, .int .i64 a0_3, .int .i64 a0_4, .string a0_5, .string a0_6]) (t := 24) ?hr ?_; (case hd => rfl); (case hg => rfl); (case hr => first | (go_simp; done) | (go_simp; rfl)); intro gb231 hg w4 hbox hb; have n0_ := m_ (below_step (bN HB.out) hb); have n1_ := m_ (hbox); have n2_ := m_ ((by rw [hg]; exact (below_size (bN HB.out)) : w.heap.size ≤ gb231)); have n3_ := m_ ((by rw [hg]; exact (below_size (bN HB.out)) : w.heap.size ≤ gb231)); clear HB; have HB := n0_; have BK231 := n1_; have GW231 := n2_; have GE231 := n3_; clear n0_ n1_ n2_ n3_; clear hb hbox hg; have hcz5_0 : w4.cell? ⟨gb231, 0, none⟩ = some (.int .i64 a0_0) := bc BK231 0; have hcz5_1 : w4.cell? ⟨gb231, 1, none⟩ = some (.int .i64 a0_1) := bc BK231 1; have hcz5_2 : w4.cell? ⟨gb231, 2, none⟩ = some (.int .i64 a0_2) := bc BK231 2; have hcz5_3 : w4.cell? ⟨gb231, 3, none⟩ = some (.int .i64 a0_3) := bc BK231 3; have hcz5_4 : w4.cell? ⟨gb231, 4, none⟩ = some (.int .i64 a0_4) := bc BK231 4; have hcz5_5 : w4.cell? ⟨gb231, 5, none⟩ = some (.string a0_5) := bc BK231 5; have hcz5_6 : w4.cell? ⟨gb231, 6, none⟩ = some (.string a0_6) := bc BK231 6; have hfz5_0 := blk_frozen BK231.out 0; have hfz5_1 := blk_frozen BK231.out 1; have hfz5_2 := blk_frozen BK231.out 2; have hfz5_3 := blk_frozen BK231.out 3; have hfz5_4 := blk_frozen BK231.out 4; have hfz5_5 := blk_frozen BK231.out 5; have hfz5_6 := blk_frozen BK231.out 6) | ((with_reducible refine gate_callee (f := 23) rfl ?_); refine goesL_ (some 9) rfl rfl Try.func23 (by kernel_rfl) rfl #[.string a0_6] rfl gl_ ?_; (with_reducible refine (impl_FarmGet.calls k a0_6 t232 t233 t234 t235 t236 t237 _ A2.out).mono ?_); rintro e w6 ⟨rfl, hb⟩; refine ⟨_, rfl, ?_⟩; have n0_ := m_ (blk_below (kN BK231.out) hb); have n1_ := m_ (below_step (bN HB.out) hb); clear BK231; clear HB; have BK231 := n0_; have HB := n1_; clear n0_ n1_; (try clear hb); (try clear hb2); (try clear hk); (try clear hi)) | ((with_reducible refine gate_dst (N := 3) rfl ?_); (try (refine gate_guard (by rfl) ?_; dsimp only)); refine box_event ?hg (N := 3) ?hd (cs := #[.bool false, .bool false, .bool false, .int .i64 0, .int .i64 0]) (t := 48) ?hr ?_; (case hd => rfl); (case hg => rfl); (case hr => first | (go_simp; done) | (go_simp; rfl)); intro gb238 hg w7 hbox hb; have n0_ := m_ (blk_below (kN BK231.out) hb); have n1_ := m_ (below_step (bN HB.out) hb); have n2_ := m_ (hbox); have n3_ := m_ ((by rw [hg]; exact (below_size (bN HB.out)) : w.heap.size ≤ gb238)); have n4_ := m_ ((by rw [hg]; exact (below_size (bN HB.out)) : w.heap.size ≤ gb238)); have n5_ := m_ (nL hg BK231.out); have n6_ := m_ (nG hg BK231.out); clear BK231; clear HB; have BK231 := n0_; have HB := n1_; have BK238 := n2_; have GW238 := n3_; have GE238 := n4_; have NB231_238 := n5_; have NB238_231 := n6_; clear n0_ n1_ n2_ n3_ n4_ n5_ n6_; clear hb hbox hg; have hnb8 := NB238_231.out; have hnc8 := NB231_238.out; have hcz9_0 : w7.cell? ⟨gb238, 0, none⟩ = some (.bool false) := bc BK238 0; have hcz9_1 : w7.cell? ⟨gb238, 1, none⟩ = some (.bool false) := bc BK238 1; have hcz9_2 : w7.cell? ⟨gb238, 2, none⟩ = some (.bool false) := bc BK238 2; have hcz9_3 : w7.cell? ⟨gb238, 3, none⟩ = some (.int .i64 0) := bc BK238 3; have hcz9_4 : w7.cell? ⟨gb238, 4, none⟩ = some (.int .i64 0) := bc BK238 4; have hfz9_0 := blk_frozen BK238.out 0; have hfz9_1 := blk_frozen BK238.out 1; have hfz9_2 := blk_frozen BK238.out 2; have hfz9_3 := blk_frozen BK238.out 3; have hfz9_4 := blk_frozen BK238.out 4))
 (try simp only [Act.put, List.setIfInBounds_toArray, List.set_cons_zero, List.set_cons_succ])
 go_cut [5] (fun v5 wc => ∃ (kq : Nat) (x5_2 : Bool), v5 = .bool x5_2 ∧ Aside0 (impl_downOk.j0 kq t237 x5_2 a0_0 a0_1 a0_2 a0_3 a0_4 a0_5 a0_6 = some r) ∧ Aside0 (kq ≤ k) ∧ Aside0 (wc.heap[gb231]? = some (.cells #[.int .i64 a0_0, .int .i64 a0_1, .int .i64 a0_2, .int .i64 a0_3, .int .i64 a0_4, .string a0_5, .string a0_6] 24 (0, 0))) ∧ Aside0 (wc.heap[gb238]? = some (.cells #[.bool t232, .bool t233, .bool t234, .int .i64 t235, .int .i64 t236] 48 (0, 0))) ∧ Aside0 (Below w.heap.size w wc))
 case first =>
  have H := HC3.out
  clear HC3
  replace H := Option.bind_eq_some_iff.mp H
  obtain ⟨t239, A100, H⟩ := H
  replace H : (if t239 = true then (impl_downOk.j0 k t237 true a0_0 a0_1 a0_2 a0_3 a0_4 a0_5 a0_6) else (if a0_4 = 2047 then (impl_downOk.j0 k t237 true a0_0 a0_1 a0_2 a0_3 a0_4 a0_5 a0_6) else (impl_downOk.j0 k t237 (a0_4 == 2046) a0_0 a0_1 a0_2 a0_3 a0_4 a0_5 a0_6))) = some r := H
  have A10 := Aside0.mk A100
  clear A100
  by_cases c11 : t239 = true
  ·subst c11
   have H1 : (impl_downOk.j0 k t237 true a0_0 a0_1 a0_2 a0_3 a0_4 a0_5 a0_6) = some r := by rw [if_pos rfl] at H; exact H
   clear H
   have H := H1
   clear H1
   have H' := Aside0.mk H
   clear H
   have hnb12 := NB231_238.out
   have hnc12 := NB238_231.out
   have hcz13_0 : w7.cell? ⟨gb231, 0, none⟩ = some (.int .i64 a0_0) := bc BK231 0
   have hcz13_1 : w7.cell? ⟨gb231, 1, none⟩ = some (.int .i64 a0_1) := bc BK231 1
   have hcz13_2 : w7.cell? ⟨gb231, 2, none⟩ = some (.int .i64 a0_2) := bc BK231 2
   have hcz13_3 : w7.cell? ⟨gb231, 3, none⟩ = some (.int .i64 a0_3) := bc BK231 3
   have hcz13_4 : w7.cell? ⟨gb231, 4, none⟩ = some (.int .i64 a0_4) := bc BK231 4
   have hcz13_5 : w7.cell? ⟨gb231, 5, none⟩ = some (.string a0_5) := bc BK231 5
   have hcz13_6 : w7.cell? ⟨gb231, 6, none⟩ = some (.string a0_6) := bc BK231 6
   have hfz13_0 := blk_frozen BK231.out 0
   have hfz13_1 := blk_frozen BK231.out 1
   have hfz13_2 := blk_frozen BK231.out 2
   have hfz13_3 := blk_frozen BK231.out 3
   have hfz13_4 := blk_frozen BK231.out 4
   have hfz13_5 := blk_frozen BK231.out 5
   have hfz13_6 := blk_frozen BK231.out 6
   go_wp2_with (first | ((with_reducible refine gate_callee (f := 24) rfl ?_); refine goesL_ (some 14) rfl rfl Try.func24 (by kernel_rfl) rfl #[.int .i64 a0_4, .int .i64 27] rfl gl_ ?_; (with_reducible refine (impl_within.calls a0_4 27 true _ A10.out).mono ?_); rintro e w' ⟨rfl, ⟨nd, rfl⟩⟩; refine ⟨_, rfl, ?_⟩))
   go_meet
   case rel => exact ⟨_, (true), (by first | rfl | (simp; done) | (simp [*]; done)), H', ⟨by first | omega | exact Nat.le_refl _⟩, ⟨kF BK231.out NB231_238.out⟩, ⟨kP BK238.out⟩, ⟨by repeat (first | (with_reducible first | exact HB.out | apply below_alloc | apply pw_below_drewN | apply below_drew1 | refine below_set ?_ GE231.out | refine below_set ?_ GE238.out) | exact HB.out)⟩⟩
  ·replace c11 := Bool.eq_false_iff.mpr c11
   subst c11
   have H1 : (if a0_4 = 2047 then (impl_downOk.j0 k t237 true a0_0 a0_1 a0_2 a0_3 a0_4 a0_5 a0_6) else (impl_downOk.j0 k t237 (a0_4 == 2046) a0_0 a0_1 a0_2 a0_3 a0_4 a0_5 a0_6)) = some r := by rw [if_neg (show ¬ (false = true) by decide)] at H; exact H
   clear H
   have H := H1
   clear H1
   by_cases c14 : a0_4 = 2047
   ·rw [if_pos c14] at H
    have c14b0 : (a0_4 == 2047) = true := beq_iff_eq.mpr c14
    have c14b1 : (a0_4 != 2047) = false := bne_eq_false_iff_eq.mpr c14
    clear c14
    (first | rw [c14b0] | (simp only [i64_w, i32_w]; rw [c14b0]) | skip)
    have H' := Aside0.mk H
    clear H
    have hnb15 := NB231_238.out
    have hnc15 := NB238_231.out
    have hcz16_0 : w7.cell? ⟨gb231, 0, none⟩ = some (.int .i64 a0_0) := bc BK231 0
    have hcz16_1 : w7.cell? ⟨gb231, 1, none⟩ = some (.int .i64 a0_1) := bc BK231 1
    have hcz16_2 : w7.cell? ⟨gb231, 2, none⟩ = some (.int .i64 a0_2) := bc BK231 2
    have hcz16_3 : w7.cell? ⟨gb231, 3, none⟩ = some (.int .i64 a0_3) := bc BK231 3
    have hcz16_4 : w7.cell? ⟨gb231, 4, none⟩ = some (.int .i64 a0_4) := bc BK231 4
    have hcz16_5 : w7.cell? ⟨gb231, 5, none⟩ = some (.string a0_5) := bc BK231 5
    have hcz16_6 : w7.cell? ⟨gb231, 6, none⟩ = some (.string a0_6) := bc BK231 6
    have hfz16_0 := blk_frozen BK231.out 0
    have hfz16_1 := blk_frozen BK231.out 1
    have hfz16_2 := blk_frozen BK231.out 2
    have hfz16_3 := blk_frozen BK231.out 3
    have hfz16_4 := blk_frozen BK231.out 4
    have hfz16_5 := blk_frozen BK231.out 5
    have hfz16_6 := blk_frozen BK231.out 6
    go_wp2_with (first | ((with_reducible refine gate_callee (f := 24) rfl ?_); refine goesL_ (some 14) rfl rfl Try.func24 (by kernel_rfl) rfl #[.int .i64 a0_4, .int .i64 27] rfl gl_ ?_; (with_reducible refine (impl_within.calls a0_4 27 false _ A10.out).mono ?_); rintro e w' ⟨rfl, ⟨nd, rfl⟩⟩; refine ⟨_, rfl, ?_⟩))
    go_meet
    case rel => exact ⟨_, (true), (by first | rfl | (simp; done) | (simp [*]; done)), H', ⟨by first | omega | exact Nat.le_refl _⟩, ⟨kF BK231.out NB231_238.out⟩, ⟨kP BK238.out⟩, ⟨by repeat (first | (with_reducible first | exact HB.out | apply below_alloc | apply pw_below_drewN | apply below_drew1 | refine below_set ?_ GE231.out | refine below_set ?_ GE238.out) | exact HB.out)⟩⟩
   ·rw [if_neg c14] at H
    have c14b0 : (a0_4 == 2047) = false := beq_eq_false_iff_ne.mpr c14
    have c14b1 : (a0_4 != 2047) = true := bne_iff_ne.mpr c14
    (first | rw [c14b0] | (simp only [i64_w, i32_w]; rw [c14b0]) | skip)
    have H' := Aside0.mk H
    clear H
    have hnb17 := NB231_238.out
    have hnc17 := NB238_231.out
    have hcz18_0 : w7.cell? ⟨gb231, 0, none⟩ = some (.int .i64 a0_0) := bc BK231 0
    have hcz18_1 : w7.cell? ⟨gb231, 1, none⟩ = some (.int .i64 a0_1) := bc BK231 1
    have hcz18_2 : w7.cell? ⟨gb231, 2, none⟩ = some (.int .i64 a0_2) := bc BK231 2
    have hcz18_3 : w7.cell? ⟨gb231, 3, none⟩ = some (.int .i64 a0_3) := bc BK231 3
    have hcz18_4 : w7.cell? ⟨gb231, 4, none⟩ = some (.int .i64 a0_4) := bc BK231 4
    have hcz18_5 : w7.cell? ⟨gb231, 5, none⟩ = some (.string a0_5) := bc BK231 5
    have hcz18_6 : w7.cell? ⟨gb231, 6, none⟩ = some (.string a0_6) := bc BK231 6
    have hfz18_0 := blk_frozen BK231.out 0
    have hfz18_1 := blk_frozen BK231.out 1
    have hfz18_2 := blk_frozen BK231.out 2
    have hfz18_3 := blk_frozen BK231.out 3
    have hfz18_4 := blk_frozen BK231.out 4
    have hfz18_5 := blk_frozen BK231.out 5
    have hfz18_6 := blk_frozen BK231.out 6
    go_wp2_with (first | ((with_reducible refine gate_callee (f := 24) rfl ?_); refine goesL_ (some 14) rfl rfl Try.func24 (by kernel_rfl) rfl #[.int .i64 a0_4, .int .i64 27] rfl gl_ ?_; (with_reducible refine (impl_within.calls a0_4 27 false _ A10.out).mono ?_); rintro e w' ⟨rfl, ⟨nd, rfl⟩⟩; refine ⟨_, rfl, ?_⟩))
    go_meet
    case rel => exact ⟨_, ((a0_4 == 2046)), (by first | rfl | (simp; done) | (simp [*]; done)), H', ⟨by first | omega | exact Nat.le_refl _⟩, ⟨kF BK231.out NB231_238.out⟩, ⟨kP BK238.out⟩, ⟨by repeat (first | (with_reducible first | exact HB.out | apply below_alloc | apply pw_below_drewN | apply below_drew1 | refine below_set ?_ GE231.out | refine below_set ?_ GE238.out) | exact HB.out)⟩⟩
 case rest =>
  clear HC3
  try clear c1
  try clear c2
  try clear p2
  try clear c8
  try clear c11
  try clear c12
  try clear c14
  try clear c14b0
  try clear c14b1
  try clear c15
  try clear c17
  try clear hcz13_0
  try clear hcz13_1
  try clear hcz13_2
  try clear hcz13_3
  try clear hcz13_4
  try clear hcz13_5
  try clear hcz13_6
  try clear hcz16_0
  try clear hcz16_1
  try clear hcz16_2
  try clear hcz16_3
  try clear hcz16_4
  try clear hcz16_5
  try clear hcz16_6
  try clear hcz18_0
  try clear hcz18_1
  try clear hcz18_2
  try clear hcz18_3
  try clear hcz18_4
  try clear hcz18_5
  try clear hcz18_6
  try clear hcz5_0
  try clear hcz5_1
  try clear hcz5_2
  try clear hcz5_3
  try clear hcz5_4
  try clear hcz5_5
  try clear hcz5_6
  try clear hcz9_0
  try clear hcz9_1
  try clear hcz9_2
  try clear hcz9_3
  try clear hcz9_4
  try clear hfz13_0
  try clear hfz13_1
  try clear hfz13_2
  try clear hfz13_3
  try clear hfz13_4
  try clear hfz13_5
  try clear hfz13_6
  try clear hfz16_0
  try clear hfz16_1
  try clear hfz16_2
  try clear hfz16_3
  try clear hfz16_4
  try clear hfz16_5
  try clear hfz16_6
  try clear hfz18_0
  try clear hfz18_1
  try clear hfz18_2
  try clear hfz18_3
  try clear hfz18_4
  try clear hfz18_5
  try clear hfz18_6
  try clear hfz5_0
  try clear hfz5_1
  try clear hfz5_2
  try clear hfz5_3
  try clear hfz5_4
  try clear hfz5_5
  try clear hfz5_6
  try clear hfz9_0
  try clear hfz9_1
  try clear hfz9_2
  try clear hfz9_3
  try clear hfz9_4
  obtain ⟨kq, x5_2, rfl, HA, HJ2, BK231, BK238, HB⟩ := hcut
  cases kq with
  | zero => exact absurd HA.out (by simp [impl_downOk.j0])
  | succ kj2 =>
   have H := HA.out
   clear HA
   simp only [impl_downOk.j0] at H
   by_cases c19 : t237 = true
   ·subst c19
    have H1 : (if x5_2 = true then ((impl_within.f a0_0 1023).bind fun t240 => (if t240 = true then ((impl_within.f a0_1 7).bind fun t241 => (if t241 = true then ((impl_within.f a0_2 255).bind fun t242 => (if t242 = true then ((impl_within.f a0_3 255).bind fun t243 => (if t243 = true then (some ((a0_5.size : Int) == 28)) else (some false))) else (some false))) else (some false))) else (some false))) else (some false)) = some r := by rw [if_pos rfl] at H; exact H
    clear H
    have H := H1
    clear H1
    by_cases c20 : x5_2 = true
    ·subst c20
     have H1 : ((impl_within.f a0_0 1023).bind fun t240 => (if t240 = true then ((impl_within.f a0_1 7).bind fun t241 => (if t241 = true then ((impl_within.f a0_2 255).bind fun t242 => (if t242 = true then ((impl_within.f a0_3 255).bind fun t243 => (if t243 = true then (some ((a0_5.size : Int) == 28)) else (some false))) else (some false))) else (some false))) else (some false))) = some r := by rw [if_pos rfl] at H; exact H
     clear H
     have H := H1
     clear H1
     replace H := Option.bind_eq_some_iff.mp H
     obtain ⟨t240, A210, H⟩ := H
     replace H : (if t240 = true then ((impl_within.f a0_1 7).bind fun t241 => (if t241 = true then ((impl_within.f a0_2 255).bind fun t242 => (if t242 = true then ((impl_within.f a0_3 255).bind fun t243 => (if t243 = true then (some ((a0_5.size : Int) == 28)) else (some false))) else (some false))) else (some false))) else (some false)) = some r := H
     have A21 := Aside0.mk A210
     clear A210
     by_cases c22 : t240 = true
     ·subst c22
      have H1 : ((impl_within.f a0_1 7).bind fun t241 => (if t241 = true then ((impl_within.f a0_2 255).bind fun t242 => (if t242 = true then ((impl_within.f a0_3 255).bind fun t243 => (if t243 = true then (some ((a0_5.size : Int) == 28)) else (some false))) else (some false))) else (some false))) = some r := by rw [if_pos rfl] at H; exact H
      clear H
      have H := H1
      clear H1
      replace H := Option.bind_eq_some_iff.mp H
      obtain ⟨t241, A230, H⟩ := H
      replace H : (if t241 = true then ((impl_within.f a0_2 255).bind fun t242 => (if t242 = true then ((impl_within.f a0_3 255).bind fun t243 => (if t243 = true then (some ((a0_5.size : Int) == 28)) else (some false))) else (some false))) else (some false)) = some r := H
      have A23 := Aside0.mk A230
      clear A230
      by_cases c24 : t241 = true
      ·subst c24
       have H1 : ((impl_within.f a0_2 255).bind fun t242 => (if t242 = true then ((impl_within.f a0_3 255).bind fun t243 => (if t243 = true then (some ((a0_5.size : Int) == 28)) else (some false))) else (some false))) = some r := by rw [if_pos rfl] at H; exact H
       clear H
       have H := H1
       clear H1
       replace H := Option.bind_eq_some_iff.mp H
       obtain ⟨t242, A250, H⟩ := H
       replace H : (if t242 = true then ((impl_within.f a0_3 255).bind fun t243 => (if t243 = true then (some ((a0_5.size : Int) == 28)) else (some false))) else (some false)) = some r := H
       have A25 := Aside0.mk A250
       clear A250
       by_cases c26 : t242 = true
       ·subst c26
        have H1 : ((impl_within.f a0_3 255).bind fun t243 => (if t243 = true then (some ((a0_5.size : Int) == 28)) else (some false))) = some r := by rw [if_pos rfl] at H; exact H
        clear H
        have H := H1
        clear H1
        replace H := Option.bind_eq_some_iff.mp H
        obtain ⟨t243, A270, H⟩ := H
        replace H : (if t243 = true then (some ((a0_5.size : Int) == 28)) else (some false)) = some r := H
        have A27 := Aside0.mk A270
        clear A270
        by_cases c28 : t243 = true
        ·subst c28
         have H1 : (some ((a0_5.size : Int) == 28)) = some r := by rw [if_pos rfl] at H; exact H
         clear H
         have H := H1
         clear H1
         obtain rfl := Option.some.inj H
         have hnb29 := NB231_238.out
         have hnc29 := NB238_231.out
         have hcz30_0 : wc.cell? ⟨gb231, 0, none⟩ = some (.int .i64 a0_0) := bc BK231 0
         have hcz30_1 : wc.cell? ⟨gb231, 1, none⟩ = some (.int .i64 a0_1) := bc BK231 1
         have hcz30_2 : wc.cell? ⟨gb231, 2, none⟩ = some (.int .i64 a0_2) := bc BK231 2
         have hcz30_3 : wc.cell? ⟨gb231, 3, none⟩ = some (.int .i64 a0_3) := bc BK231 3
         have hcz30_4 : wc.cell? ⟨gb231, 4, none⟩ = some (.int .i64 a0_4) := bc BK231 4
         have hcz30_5 : wc.cell? ⟨gb231, 5, none⟩ = some (.string a0_5) := bc BK231 5
         have hcz30_6 : wc.cell? ⟨gb231, 6, none⟩ = some (.string a0_6) := bc BK231 6
         have hfz30_0 := blk_frozen BK231.out 0
         have hfz30_1 := blk_frozen BK231.out 1
         have hfz30_2 := blk_frozen BK231.out 2
         have hfz30_3 := blk_frozen BK231.out 3
         have hfz30_4 := blk_frozen BK231.out 4
         have hfz30_5 := blk_frozen BK231.out 5
         have hfz30_6 := blk_frozen BK231.out 6
         go_wp2_with (first | (go_at_call 24; (with_reducible refine (impl_within.calls a0_0 1023 true _ A21.out).mono ?_); rintro e w' ⟨rfl, ⟨nd, rfl⟩⟩) | (go_at_call 24; (with_reducible refine (impl_within.calls a0_1 7 true _ A23.out).mono ?_); rintro e w' ⟨rfl, ⟨nd, rfl⟩⟩) | (go_at_call 24; (with_reducible refine (impl_within.calls a0_2 255 true _ A25.out).mono ?_); rintro e w' ⟨rfl, ⟨nd, rfl⟩⟩) | (go_at_call 24; (with_reducible refine (impl_within.calls a0_3 255 true _ A27.out).mono ?_); rintro e w' ⟨rfl, ⟨nd, rfl⟩⟩))
         go_ret
         exact ⟨by first | rfl | (simp [errW_none, errW_some] <;> rfl) | (simp [*, errW_none, errW_some] <;> rfl), by repeat (first | (with_reducible first | exact HB.out | apply below_alloc | apply pw_below_drewN | apply below_drew1 | refine below_set ?_ GE231.out | refine below_set ?_ GE238.out) | exact HB.out)⟩
        ·replace c28 := Bool.eq_false_iff.mpr c28
         subst c28
         have H1 : (some false) = some r := by rw [if_neg (show ¬ (false = true) by decide)] at H; exact H
         clear H
         have H := H1
         clear H1
         obtain rfl := Option.some.inj H
         have hnb31 := NB231_238.out
         have hnc31 := NB238_231.out
         have hcz32_0 : wc.cell? ⟨gb231, 0, none⟩ = some (.int .i64 a0_0) := bc BK231 0
         have hcz32_1 : wc.cell? ⟨gb231, 1, none⟩ = some (.int .i64 a0_1) := bc BK231 1
         have hcz32_2 : wc.cell? ⟨gb231, 2, none⟩ = some (.int .i64 a0_2) := bc BK231 2
         have hcz32_3 : wc.cell? ⟨gb231, 3, none⟩ = some (.int .i64 a0_3) := bc BK231 3
         have hcz32_4 : wc.cell? ⟨gb231, 4, none⟩ = some (.int .i64 a0_4) := bc BK231 4
         have hcz32_5 : wc.cell? ⟨gb231, 5, none⟩ = some (.string a0_5) := bc BK231 5
         have hcz32_6 : wc.cell? ⟨gb231, 6, none⟩ = some (.string a0_6) := bc BK231 6
         have hfz32_0 := blk_frozen BK231.out 0
         have hfz32_1 := blk_frozen BK231.out 1
         have hfz32_2 := blk_frozen BK231.out 2
         have hfz32_3 := blk_frozen BK231.out 3
         have hfz32_4 := blk_frozen BK231.out 4
         have hfz32_5 := blk_frozen BK231.out 5
         have hfz32_6 := blk_frozen BK231.out 6
         go_wp2_with (first | (go_at_call 24; (with_reducible refine (impl_within.calls a0_0 1023 true _ A21.out).mono ?_); rintro e w' ⟨rfl, ⟨nd, rfl⟩⟩) | (go_at_call 24; (with_reducible refine (impl_within.calls a0_1 7 true _ A23.out).mono ?_); rintro e w' ⟨rfl, ⟨nd, rfl⟩⟩) | (go_at_call 24; (with_reducible refine (impl_within.calls a0_2 255 true _ A25.out).mono ?_); rintro e w' ⟨rfl, ⟨nd, rfl⟩⟩) | (go_at_call 24; (with_reducible refine (impl_within.calls a0_3 255 false _ A27.out).mono ?_); rintro e w' ⟨rfl, ⟨nd, rfl⟩⟩))
         go_ret
         exact ⟨by first | rfl | (simp [errW_none, errW_some] <;> rfl) | (simp [*, errW_none, errW_some] <;> rfl), by repeat (first | (with_reducible first | exact HB.out | apply below_alloc | apply pw_below_drewN | apply below_drew1 | refine below_set ?_ GE231.out | refine below_set ?_ GE238.out) | exact HB.out)⟩
       ·replace c26 := Bool.eq_false_iff.mpr c26
        subst c26
        have H1 : (some false) = some r := by rw [if_neg (show ¬ (false = true) by decide)] at H; exact H
        clear H
        have H := H1
        clear H1
        obtain rfl := Option.some.inj H
        have hnb33 := NB231_238.out
        have hnc33 := NB238_231.out
        have hcz34_0 : wc.cell? ⟨gb231, 0, none⟩ = some (.int .i64 a0_0) := bc BK231 0
        have hcz34_1 : wc.cell? ⟨gb231, 1, none⟩ = some (.int .i64 a0_1) := bc BK231 1
        have hcz34_2 : wc.cell? ⟨gb231, 2, none⟩ = some (.int .i64 a0_2) := bc BK231 2
        have hcz34_3 : wc.cell? ⟨gb231, 3, none⟩ = some (.int .i64 a0_3) := bc BK231 3
        have hcz34_4 : wc.cell? ⟨gb231, 4, none⟩ = some (.int .i64 a0_4) := bc BK231 4
        have hcz34_5 : wc.cell? ⟨gb231, 5, none⟩ = some (.string a0_5) := bc BK231 5
        have hcz34_6 : wc.cell? ⟨gb231, 6, none⟩ = some (.string a0_6) := bc BK231 6
        have hfz34_0 := blk_frozen BK231.out 0
        have hfz34_1 := blk_frozen BK231.out 1
        have hfz34_2 := blk_frozen BK231.out 2
        have hfz34_3 := blk_frozen BK231.out 3
        have hfz34_4 := blk_frozen BK231.out 4
        have hfz34_5 := blk_frozen BK231.out 5
        have hfz34_6 := blk_frozen BK231.out 6
        go_wp2_with (first | (go_at_call 24; (with_reducible refine (impl_within.calls a0_0 1023 true _ A21.out).mono ?_); rintro e w' ⟨rfl, ⟨nd, rfl⟩⟩) | (go_at_call 24; (with_reducible refine (impl_within.calls a0_1 7 true _ A23.out).mono ?_); rintro e w' ⟨rfl, ⟨nd, rfl⟩⟩) | (go_at_call 24; (with_reducible refine (impl_within.calls a0_2 255 false _ A25.out).mono ?_); rintro e w' ⟨rfl, ⟨nd, rfl⟩⟩))
        go_ret
        exact ⟨by first | rfl | (simp [errW_none, errW_some] <;> rfl) | (simp [*, errW_none, errW_some] <;> rfl), by repeat (first | (with_reducible first | exact HB.out | apply below_alloc | apply pw_below_drewN | apply below_drew1 | refine below_set ?_ GE231.out | refine below_set ?_ GE238.out) | exact HB.out)⟩
      ·replace c24 := Bool.eq_false_iff.mpr c24
       subst c24
       have H1 : (some false) = some r := by rw [if_neg (show ¬ (false = true) by decide)] at H; exact H
       clear H
       have H := H1
       clear H1
       obtain rfl := Option.some.inj H
       have hnb35 := NB231_238.out
       have hnc35 := NB238_231.out
       have hcz36_0 : wc.cell? ⟨gb231, 0, none⟩ = some (.int .i64 a0_0) := bc BK231 0
       have hcz36_1 : wc.cell? ⟨gb231, 1, none⟩ = some (.int .i64 a0_1) := bc BK231 1
       have hcz36_2 : wc.cell? ⟨gb231, 2, none⟩ = some (.int .i64 a0_2) := bc BK231 2
       have hcz36_3 : wc.cell? ⟨gb231, 3, none⟩ = some (.int .i64 a0_3) := bc BK231 3
       have hcz36_4 : wc.cell? ⟨gb231, 4, none⟩ = some (.int .i64 a0_4) := bc BK231 4
       have hcz36_5 : wc.cell? ⟨gb231, 5, none⟩ = some (.string a0_5) := bc BK231 5
       have hcz36_6 : wc.cell? ⟨gb231, 6, none⟩ = some (.string a0_6) := bc BK231 6
       have hfz36_0 := blk_frozen BK231.out 0
       have hfz36_1 := blk_frozen BK231.out 1
       have hfz36_2 := blk_frozen BK231.out 2
       have hfz36_3 := blk_frozen BK231.out 3
       have hfz36_4 := blk_frozen BK231.out 4
       have hfz36_5 := blk_frozen BK231.out 5
       have hfz36_6 := blk_frozen BK231.out 6
       go_wp2_with (first | (go_at_call 24; (with_reducible refine (impl_within.calls a0_0 1023 true _ A21.out).mono ?_); rintro e w' ⟨rfl, ⟨nd, rfl⟩⟩) | (go_at_call 24; (with_reducible refine (impl_within.calls a0_1 7 false _ A23.out).mono ?_); rintro e w' ⟨rfl, ⟨nd, rfl⟩⟩))
       go_ret
       exact ⟨by first | rfl | (simp [errW_none, errW_some] <;> rfl) | (simp [*, errW_none, errW_some] <;> rfl), by repeat (first | (with_reducible first | exact HB.out | apply below_alloc | apply pw_below_drewN | apply below_drew1 | refine below_set ?_ GE231.out | refine below_set ?_ GE238.out) | exact HB.out)⟩
     ·replace c22 := Bool.eq_false_iff.mpr c22
      subst c22
      have H1 : (some false) = some r := by rw [if_neg (show ¬ (false = true) by decide)] at H; exact H
      clear H
      have H := H1
      clear H1
      obtain rfl := Option.some.inj H
      have hnb37 := NB231_238.out
      have hnc37 := NB238_231.out
      have hcz38_0 : wc.cell? ⟨gb231, 0, none⟩ = some (.int .i64 a0_0) := bc BK231 0
      have hcz38_1 : wc.cell? ⟨gb231, 1, none⟩ = some (.int .i64 a0_1) := bc BK231 1
      have hcz38_2 : wc.cell? ⟨gb231, 2, none⟩ = some (.int .i64 a0_2) := bc BK231 2
      have hcz38_3 : wc.cell? ⟨gb231, 3, none⟩ = some (.int .i64 a0_3) := bc BK231 3
      have hcz38_4 : wc.cell? ⟨gb231, 4, none⟩ = some (.int .i64 a0_4) := bc BK231 4
      have hcz38_5 : wc.cell? ⟨gb231, 5, none⟩ = some (.string a0_5) := bc BK231 5
      have hcz38_6 : wc.cell? ⟨gb231, 6, none⟩ = some (.string a0_6) := bc BK231 6
      have hfz38_0 := blk_frozen BK231.out 0
      have hfz38_1 := blk_frozen BK231.out 1
      have hfz38_2 := blk_frozen BK231.out 2
      have hfz38_3 := blk_frozen BK231.out 3
      have hfz38_4 := blk_frozen BK231.out 4
      have hfz38_5 := blk_frozen BK231.out 5
      have hfz38_6 := blk_frozen BK231.out 6
      go_wp2_with (first | (go_at_call 24; (with_reducible refine (impl_within.calls a0_0 1023 false _ A21.out).mono ?_); rintro e w' ⟨rfl, ⟨nd, rfl⟩⟩))
      go_ret
      exact ⟨by first | rfl | (simp [errW_none, errW_some] <;> rfl) | (simp [*, errW_none, errW_some] <;> rfl), by repeat (first | (with_reducible first | exact HB.out | apply below_alloc | apply pw_below_drewN | apply below_drew1 | refine below_set ?_ GE231.out | refine below_set ?_ GE238.out) | exact HB.out)⟩
    ·replace c20 := Bool.eq_false_iff.mpr c20
     subst c20
     have H1 : (some false) = some r := by rw [if_neg (show ¬ (false = true) by decide)] at H; exact H
     clear H
     have H := H1
     clear H1
     obtain rfl := Option.some.inj H
     go_wp2
     go_ret
     exact ⟨by first | rfl | (simp [errW_none, errW_some] <;> rfl) | (simp [*, errW_none, errW_some] <;> rfl), by repeat (first | (with_reducible first | exact HB.out | apply below_alloc | apply pw_below_drewN | apply below_drew1 | refine below_set ?_ GE231.out | refine below_set ?_ GE238.out) | exact HB.out)⟩
   ·replace c19 := Bool.eq_false_iff.mpr c19
    subst c19
    have H1 : (some false) = some r := by rw [if_neg (show ¬ (false = true) by decide)] at H; exact H
    clear H
    have H := H1
    clear H1
    obtain rfl := Option.some.inj H
    go_wp2
    go_ret
    exact ⟨by first | rfl | (simp [errW_none, errW_some] <;> rfl) | (simp [*, errW_none, errW_some] <;> rfl), by repeat (first | (with_reducible first | exact HB.out | apply below_alloc | apply pw_below_drewN | apply below_drew1 | refine below_set ?_ GE231.out | refine below_set ?_ GE238.out) | exact HB.out)⟩

/-! ### impl_sum_shift: function 37 -/
def impl_sum_shift.f (a0 : Int) : Option (Int) := if (Go.bits .and .u16 a0 32768) = 0 then (some (IntKind.u16.wrap (a0 * 2))) else (some (Go.bits .xor .u16 (IntKind.u16.wrap (a0 * 2)) 4129))
set_option maxHeartbeats 8000000 in
set_option maxRecDepth 100000 in
theorem impl_sum_shift.calls (a0 : Int) (r : Int) (w : World) (h : impl_sum_shift.f a0 = some r) :
  Calls Try.prog 37 #[.int .u16 a0] w fun e w' => e = .returned (.int .u16 r) ∧ Drawn0 w w' := by
 have H : (if (Go.bits .and .u16 a0 32768) = 0 then (some (IntKind.u16.wrap (a0 * 2))) else (some (Go.bits .xor .u16 (IntKind.u16.wrap (a0 * 2)) 4129))) = some r := h
 clear h
 by_cases c2 : (Go.bits .and .u16 a0 32768) = 0
 ·rw [if_pos c2] at H
  have c2b0 : ((Go.bits .and .u16 a0 32768) == 0) = true := beq_iff_eq.mpr c2
  have c2b1 : ((Go.bits .and .u16 a0 32768) != 0) = false := bne_eq_false_iff_eq.mpr c2
  clear c2
  obtain rfl := Option.some.inj H
  go_enter Try.func37, Try.ntmps37
  go_wp2
  go_ret
  exact ⟨by first | rfl | (simp; done) | (simp [*]; done), by repeat (first | exact Drawn0.refl _ | apply Drawn0.step)⟩
 ·rw [if_neg c2] at H
  have c2b0 : ((Go.bits .and .u16 a0 32768) == 0) = false := beq_eq_false_iff_ne.mpr c2
  have c2b1 : ((Go.bits .and .u16 a0 32768) != 0) = true := bne_iff_ne.mpr c2
  obtain rfl := Option.some.inj H
  go_enter Try.func37, Try.ntmps37
  go_wp2
  go_ret
  exact ⟨by first | rfl | (simp; done) | (simp [*]; done), by repeat (first | exact Drawn0.refl _ | apply Drawn0.step)⟩

/-! ### impl_sum_over: function 25 -/
def shI (x : Int) : Int := if Go.bits .and .u16 x 32768 = 0 then IntKind.u16.wrap (x * 2) else Go.bits .xor .u16 (IntKind.u16.wrap (x * 2)) 4129
set_option maxHeartbeats 8000000 in
set_option maxRecDepth 100000 in
theorem shift_calls (x : Int) (w : World) : Calls Try.prog 37 #[.int .u16 x] w fun e w' => e = .returned (.int .u16 (shI x)) ∧ w = w' := by
  unfold shI
  by_cases c : Go.bits .and .u16 x 32768 = 0
  · rw [if_pos c]
    have c0 : ((Go.bits .and .u16 x 32768) == 0) = true := beq_iff_eq.mpr c
    have c1 : ((Go.bits .and .u16 x 32768) != 0) = false := bne_eq_false_iff_eq.mpr c
    clear c
    go_enter Try.func37, Try.ntmps37
    go_wp2
    go_ret
    exact ⟨rfl, rfl⟩
  · rw [if_neg c]
    have c0 : ((Go.bits .and .u16 x 32768) == 0) = false := beq_eq_false_iff_ne.mpr c
    have c1 : ((Go.bits .and .u16 x 32768) != 0) = true := bne_iff_ne.mpr c
    clear c
    go_enter Try.func37, Try.ntmps37
    go_wp2
    go_ret
    exact ⟨rfl, rfl⟩
def shN : Nat → Int → Int
  | 0, x => x
  | k + 1, x => shI (shN k x)
def sumT : List Int := [0, 4129, 8258, 12387, 16516, 20645, 24774, 28903, 33032, 37161, 41290, 45419, 49548, 53677, 57806, 61935]
def arrT (i : Nat) : Array Value := #[.int .u16 0, .int .u16 (if 1 < i then 4129 else 0), .int .u16 (if 2 < i then 8258 else 0), .int .u16 (if 3 < i then 12387 else 0), .int .u16 (if 4 < i then 16516 else 0), .int .u16 (if 5 < i then 20645 else 0), .int .u16 (if 6 < i then 24774 else 0), .int .u16 (if 7 < i then 28903 else 0), .int .u16 (if 8 < i then 33032 else 0), .int .u16 (if 9 < i then 37161 else 0), .int .u16 (if 10 < i then 41290 else 0), .int .u16 (if 11 < i then 45419 else 0), .int .u16 (if 12 < i then 49548 else 0), .int .u16 (if 13 < i then 53677 else 0), .int .u16 (if 14 < i then 57806 else 0), .int .u16 (if 15 < i then 61935 else 0)]
def sumV : Array Value := #[.int .u16 0, .int .u16 4129, .int .u16 8258, .int .u16 12387, .int .u16 16516, .int .u16 20645, .int .u16 24774, .int .u16 28903, .int .u16 33032, .int .u16 37161, .int .u16 41290, .int .u16 45419, .int .u16 49548, .int .u16 53677, .int .u16 57806, .int .u16 61935]
def sumZ : Array Value := #[.int .u16 0, .int .u16 0, .int .u16 0, .int .u16 0, .int .u16 0, .int .u16 0, .int .u16 0, .int .u16 0, .int .u16 0, .int .u16 0, .int .u16 0, .int .u16 0, .int .u16 0, .int .u16 0, .int .u16 0, .int .u16 0]
def arrS (k : Nat) : Array Value := (arrT k).setIfInBounds k (.int .u16 (shN 4 (k * 4096)))
theorem arr_next (k : Nat) (h : k < 16) : arrS k = arrT (k + 1) := by
  have e : k = 0 ∨ k = 1 ∨ k = 2 ∨ k = 3 ∨ k = 4 ∨ k = 5 ∨ k = 6 ∨ k = 7 ∨ k = 8 ∨ k = 9 ∨ k = 10 ∨ k = 11 ∨ k = 12 ∨ k = 13 ∨ k = 14 ∨ k = 15 := by omega
  rcases e with rfl | rfl | rfl | rfl | rfl | rfl | rfl | rfl | rfl | rfl | rfl | rfl | rfl | rfl | rfl | rfl <;> rfl
set_option maxHeartbeats 8000000 in
set_option maxRecDepth 100000 in
theorem table_calls (w : World) : Calls Try.prog 34 #[] w fun e w' => e = .returned (.agg sumV) ∧ Below w.heap.size w w' := by
  go_enter Try.func34, Try.ntmps34
  go_wp2
  go_loopw [4, 2, 3, 10] (fun i _ _ _ wr => ∃ k : Nat, k ≤ 16 ∧ i = .int .i64 k ∧ wr = (w.alloc (.cells (arrT 0) 63)).alloc (.cells (arrT k) 63)) (fun i _ _ _ _ => 16 - (intOf i).toNat)
  case atStart => exact ⟨0, by omega, rfl, rfl⟩
  case round =>
    obtain ⟨k, hk, rfl, rfl⟩ := hrel
    by_cases hlt : k < 16
    · have hz : (arrT k).size = 16 := rfl
      have HA := Aside0.mk (arr_next k hlt)
      have hd : decide ((k : Int) < 16) = true := decide_eq_true (by omega)
      go_wp2
      go_loop [10, 3] (fun i s => ∃ j : Nat, j ≤ 4 ∧ i = .int .i64 j ∧ s = .int .u16 (shN j (k * 4096))) (fun i _ => 4 - (intOf i).toNat)
      case atStart => exact ⟨0, by omega, rfl, rfl⟩
      case round =>
        obtain ⟨j, hj, rfl, rfl⟩ := hrel
        by_cases hlj : j < 4
        · go_wp2_with (go_at_call 37; refine (shift_calls _ _).mono ?_; rintro e w' ⟨rfl, rfl⟩)
          go_round
          case rel => exact ⟨j + 1, by omega, by go_num, rfl⟩
          case measure => simp [intOf]; omega
        · obtain rfl : j = 4 := by omega
          go_wp2
          exact ⟨⟨k + 1, by omega, by go_num, by rw [show (arrT k).setIfInBounds k (.int .u16 (shN 4 (k * 4096))) = arrT (k + 1) from HA.out]⟩, by simp [intOf]; omega⟩
    · obtain rfl : k = 16 := by omega
      rw [show arrT 16 = sumV from rfl, show arrT 0 = sumZ from rfl]
      unfold sumV sumZ
      go_wp2
      unfold sumV
      refine bodyPost_ret (v := .agg #[.int .u16 0, .int .u16 4129, .int .u16 8258, .int .u16 12387, .int .u16 16516, .int .u16 20645, .int .u16 24774, .int .u16 28903, .int .u16 33032, .int .u16 37161, .int .u16 41290, .int .u16 45419, .int .u16 49548, .int .u16 53677, .int .u16 57806, .int .u16 61935]) (by simp [results, Try.results34, go_sem]) rfl ⟨rfl, ?_⟩
      exact ((Below.refl _ _).alloc (Nat.le_refl _) _).alloc (by simp) _
def halfX (x b : Int) : Nat := (Go.bits .xor .u8 (x / 4096) b).toNat
def halfI (x b : Int) : Int := Go.bits .xor .u16 (IntKind.u16.wrap (x * 16)) (sumT.getD (halfX x b) 0)
theorem halfX_ok (x b : Int) (h0 : 0 ≤ x) (h1 : x ≤ 65535) (h2 : 0 ≤ b) (h3 : b ≤ 15) : halfX x b < 16 ∧ Go.bits .xor .u8 (x / 4096) b = (halfX x b : Int) := by
  have key : ∀ p q : Fin 16, 0 ≤ Go.bits .xor .u8 (p.val : Int) (q.val : Int) ∧ Go.bits .xor .u8 (p.val : Int) (q.val : Int) < 16 := by decide +kernel
  have := key ⟨(x / 4096).toNat, by omega⟩ ⟨b.toNat, by omega⟩
  have e1 : (((x / 4096).toNat : Nat) : Int) = x / 4096 := by omega
  have e2 : ((b.toNat : Nat) : Int) = b := by omega
  simp only [e1, e2] at this
  unfold halfX
  omega
theorem bits16_range (o : BinOp) (x y : Int) (h : ∃ z : BitVec 16, Go.bits o .u16 x y = (z.toNat : Int)) : 0 ≤ Go.bits o .u16 x y ∧ Go.bits o .u16 x y ≤ 65535 := by
  obtain ⟨z, hz⟩ := h
  rw [hz]
  have := z.isLt
  omega
set_option maxHeartbeats 8000000 in
set_option maxRecDepth 100000 in
theorem half_any (g : Nat) (x b : Int) (w : World) (h0 : 0 ≤ x) (h1 : x ≤ 65535) (h2 : 0 ≤ b) (h3 : b ≤ 15) (hT : ∀ j, j < 16 → w.cell? ⟨g, j, none⟩ = some (.int .u16 (sumT.getD j 0))) :
   Calls Try.prog 35 #[.int .u16 x, .int .u8 b, .pointer (some ⟨g, 0, none⟩)] w fun e w' => e = .returned (.int .u16 (halfI x b)) ∧ w' = w := by
  obtain ⟨hn, hX⟩ := halfX_ok x b h0 h1 h2 h3
  have hb := hT (halfX x b) hn
  unfold halfI
  generalize sumT.getD (halfX x b) 0 = t at hb ⊢
  generalize halfX x b = n at hb hX hn
  clear hT
  go_enter Try.func35, Try.ntmps35
  go_wp2
  go_ret
  exact ⟨rfl, rfl⟩
theorem xor16 (x y : Int) : Go.bits .xor .u16 x y = ((BitVec.ofInt 16 x ^^^ BitVec.ofInt 16 y).toNat : Int) := by
  show IntKind.u16.wrap ((BitVec.ofInt 16 x ^^^ BitVec.ofInt 16 y).toNat : Int) = _
  have h := (BitVec.ofInt 16 x ^^^ BitVec.ofInt 16 y).isLt
  generalize (BitVec.ofInt 16 x ^^^ BitVec.ofInt 16 y).toNat = n at h ⊢
  simp only [IntKind.wrap, IntKind.bits, IntKind.signed]
  simp
  omega
theorem halfI_range (x b : Int) : 0 ≤ halfI x b ∧ halfI x b ≤ 65535 := by
  unfold halfI
  rw [xor16]
  have := (BitVec.ofInt 16 (IntKind.u16.wrap (x * 16)) ^^^ BitVec.ofInt 16 (sumT.getD (halfX x b) 0)).isLt
  omega
def byteI (x : Int) (c : UInt8) : Int := halfI (halfI x ((c.toNat : Int) / 16)) ((c.toNat : Int) % 16)
def overI (x : Int) (l : List UInt8) : Int := l.foldl byteI x
theorem overI_range (l : List UInt8) : ∀ x : Int, 0 ≤ x → x ≤ 65535 → 0 ≤ overI x l ∧ overI x l ≤ 65535 := by
  induction l with
  | nil => exact fun x h0 h1 => ⟨h0, h1⟩
  | cons c l ih =>
    intro x h0 h1
    obtain ⟨a, b⟩ := halfI_range (halfI x ((c.toNat : Int) / 16)) ((c.toNat : Int) % 16)
    exact ih _ a b
theorem overI_snoc (x : Int) (s : ByteArray) (k : Nat) (h : k < s.size) : overI x (s.data.toList.take (k + 1)) = byteI (overI x (s.data.toList.take k)) s[k] := by
  rw [List.take_succ_eq_append_getElem (by simpa using h)]
  unfold overI
  rw [List.foldl_append]
  rfl
theorem cell_sum (w : World) (j : Nat) (hj : j < 16) : (w.alloc (.cells sumV 63)).cell? ⟨w.heap.size, j, none⟩ = some (.int .u16 (sumT.getD j 0)) := by
  have e : j = 0 ∨ j = 1 ∨ j = 2 ∨ j = 3 ∨ j = 4 ∨ j = 5 ∨ j = 6 ∨ j = 7 ∨ j = 8 ∨ j = 9 ∨ j = 10 ∨ j = 11 ∨ j = 12 ∨ j = 13 ∨ j = 14 ∨ j = 15 := by omega
  unfold sumV
  rcases e with rfl | rfl | rfl | rfl | rfl | rfl | rfl | rfl | rfl | rfl | rfl | rfl | rfl | rfl | rfl | rfl <;> (simp; rfl)
theorem table_lit (w : World) : Calls Try.prog 34 #[] w fun e w' => e = .returned (.agg #[.int .u16 0, .int .u16 4129, .int .u16 8258, .int .u16 12387, .int .u16 16516, .int .u16 20645, .int .u16 24774, .int .u16 28903, .int .u16 33032, .int .u16 37161, .int .u16 41290, .int .u16 45419, .int .u16 49548, .int .u16 53677, .int .u16 57806, .int .u16 61935]) ∧ Below w.heap.size w w' := table_calls w
def impl_sum_over.f (a0 : Int) (a1 : ByteArray) : Option Int := if 0 ≤ a0 ∧ a0 ≤ 65535 ∧ a1.size ≤ 9223372036854775807 then some (overI a0 a1.data.toList) else none
set_option maxHeartbeats 8000000 in
set_option maxRecDepth 100000 in
theorem impl_sum_over.calls (a0 : Int) (a1 : ByteArray) (r : Int) (w : World) (h : impl_sum_over.f a0 a1 = some r) :
  Calls Try.prog 25 #[.int .u16 a0, .string a1] w fun e w' => e = .returned (.int .u16 r) ∧ Below w.heap.size w w' := by
  unfold impl_sum_over.f at h
  split at h
  case isFalse => cases h
  rename_i hh
  obtain ⟨h0, h1, hs⟩ := hh
  obtain rfl := Option.some.inj h
  clear h
  go_enter Try.func25, Try.ntmps25
  go_wp2_with (go_at_call 34; refine (table_lit _).mono ?_; rintro e w1 ⟨rfl, hb1⟩)
  have HT := Aside0.mk (cell_sum w1)
  unfold sumV at HT
  have HB := Aside0.mk (hb1.alloc hb1.size (.cells #[.int .u16 0, .int .u16 4129, .int .u16 8258, .int .u16 12387, .int .u16 16516, .int .u16 20645, .int .u16 24774, .int .u16 28903, .int .u16 33032, .int .u16 37161, .int .u16 41290, .int .u16 45419, .int .u16 49548, .int .u16 53677, .int .u16 57806, .int .u16 61935] 63))
  have hz : w1.heap.size < (w1.alloc (.cells #[.int .u16 0, .int .u16 4129, .int .u16 8258, .int .u16 12387, .int .u16 16516, .int .u16 20645, .int .u16 24774, .int .u16 28903, .int .u16 33032, .int .u16 37161, .int .u16 41290, .int .u16 45419, .int .u16 49548, .int .u16 53677, .int .u16 57806, .int .u16 61935] 63)).heap.size := by simp
  generalize (w1.alloc (.cells #[.int .u16 0, .int .u16 4129, .int .u16 8258, .int .u16 12387, .int .u16 16516, .int .u16 20645, .int .u16 24774, .int .u16 28903, .int .u16 33032, .int .u16 37161, .int .u16 41290, .int .u16 45419, .int .u16 49548, .int .u16 53677, .int .u16 57806, .int .u16 61935] 63)) = W1 at HT HB hz ⊢
  generalize w1.heap.size = g at HT hz ⊢
  generalize (Value.agg #[.int .u16 0, .int .u16 4129, .int .u16 8258, .int .u16 12387, .int .u16 16516, .int .u16 20645, .int .u16 24774, .int .u16 28903, .int .u16 33032, .int .u16 37161, .int .u16 41290, .int .u16 45419, .int .u16 49548, .int .u16 53677, .int .u16 57806, .int .u16 61935]) = v7 at ⊢
  replace HB : Aside0 (Below w.heap.size w W1) := HB
  replace HT : Aside0 (∀ j, j < 16 → W1.cell? ⟨g, j, none⟩ = some (.int .u16 (sumT.getD j 0))) := HT
  go_loopw [0, 6] (fun s i wr => ∃ k : Nat, k ≤ a1.size ∧ i = .int .i64 k ∧ s = .int .u16 (overI a0 (a1.data.toList.take k)) ∧ Aside0 (∀ j, j < 16 → wr.cell? ⟨g, j, none⟩ = some (.int .u16 (sumT.getD j 0))) ∧ Aside0 (Below w.heap.size w wr)) (fun _ i _ => a1.size - (intOf i).toNat)
  case atStart => exact ⟨0, by omega, rfl, rfl, HT, HB⟩
  case round =>
    clear HT HB hz
    obtain ⟨k, hk, rfl, rfl, HT, HB⟩ := hrel
    obtain ⟨r0, r1⟩ := overI_range (a1.data.toList.take k) a0 h0 h1
    by_cases hlt : k < a1.size
    · have HS := Aside0.mk (overI_snoc a0 a1 k hlt)
      go_wp2
      have hc : a1[k].toNat < 256 := a1[k].toNat_lt
      have hi : (k : Int) < a1.size := by omega
      go_quiet ((go_at_call 35; exact Calls.quiet_of_same (half_any g _ _ _ (by first | exact r0 | exact (halfI_range _ _).1) (by first | exact r1 | exact (halfI_range _ _).2) (by omega) (by omega) (fun j hj => by simpa using HT.out j hj))))
      go_wp2
      go_roundw
      case rel => exact ⟨k + 1, by omega, by go_num, by rw [HS.out]; rfl, ⟨fun j hj => by simpa using HT.out j hj⟩, ⟨pw_below_drewN HB.out _⟩⟩
      case measure => simp [intOf]; omega
    · obtain rfl : k = a1.size := by omega
      go_wp2
      go_ret
      exact ⟨congrArg (fun l => Ending.returned (.int .u16 (overI a0 l))) (List.take_of_length_le (Nat.le_of_eq (by simp))), HB.out⟩

/-! ### impl_Crc16: function 14 -/
def impl_Crc16.f (a0 : ByteArray) : Option (Int) := (impl_sum_over.f 65535 a0).bind fun t244 => (some (wrap64 (t244)))
set_option maxHeartbeats 8000000 in
set_option maxRecDepth 100000 in
theorem impl_Crc16.calls (a0 : ByteArray) (r : Int) (w : World) (h : impl_Crc16.f a0 = some r) :
  Calls Try.prog 14 #[.string a0] w fun e w' => e = .returned (.int .i64 r) ∧ Below w.heap.size w w' := by
 have HB := m_ (Below.refl w.heap.size w)
 have H : ((impl_sum_over.f 65535 a0).bind fun t244 => (some (wrap64 (t244)))) = some r := h
 clear h
 replace H := Option.bind_eq_some_iff.mp H
 obtain ⟨t244, A20, H⟩ := H
 replace H : (some (wrap64 (t244))) = some r := H
 have A2 := Aside0.mk A20
 clear A20
 obtain rfl := Option.some.inj H
 go_enter Try.func14, Try.ntmps14
 go_wp2_with (first | ((with_reducible refine gate_callee (f := 25) rfl ?_); refine goesL_ (some 4) rfl rfl Try.func25 (by kernel_rfl) rfl #[.int .u16 65535, .string a0] rfl gl_ ?_; (with_reducible refine (impl_sum_over.calls 65535 a0 t244 _ A2.out).mono ?_); rintro e w3 ⟨rfl, hb⟩; refine ⟨_, rfl, ?_⟩; have n0_ := m_ (below_step (bN HB.out) hb); clear HB; have HB := n0_; clear n0_; (try clear hb); (try clear hb2); (try clear hk); (try clear hi)))
 go_ret
 exact ⟨by first | rfl | (simp [errW_none, errW_some] <;> rfl) | (simp [*, errW_none, errW_some] <;> rfl), by repeat (first | (with_reducible first | exact HB.out | apply below_alloc | apply pw_below_drewN | apply below_drew1) | exact HB.out)⟩

end Go.Proofs.Ytaolcmhgbanacaa.P
