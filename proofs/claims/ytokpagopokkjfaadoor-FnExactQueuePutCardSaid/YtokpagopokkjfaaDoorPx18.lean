/- The machine side of these statements, function by function: what each Go function answers (as a Lean function), and that it does. Written by a program (mp.py) for this claim. -/
import Derived.Test.YtokpagopokkjfaaDoorPx0
import Derived.Test.YtokpagopokkjfaaDoorPx7
import Derived.Test.YtokpagopokkjfaaDoorPx9
import Derived.Test.YtokpagopokkjfaaDoorPx12
import Derived.Test.YtokpagopokkjfaaDoorPx13
namespace Go.Proofs.YtokpagopokkjfaaDoor.P
open Go.RowKit Go.Proofs.YtokpagopokkjfaaDoorW.PrintWords Go.Proofs.YtokpagopokkjfaaDoorW.PrintLast Go.Proofs.YtokpagopokkjfaaDoorW.PrintMore
attribute [local go_sem] max2_int min2_int max_two min_two max_three min_three max_four min_four   -- for this text's walks alone
set_option linter.unusedVariables false
set_option linter.unusedSimpArgs false

/-! ### laws_FnExactQueuePut: function 4 -/
mutual
def laws_FnExactQueuePut.j0 : Nat → ByteArray → Bool → Bool → Bool → List ByteArray → Int → List ByteArray → Int → List ByteArray → Int → List ByteArray → Int → Option (Bool)
 | 0, _, _, _, _, _, _, _, _, _, _, _, _ => none
 | k + 1, x1, x7, x10, x47, x283000, x283001, x294000, x294001, x299000, x299001, x305000, x305001 => if x47 = true then (some false) else ((laws_toQueue.f k x283000 x283001).bind fun bt306 => ((laws_eqQueue.f k x299000 x299001 bt306.1 bt306.2).bind fun t310 => (if t310 = true then ((laws_markQueue.f k x299000 x299001 1).bind fun bt311 => (if bt311.1 < 0 then (laws_FnExactQueuePut.j1 k x1 x7 true x283000 x283001 x294000 x294001 x305000 x305001) else ((laws_eqQueue.f k x305000 x305001 x294000 x294001).bind fun t313 => (if t313 = true then (laws_FnExactQueuePut.j1 k x1 x7 (x10 != x7) x283000 x283001 x294000 x294001 x305000 x305001) else (laws_FnExactQueuePut.j1 k x1 x7 true x283000 x283001 x294000 x294001 x305000 x305001))))) else (some false))))
def laws_FnExactQueuePut.j1 : Nat → ByteArray → Bool → Bool → List ByteArray → Int → List ByteArray → Int → List ByteArray → Int → Option (Bool)
 | 0, _, _, _, _, _, _, _, _, _ => none
 | k + 1, x1, x7, x68, x283000, x283001, x294000, x294001, x305000, x305001 => if x68 = true then (some false) else ((laws_markQueue.f k x305000 x305001 1).bind fun bt314 => ((laws_heldQueue.f k bt314.2 x305001 1).bind fun t316 => (if t316 < 0 then (some false) else (if t316 = bt314.1 then ((laws_toQueue.f k x283000 x283001).bind fun bt317 => ((impl_QueuePut.f k bt317.1 bt317.2 x1).bind fun bt321 => ((laws_eqQueue.f k bt321.1 bt321.2.1 x294000 x294001).bind fun t327 => (if t327 = true then (laws_FnExactQueuePut.j2 k bt314.1 (bt321.2.2 != x7) bt314.2 x305001) else (laws_FnExactQueuePut.j2 k bt314.1 true bt314.2 x305001))))) else (some false)))))
def laws_FnExactQueuePut.j2 : Nat → Int → Bool → List ByteArray → Int → Option (Bool)
 | 0, _, _, _, _ => none
 | k + 1, x12, x95, x305000, x305001 => if x95 = true then (some false) else ((laws_heldQueue.f k x305000 x305001 1).bind fun t328 => (if t328 < 0 then (some false) else (if t328 = x12 then (some true) else (some false))))
end
def laws_FnExactQueuePut.f (k : Nat) (l0_0 : List ByteArray) (a0_1 : Int) (a1 : ByteArray) : Option (Bool) := if (a1.size : Int) > 1048576 then (some true) else ((laws_szQueue.f k l0_0 a0_1 1048576).bind fun t283 => (if t283 < 0 then (some true) else ((laws_toQueue.f k l0_0 a0_1).bind fun bt284 => ((spec_QueuePut.f k bt284.1 bt284.2 a1).bind fun bt288 => ((laws_toQueue.f k l0_0 a0_1).bind fun bt294 => ((impl_QueuePut.f k bt294.1 bt294.2 a1).bind fun bt299 => ((laws_eqQueue.f k bt299.1 bt299.2.1 bt288.1 bt288.2.1).bind fun t305 => (if t305 = true then (laws_FnExactQueuePut.j0 k a1 bt288.2.2 bt299.2.2 (bt299.2.2 != bt288.2.2) l0_0 a0_1 bt288.1 bt288.2.1 bt294.1 bt294.2 bt299.1 bt299.2.1) else (laws_FnExactQueuePut.j0 k a1 bt288.2.2 bt299.2.2 true l0_0 a0_1 bt288.1 bt288.2.1 bt294.1 bt294.2 bt299.1 bt299.2.1)))))))))
theorem laws_FnExactQueuePut.mono_l : ∀ k, (∀ y0 y1 y2 y3 y4 y5 y6 y7 y8 y9 y10 y11, LeO (laws_FnExactQueuePut.j0 k y0 y1 y2 y3 y4 y5 y6 y7 y8 y9 y10 y11) (laws_FnExactQueuePut.j0 (k + 1) y0 y1 y2 y3 y4 y5 y6 y7 y8 y9 y10 y11)) ∧ (∀ y0 y1 y2 y3 y4 y5 y6 y7 y8, LeO (laws_FnExactQueuePut.j1 k y0 y1 y2 y3 y4 y5 y6 y7 y8) (laws_FnExactQueuePut.j1 (k + 1) y0 y1 y2 y3 y4 y5 y6 y7 y8)) ∧ (∀ y0 y1 y2 y3, LeO (laws_FnExactQueuePut.j2 k y0 y1 y2 y3) (laws_FnExactQueuePut.j2 (k + 1) y0 y1 y2 y3))
 | 0 => ⟨fun _ _ _ _ _ _ _ _ _ _ _ _ r h => by simp [laws_FnExactQueuePut.j0] at h, fun _ _ _ _ _ _ _ _ _ r h => by simp [laws_FnExactQueuePut.j1] at h, fun _ _ _ _ r h => by simp [laws_FnExactQueuePut.j2] at h⟩
 | k + 1 => by
  obtain ⟨ih0, ih1, ih2⟩ := laws_FnExactQueuePut.mono_l k
  refine ⟨?_, ?_, ?_⟩
  ·intro y0 y1 y2 y3 y4 y5 y6 y7 y8 y9 y10 y11
   unfold laws_FnExactQueuePut.j0
   repeat' first
   | (with_reducible exact ih0 _ _ _ _ _ _ _ _ _ _ _ _)
   | (with_reducible exact ih1 _ _ _ _ _ _ _ _ _)
   | (with_reducible exact ih2 _ _ _ _)
   | (with_reducible exact impl_QueuePut.mono _ _ _ _)
   | (with_reducible exact laws_eqQueue.mono _ _ _ _ _)
   | (with_reducible exact laws_heldQueue.mono _ _ _ _)
   | (with_reducible exact laws_markQueue.mono _ _ _ _)
   | (with_reducible exact laws_szQueue.mono _ _ _ _)
   | (with_reducible exact laws_toQueue.mono _ _ _)
   | (with_reducible exact spec_QueuePut.mono _ _ _ _)
   | (with_reducible exact LeO.refl _)
   | (with_reducible exact LeO.none _)
   | (with_reducible refine LeO.ite ?_ ?_)
   | (with_reducible refine LeO.bind ?_ (fun _ => ?_))
   | exact ih0 _ _ _ _ _ _ _ _ _ _ _ _
   | exact ih1 _ _ _ _ _ _ _ _ _
   | exact ih2 _ _ _ _
   | exact impl_QueuePut.mono _ _ _ _
   | exact laws_eqQueue.mono _ _ _ _ _
   | exact laws_heldQueue.mono _ _ _ _
   | exact laws_markQueue.mono _ _ _ _
   | exact laws_szQueue.mono _ _ _ _
   | exact laws_toQueue.mono _ _ _
   | exact spec_QueuePut.mono _ _ _ _
   | exact LeO.none _
   | refine LeO.ite ?_ ?_
   | refine LeO.bind ?_ (fun _ => ?_)
  ·intro y0 y1 y2 y3 y4 y5 y6 y7 y8
   unfold laws_FnExactQueuePut.j1
   repeat' first
   | (with_reducible exact ih0 _ _ _ _ _ _ _ _ _ _ _ _)
   | (with_reducible exact ih1 _ _ _ _ _ _ _ _ _)
   | (with_reducible exact ih2 _ _ _ _)
   | (with_reducible exact impl_QueuePut.mono _ _ _ _)
   | (with_reducible exact laws_eqQueue.mono _ _ _ _ _)
   | (with_reducible exact laws_heldQueue.mono _ _ _ _)
   | (with_reducible exact laws_markQueue.mono _ _ _ _)
   | (with_reducible exact laws_szQueue.mono _ _ _ _)
   | (with_reducible exact laws_toQueue.mono _ _ _)
   | (with_reducible exact spec_QueuePut.mono _ _ _ _)
   | (with_reducible exact LeO.refl _)
   | (with_reducible exact LeO.none _)
   | (with_reducible refine LeO.ite ?_ ?_)
   | (with_reducible refine LeO.bind ?_ (fun _ => ?_))
   | exact ih0 _ _ _ _ _ _ _ _ _ _ _ _
   | exact ih1 _ _ _ _ _ _ _ _ _
   | exact ih2 _ _ _ _
   | exact impl_QueuePut.mono _ _ _ _
   | exact laws_eqQueue.mono _ _ _ _ _
   | exact laws_heldQueue.mono _ _ _ _
   | exact laws_markQueue.mono _ _ _ _
   | exact laws_szQueue.mono _ _ _ _
   | exact laws_toQueue.mono _ _ _
   | exact spec_QueuePut.mono _ _ _ _
   | exact LeO.none _
   | refine LeO.ite ?_ ?_
   | refine LeO.bind ?_ (fun _ => ?_)
  ·intro y0 y1 y2 y3
   unfold laws_FnExactQueuePut.j2
   repeat' first
   | (with_reducible exact ih0 _ _ _ _ _ _ _ _ _ _ _ _)
   | (with_reducible exact ih1 _ _ _ _ _ _ _ _ _)
   | (with_reducible exact ih2 _ _ _ _)
   | (with_reducible exact impl_QueuePut.mono _ _ _ _)
   | (with_reducible exact laws_eqQueue.mono _ _ _ _ _)
   | (with_reducible exact laws_heldQueue.mono _ _ _ _)
   | (with_reducible exact laws_markQueue.mono _ _ _ _)
   | (with_reducible exact laws_szQueue.mono _ _ _ _)
   | (with_reducible exact laws_toQueue.mono _ _ _)
   | (with_reducible exact spec_QueuePut.mono _ _ _ _)
   | (with_reducible exact LeO.refl _)
   | (with_reducible exact LeO.none _)
   | (with_reducible refine LeO.ite ?_ ?_)
   | (with_reducible refine LeO.bind ?_ (fun _ => ?_))
   | exact ih0 _ _ _ _ _ _ _ _ _ _ _ _
   | exact ih1 _ _ _ _ _ _ _ _ _
   | exact ih2 _ _ _ _
   | exact impl_QueuePut.mono _ _ _ _
   | exact laws_eqQueue.mono _ _ _ _ _
   | exact laws_heldQueue.mono _ _ _ _
   | exact laws_markQueue.mono _ _ _ _
   | exact laws_szQueue.mono _ _ _ _
   | exact laws_toQueue.mono _ _ _
   | exact spec_QueuePut.mono _ _ _ _
   | exact LeO.none _
   | refine LeO.ite ?_ ?_
   | refine LeO.bind ?_ (fun _ => ?_)
theorem laws_FnExactQueuePut.mono : ∀ a0 a1 a2 k, LeO (laws_FnExactQueuePut.f k a0 a1 a2) (laws_FnExactQueuePut.f (k + 1) a0 a1 a2) := by
 intro a0 a1 a2 k
 obtain ⟨ih0, ih1, ih2⟩ := laws_FnExactQueuePut.mono_l k
 unfold laws_FnExactQueuePut.f
 repeat' first
   | (with_reducible exact ih0 _ _ _ _ _ _ _ _ _ _ _ _)
   | (with_reducible exact ih1 _ _ _ _ _ _ _ _ _)
   | (with_reducible exact ih2 _ _ _ _)
   | (with_reducible exact impl_QueuePut.mono _ _ _ _)
   | (with_reducible exact laws_eqQueue.mono _ _ _ _ _)
   | (with_reducible exact laws_heldQueue.mono _ _ _ _)
   | (with_reducible exact laws_markQueue.mono _ _ _ _)
   | (with_reducible exact laws_szQueue.mono _ _ _ _)
   | (with_reducible exact laws_toQueue.mono _ _ _)
   | (with_reducible exact spec_QueuePut.mono _ _ _ _)
   | (with_reducible exact LeO.refl _)
   | (with_reducible exact LeO.none _)
   | (with_reducible refine LeO.ite ?_ ?_)
   | (with_reducible refine LeO.bind ?_ (fun _ => ?_))
   | exact ih0 _ _ _ _ _ _ _ _ _ _ _ _
   | exact ih1 _ _ _ _ _ _ _ _ _
   | exact ih2 _ _ _ _
   | exact impl_QueuePut.mono _ _ _ _
   | exact laws_eqQueue.mono _ _ _ _ _
   | exact laws_heldQueue.mono _ _ _ _
   | exact laws_markQueue.mono _ _ _ _
   | exact laws_szQueue.mono _ _ _ _
   | exact laws_toQueue.mono _ _ _
   | exact spec_QueuePut.mono _ _ _ _
   | exact LeO.none _
   | refine LeO.ite ?_ ?_
   | refine LeO.bind ?_ (fun _ => ?_)
set_option maxHeartbeats 8000000 in
set_option maxRecDepth 100000 in
theorem laws_FnExactQueuePut.calls (k : Nat) (A0_0 : Option Addr) (c0_0 : Nat) (l0_0 : List ByteArray) (a0_1 : Int) (a1 : ByteArray) (r : Bool) (w : World) (hr0_0 : Kd.C Kd.string w A0_0 l0_0.length l0_0) (hc0_0 : l0_0.length ≤ c0_0) (h : laws_FnExactQueuePut.f k l0_0 a0_1 a1 = some r) :
  Calls Tryd.prog 4 #[.agg #[.slice A0_0 l0_0.length c0_0, .int .i64 a0_1], .string a1] w fun e w' => e = .returned (.bool r) ∧ Below w.heap.size w w' := by
 have hu24 := Tryd.underlying24
 have hu27 := Tryd.underlying27
 have HR0_0 := Aside0.mk hr0_0
 have HC0_0 := Aside0.mk hc0_0
 clear hr0_0 hc0_0
 have HB := m_ (Below.refl w.heap.size w)
 have H : (if (a1.size : Int) > 1048576 then (some true) else ((laws_szQueue.f k l0_0 a0_1 1048576).bind fun t283 => (if t283 < 0 then (some true) else ((laws_toQueue.f k l0_0 a0_1).bind fun bt284 => ((spec_QueuePut.f k bt284.1 bt284.2 a1).bind fun bt288 => ((laws_toQueue.f k l0_0 a0_1).bind fun bt294 => ((impl_QueuePut.f k bt294.1 bt294.2 a1).bind fun bt299 => ((laws_eqQueue.f k bt299.1 bt299.2.1 bt288.1 bt288.2.1).bind fun t305 => (if t305 = true then (laws_FnExactQueuePut.j0 k a1 bt288.2.2 bt299.2.2 (bt299.2.2 != bt288.2.2) l0_0 a0_1 bt288.1 bt288.2.1 bt294.1 bt294.2 bt299.1 bt299.2.1) else (laws_FnExactQueuePut.j0 k a1 bt288.2.2 bt299.2.2 true l0_0 a0_1 bt288.1 bt288.2.1 bt294.1 bt294.2 bt299.1 bt299.2.1)))))))))) = some r := h
 clear h
 by_cases c3 : (a1.size : Int) > 1048576
 ·rw [if_pos c3] at H
  have c3b0 : decide (1048576 < (a1.size : Int)) = true := decide_eq_true c3
  have c3b1 : decide (1048576 < a1.size) = true := decide_eq_true (by omega)
  clear c3
  obtain rfl := Option.some.inj H
  go_enter Tryd.func4, Tryd.ntmps4
  go_wp2_with (first | ((with_reducible refine gate_dst (N := 2) rfl ?_); refine box_event ?hg (N := 2) ?hd (cs := #[.slice A0_0 l0_0.length c0_0, .int .i64 a0_1]) (t := 24) ?hr ?_; (case hd => rfl); (case hg => rfl); (case hr => first | (go_simp; done) | (go_simp; rfl)); intro gb282 hg w4 hbox hb; have n0_ := m_ (below_step (bN HB.out) hb); have n1_ := m_ (hbox); have n2_ := m_ ((by rw [hg]; exact (below_size (bN HB.out)) : w.heap.size ≤ gb282)); have n3_ := m_ ((by rw [hg]; exact (below_size (bN HB.out)) : w.heap.size ≤ gb282)); clear HB; have HB := n0_; have BK282 := n1_; have GW282 := n2_; have GE282 := n3_; clear n0_ n1_ n2_ n3_; clear hb hbox hg))
  go_ret
  exact ⟨by first | rfl | (simp [errW_none, errW_some] <;> rfl) | (simp [*, errW_none, errW_some] <;> rfl), by repeat (first | (with_reducible first | exact HB.out | apply below_alloc | apply pw_below_drewN | apply below_drew1 | refine below_set ?_ GE282.out) | exact HB.out)⟩
 ·rw [if_neg c3] at H
  have c3b0 : decide (1048576 < (a1.size : Int)) = false := decide_eq_false c3
  have c3b1 : decide (1048576 < a1.size) = false := decide_eq_false (by omega)
  clear c3
  replace H := Option.bind_eq_some_iff.mp H
  obtain ⟨t283, A50, H⟩ := H
  replace H : (if t283 < 0 then (some true) else ((laws_toQueue.f k l0_0 a0_1).bind fun bt284 => ((spec_QueuePut.f k bt284.1 bt284.2 a1).bind fun bt288 => ((laws_toQueue.f k l0_0 a0_1).bind fun bt294 => ((impl_QueuePut.f k bt294.1 bt294.2 a1).bind fun bt299 => ((laws_eqQueue.f k bt299.1 bt299.2.1 bt288.1 bt288.2.1).bind fun t305 => (if t305 = true then (laws_FnExactQueuePut.j0 k a1 bt288.2.2 bt299.2.2 (bt299.2.2 != bt288.2.2) l0_0 a0_1 bt288.1 bt288.2.1 bt294.1 bt294.2 bt299.1 bt299.2.1) else (laws_FnExactQueuePut.j0 k a1 bt288.2.2 bt299.2.2 true l0_0 a0_1 bt288.1 bt288.2.1 bt294.1 bt294.2 bt299.1 bt299.2.1)))))))) = some r := H
  have A5 := Aside0.mk A50
  clear A50
  by_cases c6 : t283 < 0
  ·rw [if_pos c6] at H
   have c6b0 : decide (t283 < 0) = true := decide_eq_true c6
   clear c6
   obtain rfl := Option.some.inj H
   go_enter Tryd.func4, Tryd.ntmps4
   go_wp2_with (first | ((with_reducible refine gate_dst (N := 2) rfl ?_); refine box_event ?hg (N := 2) ?hd (cs := #[.slice A0_0 l0_0.length c0_0, .int .i64 a0_1]) (t := 24) ?hr ?_; (case hd => rfl); (case hg => rfl); (case hr => first | (go_simp; done) | (go_simp; rfl)); intro gb282 hg w7 hbox hb; have n0_ := m_ (below_step (bN HB.out) hb); have n1_ := m_ (hbox); have n2_ := m_ ((by rw [hg]; exact (below_size (bN HB.out)) : w.heap.size ≤ gb282)); have n3_ := m_ ((by rw [hg]; exact (below_size (bN HB.out)) : w.heap.size ≤ gb282)); clear HB; have HB := n0_; have BK282 := n1_; have GW282 := n2_; have GE282 := n3_; clear n0_ n1_ n2_ n3_; clear hb hbox hg; have hcz8_0 : w7.cell? ⟨gb282, 0, none⟩ = some (.slice A0_0 l0_0.length c0_0) := bc BK282 0; have hcz8_1 : w7.cell? ⟨gb282, 1, none⟩ = some (.int .i64 a0_1) := bc BK282 1; have hfz8_0 := blk_frozen BK282.out 0; have hfz8_1 := blk_frozen BK282.out 1) | ((with_reducible refine gate_callee (f := 9) rfl ?_); refine goesL_ (some 21) rfl rfl Tryd.func9 (by kernel_rfl) rfl #[.agg #[.slice A0_0 l0_0.length c0_0, .int .i64 a0_1], .int .i64 1048576] rfl gl_ ?_; (with_reducible refine (laws_szQueue.calls k _ _ l0_0 a0_1 1048576 t283 _ ?side1 ?side2 A5.out).mono ?_); (case side1 => exact cN (Kd.C_below HR0_0.out HB.out)); (case side2 => exact HC0_0.out); rintro e w9 ⟨rfl, hb⟩; refine ⟨_, rfl, ?_⟩; have n0_ := m_ (blk_below (kN BK282.out) hb); have n1_ := m_ (below_step (bN HB.out) hb); clear BK282; clear HB; have BK282 := n0_; have HB := n1_; clear n0_ n1_; (try clear hb); (try clear hb2); (try clear hk); (try clear hi)))
   go_ret
   exact ⟨by first | rfl | (simp [errW_none, errW_some] <;> rfl) | (simp [*, errW_none, errW_some] <;> rfl), by repeat (first | (with_reducible first | exact HB.out | apply below_alloc | apply pw_below_drewN | apply below_drew1 | refine below_set ?_ GE282.out) | exact HB.out)⟩
  ·rw [if_neg c6] at H
   have c6b0 : decide (t283 < 0) = false := decide_eq_false c6
   clear c6
   replace H := Option.bind_eq_some_iff.mp H
   obtain ⟨⟨t284, t287⟩, A100, H⟩ := H
   replace H : ((spec_QueuePut.f k t284 t287 a1).bind fun bt288 => ((laws_toQueue.f k l0_0 a0_1).bind fun bt294 => ((impl_QueuePut.f k bt294.1 bt294.2 a1).bind fun bt299 => ((laws_eqQueue.f k bt299.1 bt299.2.1 bt288.1 bt288.2.1).bind fun t305 => (if t305 = true then (laws_FnExactQueuePut.j0 k a1 bt288.2.2 bt299.2.2 (bt299.2.2 != bt288.2.2) l0_0 a0_1 bt288.1 bt288.2.1 bt294.1 bt294.2 bt299.1 bt299.2.1) else (laws_FnExactQueuePut.j0 k a1 bt288.2.2 bt299.2.2 true l0_0 a0_1 bt288.1 bt288.2.1 bt294.1 bt294.2 bt299.1 bt299.2.1)))))) = some r := H
   have A10 := Aside0.mk A100
   clear A100
   replace H := Option.bind_eq_some_iff.mp H
   obtain ⟨⟨t288, t291, t292⟩, A110, H⟩ := H
   replace H : ((laws_toQueue.f k l0_0 a0_1).bind fun bt294 => ((impl_QueuePut.f k bt294.1 bt294.2 a1).bind fun bt299 => ((laws_eqQueue.f k bt299.1 bt299.2.1 t288 t291).bind fun t305 => (if t305 = true then (laws_FnExactQueuePut.j0 k a1 t292 bt299.2.2 (bt299.2.2 != t292) l0_0 a0_1 t288 t291 bt294.1 bt294.2 bt299.1 bt299.2.1) else (laws_FnExactQueuePut.j0 k a1 t292 bt299.2.2 true l0_0 a0_1 t288 t291 bt294.1 bt294.2 bt299.1 bt299.2.1))))) = some r := H
   have A11 := Aside0.mk A110
   clear A110
   replace H := Option.bind_eq_some_iff.mp H
   obtain ⟨⟨t294, t297⟩, A120, H⟩ := H
   replace H : ((impl_QueuePut.f k t294 t297 a1).bind fun bt299 => ((laws_eqQueue.f k bt299.1 bt299.2.1 t288 t291).bind fun t305 => (if t305 = true then (laws_FnExactQueuePut.j0 k a1 t292 bt299.2.2 (bt299.2.2 != t292) l0_0 a0_1 t288 t291 t294 t297 bt299.1 bt299.2.1) else (laws_FnExactQueuePut.j0 k a1 t292 bt299.2.2 true l0_0 a0_1 t288 t291 t294 t297 bt299.1 bt299.2.1)))) = some r := H
   have A12 := Aside0.mk A120
   clear A120
   replace H := Option.bind_eq_some_iff.mp H
   obtain ⟨⟨t299, t302, t303⟩, A130, H⟩ := H
   replace H : ((laws_eqQueue.f k t299 t302 t288 t291).bind fun t305 => (if t305 = true then (laws_FnExactQueuePut.j0 k a1 t292 t303 (t303 != t292) l0_0 a0_1 t288 t291 t294 t297 t299 t302) else (laws_FnExactQueuePut.j0 k a1 t292 t303 true l0_0 a0_1 t288 t291 t294 t297 t299 t302))) = some r := H
   have A13 := Aside0.mk A130
   clear A130
   have HC14 := Aside0.mk H
   clear H
   go_enter Tryd.func4, Tryd.ntmps4
   go_upto_region 10 with (first | ((with_reducible refine gate_dst (N := 2) rfl ?_); refine box_event ?hg (N := 2) ?hd (cs := #[.slice A0_0 l0_0.length c0_0, .int .i64 a0_1]) (t := 24) ?hr ?_; (case hd => rfl); (case hg => rfl); (case hr => first | (go_simp; done) | (go_simp; rfl)); intro gb282 hg w15 hbox hb; have n0_ := m_ (below_step (bN HB.out) hb); have n1_ := m_ (hbox); have n2_ := m_ ((by rw [hg]; exact (below_size (bN HB.out)) : w.heap.size ≤ gb282)); have n3_ := m_ ((by rw [hg]; exact (below_size (bN HB.out)) : w.heap.size ≤ gb282)); clear HB; have HB := n0_; have BK282 := n1_; have GW282 := n2_; have GE282 := n3_; clear n0_ n1_ n2_ n3_; clear hb hbox hg; have hcz16_0 : w15.cell? ⟨gb282, 0, none⟩ = some (.slice A0_0 l0_0.length c0_0) := bc BK282 0; have hcz16_1 : w15.cell? ⟨gb282, 1, none⟩ = some (.int .i64 a0_1) := bc BK282 1; have hfz16_0 := blk_frozen BK282.out 0; have hfz16_1 := blk_frozen BK282.out 1) | ((with_reducible refine gate_callee (f := 9) rfl ?_); refine goesL_ (some 21) rfl rfl Tryd.func9 (by kernel_rfl) rfl #[.agg #[.slice A0_0 l0_0.length c0_0, .int .i64 a0_1], .int .i64 1048576] rfl gl_ ?_; (with_reducible refine (laws_szQueue.calls k _ _ l0_0 a0_1 1048576 t283 _ ?side1 ?side2 A5.out).mono ?_); (case side1 => exact cN (Kd.C_below HR0_0.out HB.out)); (case side2 => exact HC0_0.out); rintro e w17 ⟨rfl, hb⟩; refine ⟨_, rfl, ?_⟩; have n0_ := m_ (blk_below (kN BK282.out) hb); have n1_ := m_ (below_step (bN HB.out) hb); clear BK282; clear HB; have BK282 := n0_; have HB := n1_; clear n0_ n1_; (try clear hb); (try clear hb2); (try clear hk); (try clear hi); have hcz18_0 : w17.cell? ⟨gb282, 0, none⟩ = some (.slice A0_0 l0_0.length c0_0) := bc BK282 0; have hcz18_1 : w17.cell? ⟨gb282, 1, none⟩ = some (.int .i64 a0_1) := bc BK282 1; have hfz18_0 := blk_frozen BK282.out 0; have hfz18_1 := blk_frozen BK282.out 1) | ((with_reducible refine gate_callee (f := 11) rfl ?_); refine goesL_ (some 26) rfl rfl Tryd.func11 (by kernel_rfl) rfl #[.agg #[.slice A0_0 l0_0.length c0_0, .int .i64 a0_1]] rfl gl_ ?_; (with_reducible refine (laws_toQueue.calls k _ _ l0_0 a0_1 t284 t287 _ ?side1 ?side2 A10.out).mono ?_); (case side1 => exact cN (Kd.C_below HR0_0.out HB.out)); (case side2 => exact HC0_0.out); rintro e w19 ⟨v285, rfl, ho0, hb⟩; refine ⟨_, rfl, ?_⟩; have n0_ := m_ (Kd.R_lower ho0 (below_size (bN HB.out))); have n1_ := m_ (blk_below (kN BK282.out) hb); have n2_ := m_ (below_step (bN HB.out) hb); clear BK282; clear HB; have HO286 := n0_; have BK282 := n1_; have HB := n2_; clear n0_ n1_ n2_; (try clear hb); (try clear hb2); (try clear hk); (try clear hi); (try clear ho0); obtain ⟨Ao20, co20, eo20⟩ := Kd.R_slice HO286.out; subst eo20) | ((with_reducible refine gate_callee (f := 14) rfl ?_); refine goesL_ (some 28) rfl rfl Tryd.func14 (by kernel_rfl) rfl #[.agg #[.slice Ao20 t284.length co20, .int .i64 t287], .string a1] rfl gl_ ?_; (with_reducible refine (spec_QueuePut.calls k _ _ t284 t287 a1 t288 t291 t292 _ ?side1 ?side2 A11.out).mono ?_); (case side1 => exact cN (Kd.R_reads' HO286.out).2.2); (case side2 => exact (Kd.R_reads' HO286.out).2.1); rintro e w21 ⟨v289, rfl, ho0, hb⟩; refine ⟨_, rfl, ?_⟩; have n0_ := m_ (Kd.R_elder' (rN HO286.out) (Kd.R_base ho0) hb); have n1_ := m_ (Kd.R_lower (Kd.R_new' ho0 (Kd.R_lt (rN HO286.out))) (below_size (bN HB.out))); have n2_ := m_ (blk_below (kN BK282.out) hb); have n3_ := m_ (below_step (bN HB.out) hb); clear HO286; clear BK282; clear HB; have HO286 := n0_; have HO290 := n1_; have BK282 := n2_; have HB := n3_; clear n0_ n1_ n2_ n3_; (try clear hb); (try clear hb2); (try clear hk); (try clear hi); (try clear ho0)) | ((with_reducible refine gate_dst (N := 6) rfl ?_); refine box_event ?hg (N := 6) ?hd (cs := #[.slice none 0 0, .int .i64 0]) (t := 27) ?hr ?_; (case hd => rfl); (case hg => rfl); (case hr => first | (go_simp; done) | (go_simp; rfl)); intro gb293 hg w22 hbox hb; have n0_ := m_ (Kd.R_below (rN HO286.out) hb); have n1_ := m_ (Kd.R_below (rN HO290.out) hb); have n2_ := m_ (blk_below (kN BK282.out) hb); have n3_ := m_ (below_step (bN HB.out) hb); have n4_ := m_ (hbox); have n5_ := m_ ((by rw [hg]; exact (below_size (bN HB.out)) : w.heap.size ≤ gb293)); have n6_ := m_ ((by rw [hg]; exact (below_size (bN HB.out)) : w.heap.size ≤ gb293)); have n7_ := m_ (nL hg BK282.out); have n8_ := m_ (nG hg BK282.out); clear HO286; clear HO290; clear BK282; clear HB; have HO286 := n0_; have HO290 := n1_; have BK282 := n2_; have HB := n3_; have BK293 := n4_; have GW293 := n5_; have GE293 := n6_; have NB282_293 := n7_; have NB293_282 := n8_; clear n0_ n1_ n2_ n3_ n4_ n5_ n6_ n7_ n8_; clear hb hbox hg; obtain ⟨Ao23, co23, eo23⟩ := Kd.R_slice HO290.out; subst eo23; have hnb24 := NB293_282.out; have hnc24 := NB282_293.out; have hcz25_0 : w22.cell? ⟨gb293, 0, none⟩ = some (.slice none 0 0) := bc BK293 0; have hcz25_1 : w22.cell? ⟨gb293, 1, none⟩ = some (.int .i64 0) := bc BK293 1; have hfz25_0 := blk_frozen BK293.out 0; have hfz25_1 := blk_frozen BK293.out 1; have hcz26_0 : w22.cell? ⟨gb282, 0, none⟩ = some (.slice A0_0 l0_0.length c0_0) := bc BK282 0; have hcz26_1 : w22.cell? ⟨gb282, 1, none⟩ = some (.int .i64 a0_1) := bc BK282 1; have hfz26_0 := blk_frozen BK282.out 0; have hfz26_1 := blk_frozen BK282.out 1) | ((with_reducible refine gate_callee (f := 11) rfl ?_); refine goesL_ (some 32) rfl rfl Tryd.func11 (by kernel_rfl) rfl #[.agg #[.slice A0_0 l0_0.length c0_0, .int .i64 a0_1]] rfl gl_ ?_; (with_reducible refine (laws_toQueue.calls k _ _ l0_0 a0_1 t294 t297 _ ?side1 ?side2 A12.out).mono ?_); (case side1 => exact Kd.C_below HR0_0.out (bN HB.out)); (case side2 => exact HC0_0.out); rintro e w27 ⟨v295, rfl, ho0, hb⟩; refine ⟨_, rfl, ?_⟩; have n0_ := m_ (Kd.R_elder' (frN (Kd.R_types HO286.out BK293.out (by decide))) (Kd.R_base ho0) hb); have n1_ := m_ (Kd.R_elder' (frN (Kd.R_types HO290.out BK293.out (by decide))) (Kd.R_base ho0) hb); have n2_ := m_ (Kd.R_lower (Kd.R_new' (Kd.R_new' ho0 (Kd.R_lt (frN (Kd.R_types HO286.out BK293.out (by decide))))) (Kd.R_lt (frN (Kd.R_types HO290.out BK293.out (by decide))))) (below_size (bN HB.out))); have n3_ := m_ (blk_below (g := gb282) (o := .cells #[.slice A0_0 l0_0.length c0_0, .int .i64 a0_1] 24 (0, 0)) (kF BK282.out NB282_293.out) hb); have n4_ := m_ (blk_below (g := gb293) (o := .cells #[.slice Ao23 t288.length co23, .int .i64 t291] 27 (0, 0)) (kP BK293.out) hb); have n5_ := m_ (below_step (bN HB.out) hb); clear HO286; clear HO290; clear BK282; clear BK293; clear HB; have HO286 := n0_; have HO290 := n1_; have HO296 := n2_; have BK282 := n3_; have BK293 := n4_; have HB := n5_; clear n0_ n1_ n2_ n3_ n4_ n5_; (try clear hb); (try clear hb2); (try clear hk); (try clear hi); (try clear ho0)) | ((with_reducible refine gate_dst (N := 8) rfl ?_); refine box_event ?hg (N := 8) ?hd (cs := #[.slice none 0 0, .int .i64 0]) (t := 27) ?hr ?_; (case hd => rfl); (case hg => rfl); (case hr => first | (go_simp; done) | (go_simp; rfl)); intro gb298 hg w28 hbox hb; have n0_ := m_ (Kd.R_below (rN HO286.out) hb); have n1_ := m_ (Kd.R_below (rN HO290.out) hb); have n2_ := m_ (Kd.R_below (rN HO296.out) hb); have n3_ := m_ (blk_below (kN BK282.out) hb); have n4_ := m_ (blk_below (kN BK293.out) hb); have n5_ := m_ (below_step (bN HB.out) hb); have n6_ := m_ (hbox); have n7_ := m_ ((by rw [hg]; exact (below_size (bN HB.out)) : w.heap.size ≤ gb298)); have n8_ := m_ ((by rw [hg]; exact (below_size (bN HB.out)) : w.heap.size ≤ gb298)); have n9_ := m_ (nL hg BK282.out); have n10_ := m_ (nG hg BK282.out); have n11_ := m_ (nL hg BK293.out); have n12_ := m_ (nG hg BK293.out); clear HO286; clear HO290; clear HO296; clear BK282; clear BK293; clear HB; have HO286 := n0_; have HO290 := n1_; have HO296 := n2_; have BK282 := n3_; have BK293 := n4_; have HB := n5_; have BK298 := n6_; have GW298 := n7_; have GE298 := n8_; have NB282_298 := n9_; have NB298_282 := n10_; have NB293_298 := n11_; have NB298_293 := n12_; clear n0_ n1_ n2_ n3_ n4_ n5_ n6_ n7_ n8_ n9_ n10_ n11_ n12_; clear hb hbox hg; obtain ⟨Ao29, co29, eo29⟩ := Kd.R_slice HO296.out; subst eo29; have hnb30 := NB298_282.out; have hnc30 := NB282_298.out; have hnb31 := NB298_293.out; have hnc31 := NB293_298.out; have hcz32_0 : w28.cell? ⟨gb298, 0, none⟩ = some (.slice none 0 0) := bc BK298 0; have hcz32_1 : w28.cell? ⟨gb298, 1, none⟩ = some (.int .i64 0) := bc BK298 1; have hfz32_0 := blk_frozen BK298.out 0; have hfz32_1 := blk_frozen BK298.out 1) | ((with_reducible refine gate_callee (f := 15) rfl ?_); refine goesL_ (some 36) rfl rfl Tryd.func15 (by kernel_rfl) rfl #[.agg #[.slice Ao29 t294.length co29, .int .i64 t297], .string a1] rfl gl_ ?_; (with_reducible refine (impl_QueuePut.calls k _ _ t294 t297 a1 t299 t302 t303 _ ?side1 ?side2 A13.out).mono ?_); (case side1 => refine (Kd.R_reads' (e := 9) (base := w.heap.size) (ok := fun k_ => ((True ∧ nb Ao20 t284.length co20 k_) ∧ nb Ao23 t288.length co23 k_)) (n := t294.length) (c := co29) ?_).2.2; exact (frN (Kd.R_types HO296.out BK298.out (by decide)))); (case side2 => exact (Kd.R_reads' HO296.out).2.1); rintro e w33 ⟨v300, rfl, ho0, hb⟩; refine ⟨_, rfl, ?_⟩; have n0_ := m_ (Kd.R_elder' (frN (Kd.R_types HO286.out BK298.out (by decide))) (Kd.R_base ho0) hb); have n1_ := m_ (Kd.R_elder' (frN (Kd.R_types HO290.out BK298.out (by decide))) (Kd.R_base ho0) hb); have n2_ := m_ (Kd.R_elder' (frN (Kd.R_types HO296.out BK298.out (by decide))) (Kd.R_base ho0) hb); have n3_ := m_ (Kd.R_lower (Kd.R_new' (Kd.R_new' (Kd.R_new' ho0 (Kd.R_lt (frN (Kd.R_types HO286.out BK298.out (by decide))))) (Kd.R_lt (frN (Kd.R_types HO290.out BK298.out (by decide))))) (Kd.R_lt (frN (Kd.R_types HO296.out BK298.out (by decide))))) (below_size (bN HB.out))); have n4_ := m_ (blk_below (g := gb282) (o := .cells #[.slice A0_0 l0_0.length c0_0, .int .i64 a0_1] 24 (0, 0)) (kF BK282.out NB282_298.out) hb); have n5_ := m_ (blk_below (g := gb293) (o := .cells #[.slice Ao23 t288.length co23, .int .i64 t291] 27 (0, 0)) (kF BK293.out NB293_298.out) hb); have n6_ := m_ (blk_below (g := gb298) (o := .cells #[.slice Ao29 t294.length co29, .int .i64 t297] 27 (0, 0)) (kP BK298.out) hb); have n7_ := m_ (below_step (bN HB.out) hb); clear HO286; clear HO290; clear HO296; clear BK282; clear BK293; clear BK298; clear HB; have HO286 := n0_; have HO290 := n1_; have HO296 := n2_; have HO301 := n3_; have BK282 := n4_; have BK293 := n5_; have BK298 := n6_; have HB := n7_; clear n0_ n1_ n2_ n3_ n4_ n5_ n6_ n7_; (try clear hb); (try clear hb2); (try clear hk); (try clear hi); (try clear ho0)) | ((with_reducible refine gate_dst (N := 9) rfl ?_); refine box_event ?hg (N := 9) ?hd (cs := #[.slice none 0 0, .int .i64 0]) (t := 27) ?hr ?_; (case hd => rfl); (case hg => rfl); (case hr => first | (go_simp; done) | (go_simp; rfl)); intro gb304 hg w34 hbox hb; have n0_ := m_ (Kd.R_below (rN HO286.out) hb); have n1_ := m_ (Kd.R_below (rN HO290.out) hb); have n2_ := m_ (Kd.R_below (rN HO296.out) hb); have n3_ := m_ (Kd.R_below (rN HO301.out) hb); have n4_ := m_ (blk_below (kN BK282.out) hb); have n5_ := m_ (blk_below (kN BK293.out) hb); have n6_ := m_ (blk_below (kN BK298.out) hb); have n7_ := m_ (below_step (bN HB.out) hb); have n8_ := m_ (hbox); have n9_ := m_ ((by rw [hg]; exact (below_size (bN HB.out)) : w.heap.size ≤ gb304)); have n10_ := m_ ((by rw [hg]; exact (below_size (bN HB.out)) : w.heap.size ≤ gb304)); have n11_ := m_ (nL hg BK282.out); have n12_ := m_ (nG hg BK282.out); have n13_ := m_ (nL hg BK293.out); have n14_ := m_ (nG hg BK293.out); have n15_ := m_ (nL hg BK298.out); have n16_ := m_ (nG hg BK298.out); clear HO286; clear HO290; clear HO296; clear HO301; clear BK282; clear BK293; clear BK298; clear HB; have HO286 := n0_; have HO290 := n1_; have HO296 := n2_; have HO301 := n3_; have BK282 := n4_; have BK293 := n5_; have BK298 := n6_; have HB := n7_; have BK304 := n8_; have GW304 := n9_; have GE304 := n10_; have NB282_304 := n11_; have NB304_282 := n12_; have NB293_304 := n13_; have NB304_293 := n14_; have NB298_304 := n15_; have NB304_298 := n16_; clear n0_ n1_ n2_ n3_ n4_ n5_ n6_ n7_ n8_ n9_ n10_ n11_ n12_ n13_ n14_ n15_ n16_; clear hb hbox hg; obtain ⟨Ao35, co35, eo35⟩ := Kd.R_slice HO301.out; subst eo35; have hnb36 := NB304_282.out; have hnc36 := NB282_304.out; have hnb37 := NB304_293.out; have hnc37 := NB293_304.out; have hnb38 := NB304_298.out; have hnc38 := NB298_304.out; have hcz39_0 : w34.cell? ⟨gb304, 0, none⟩ = some (.slice none 0 0) := bc BK304 0; have hcz39_1 : w34.cell? ⟨gb304, 1, none⟩ = some (.int .i64 0) := bc BK304 1; have hfz39_0 := blk_frozen BK304.out 0; have hfz39_1 := blk_frozen BK304.out 1))
   (try simp only [Act.put, List.setIfInBounds_toArray, List.set_cons_zero, List.set_cons_succ])
   go_cut [47] (fun v47 wc => ∃ (kq : Nat) (x47_13 : Bool), v47 = .bool x47_13 ∧ Aside0 (laws_FnExactQueuePut.j0 kq a1 t292 t303 x47_13 l0_0 a0_1 t288 t291 t294 t297 t299 t302 = some r) ∧ Aside0 (kq ≤ k) ∧ Aside0 (Kd.R Kd.string 9 wc w.heap.size (fun k_ => some k_ ≠ ((.slice Ao29 t294.length co29) : Value).ownBlock ∧ some k_ ≠ ((.slice Ao35 t299.length co35) : Value).ownBlock) (.slice Ao23 t288.length co23) t288) ∧ Aside0 (Kd.R Kd.string 9 wc w.heap.size (fun k_ => some k_ ≠ ((.slice Ao23 t288.length co23) : Value).ownBlock ∧ some k_ ≠ ((.slice Ao35 t299.length co35) : Value).ownBlock) (.slice Ao29 t294.length co29) t294) ∧ Aside0 (Kd.R Kd.string 9 wc w.heap.size (fun k_ => some k_ ≠ ((.slice Ao23 t288.length co23) : Value).ownBlock ∧ some k_ ≠ ((.slice Ao29 t294.length co29) : Value).ownBlock) (.slice Ao35 t299.length co35) t299) ∧ Aside0 (wc.heap[gb282]? = some (.cells #[(.slice A0_0 l0_0.length c0_0), .int .i64 a0_1] 24 (0, 0))) ∧ Aside0 (wc.heap[gb293]? = some (.cells #[(.slice Ao23 t288.length co23), .int .i64 t291] 27 (0, 0))) ∧ Aside0 (wc.heap[gb298]? = some (.cells #[(.slice Ao29 t294.length co29), .int .i64 t297] 27 (0, 0))) ∧ Aside0 (wc.heap[gb304]? = some (.cells #[(.slice Ao35 t299.length co35), .int .i64 t302] 27 (0, 0))) ∧ Aside0 (Below w.heap.size w wc))
   case first =>
    have H := HC14.out
    clear HC14
    replace H := Option.bind_eq_some_iff.mp H
    obtain ⟨t305, A400, H⟩ := H
    replace H : (if t305 = true then (laws_FnExactQueuePut.j0 k a1 t292 t303 (t303 != t292) l0_0 a0_1 t288 t291 t294 t297 t299 t302) else (laws_FnExactQueuePut.j0 k a1 t292 t303 true l0_0 a0_1 t288 t291 t294 t297 t299 t302)) = some r := H
    have A40 := Aside0.mk A400
    clear A400
    by_cases c41 : t305 = true
    ·subst c41
     have H1 : (laws_FnExactQueuePut.j0 k a1 t292 t303 (t303 != t292) l0_0 a0_1 t288 t291 t294 t297 t299 t302) = some r := by rw [if_pos rfl] at H; exact H
     clear H
     have H := H1
     clear H1
     have H' := Aside0.mk H
     clear H
     have hnb42 := NB304_282.out
     have hnc42 := NB282_304.out
     have hnb43 := NB304_293.out
     have hnc43 := NB293_304.out
     have hnb44 := NB304_298.out
     have hnc44 := NB298_304.out
     have hcz45_0 : w34.cell? ⟨gb304, 0, none⟩ = some (.slice none 0 0) := bc BK304 0
     have hcz45_1 : w34.cell? ⟨gb304, 1, none⟩ = some (.int .i64 0) := bc BK304 1
     have hfz45_0 := blk_frozen BK304.out 0
     have hfz45_1 := blk_frozen BK304.out 1
     have hnb46 := NB293_282.out
     have hnc46 := NB282_293.out
     have hnb47 := NB293_298.out
     have hnc47 := NB298_293.out
     have hcz48_0 : w34.cell? ⟨gb293, 0, none⟩ = some (.slice Ao23 t288.length co23) := bc BK293 0
     have hcz48_1 : w34.cell? ⟨gb293, 1, none⟩ = some (.int .i64 t291) := bc BK293 1
     have hfz48_0 := blk_frozen BK293.out 0
     have hfz48_1 := blk_frozen BK293.out 1
     go_wp2_with (first | ((with_reducible refine gate_callee (f := 13) rfl ?_); refine goesL_ (some 41) rfl rfl Tryd.func13 (by kernel_rfl) rfl #[.agg #[.slice Ao35 t299.length co35, .int .i64 t302], .agg #[.slice Ao23 t288.length co23, .int .i64 t291]] rfl gl_ ?_; (with_reducible refine (laws_eqQueue.calls k _ _ t299 t302 _ _ t288 t291 true _ ?side1 ?side2 ?side3 ?side4 A40.out).mono ?_); (case side1 => refine (Kd.R_reads' (e := 9) (base := w.heap.size) (ok := fun k_ => (((True ∧ nb Ao20 t284.length co20 k_) ∧ nb Ao23 t288.length co23 k_) ∧ nb Ao29 t294.length co29 k_)) (n := t299.length) (c := co35) ?_).2.2; exact (frN (Kd.R_types HO301.out BK304.out (by decide)))); (case side2 => exact (Kd.R_reads' HO301.out).2.1); (case side3 => refine (Kd.R_reads' (e := 9) (base := w.heap.size) (ok := fun k_ => (((True ∧ nb Ao20 t284.length co20 k_) ∧ nb Ao29 t294.length co29 k_) ∧ nb Ao35 t299.length co35 k_)) (n := t288.length) (c := co23) ?_).2.2; exact (frN (Kd.R_types HO290.out BK304.out (by decide)))); (case side4 => exact (Kd.R_reads' HO290.out).2.1); rintro e w49 ⟨rfl, hb⟩; refine ⟨_, rfl, ?_⟩; have n0_ := m_ (Kd.R_below (frN (Kd.R_types HO286.out BK304.out (by decide))) hb); have n1_ := m_ (Kd.R_below (frN (Kd.R_types HO290.out BK304.out (by decide))) hb); have n2_ := m_ (Kd.R_below (frN (Kd.R_types HO296.out BK304.out (by decide))) hb); have n3_ := m_ (Kd.R_below (frN (Kd.R_types HO301.out BK304.out (by decide))) hb); have n4_ := m_ (blk_below (g := gb282) (o := .cells #[.slice A0_0 l0_0.length c0_0, .int .i64 a0_1] 24 (0, 0)) (kF BK282.out NB282_304.out) hb); have n5_ := m_ (blk_below (g := gb293) (o := .cells #[.slice Ao23 t288.length co23, .int .i64 t291] 27 (0, 0)) (kF BK293.out NB293_304.out) hb); have n6_ := m_ (blk_below (g := gb298) (o := .cells #[.slice Ao29 t294.length co29, .int .i64 t297] 27 (0, 0)) (kF BK298.out NB298_304.out) hb); have n7_ := m_ (blk_below (g := gb304) (o := .cells #[.slice Ao35 t299.length co35, .int .i64 t302] 27 (0, 0)) (kP BK304.out) hb); have n8_ := m_ (below_step (bN HB.out) hb); clear HO286; clear HO290; clear HO296; clear HO301; clear BK282; clear BK293; clear BK298; clear BK304; clear HB; have HO286 := n0_; have HO290 := n1_; have HO296 := n2_; have HO301 := n3_; have BK282 := n4_; have BK293 := n5_; have BK298 := n6_; have BK304 := n7_; have HB := n8_; clear n0_ n1_ n2_ n3_ n4_ n5_ n6_ n7_ n8_; (try clear hb); (try clear hb2); (try clear hk); (try clear hi)))
     go_meet
     case rel => exact ⟨_, ((t303 != t292)), (by first | rfl | (simp; done) | (simp [*]; done)), H', ⟨by first | omega | exact Nat.le_refl _⟩, ⟨by (with_reducible repeat (first | apply Kd.R_alloc | apply Kd.R_drewN | apply Kd.R_drew)); exact Kd.R_mono HO290.out (fun _ hk => ⟨hk.1.2, hk.2⟩)⟩, ⟨by (with_reducible repeat (first | apply Kd.R_alloc | apply Kd.R_drewN | apply Kd.R_drew)); exact Kd.R_mono HO296.out (fun _ hk => ⟨hk.1.2, hk.2⟩)⟩, ⟨by (with_reducible repeat (first | apply Kd.R_alloc | apply Kd.R_drewN | apply Kd.R_drew)); exact Kd.R_mono HO301.out (fun _ hk => ⟨hk.1.2, hk.2⟩)⟩, ⟨kN BK282.out⟩, ⟨kN BK293.out⟩, ⟨kN BK298.out⟩, ⟨kN BK304.out⟩, ⟨by repeat (first | (with_reducible first | exact HB.out | apply below_alloc | apply pw_below_drewN | apply below_drew1 | refine below_set ?_ GE282.out | refine below_set ?_ GE293.out | refine below_set ?_ GE298.out | refine below_set ?_ GE304.out) | exact HB.out)⟩⟩
    ·replace c41 := Bool.eq_false_iff.mpr c41
     subst c41
     have H1 : (laws_FnExactQueuePut.j0 k a1 t292 t303 true l0_0 a0_1 t288 t291 t294 t297 t299 t302) = some r := by rw [if_neg (show ¬ (false = true) by decide)] at H; exact H
     clear H
     have H := H1
     clear H1
     have H' := Aside0.mk H
     clear H
     have hnb50 := NB304_282.out
     have hnc50 := NB282_304.out
     have hnb51 := NB304_293.out
     have hnc51 := NB293_304.out
     have hnb52 := NB304_298.out
     have hnc52 := NB298_304.out
     have hcz53_0 : w34.cell? ⟨gb304, 0, none⟩ = some (.slice none 0 0) := bc BK304 0
     have hcz53_1 : w34.cell? ⟨gb304, 1, none⟩ = some (.int .i64 0) := bc BK304 1
     have hfz53_0 := blk_frozen BK304.out 0
     have hfz53_1 := blk_frozen BK304.out 1
     have hnb54 := NB293_282.out
     have hnc54 := NB282_293.out
     have hnb55 := NB293_298.out
     have hnc55 := NB298_293.out
     have hcz56_0 : w34.cell? ⟨gb293, 0, none⟩ = some (.slice Ao23 t288.length co23) := bc BK293 0
     have hcz56_1 : w34.cell? ⟨gb293, 1, none⟩ = some (.int .i64 t291) := bc BK293 1
     have hfz56_0 := blk_frozen BK293.out 0
     have hfz56_1 := blk_frozen BK293.out 1
     go_wp2_with (first | ((with_reducible refine gate_callee (f := 13) rfl ?_); refine goesL_ (some 41) rfl rfl Tryd.func13 (by kernel_rfl) rfl #[.agg #[.slice Ao35 t299.length co35, .int .i64 t302], .agg #[.slice Ao23 t288.length co23, .int .i64 t291]] rfl gl_ ?_; (with_reducible refine (laws_eqQueue.calls k _ _ t299 t302 _ _ t288 t291 false _ ?side1 ?side2 ?side3 ?side4 A40.out).mono ?_); (case side1 => refine (Kd.R_reads' (e := 9) (base := w.heap.size) (ok := fun k_ => (((True ∧ nb Ao20 t284.length co20 k_) ∧ nb Ao23 t288.length co23 k_) ∧ nb Ao29 t294.length co29 k_)) (n := t299.length) (c := co35) ?_).2.2; exact (frN (Kd.R_types HO301.out BK304.out (by decide)))); (case side2 => exact (Kd.R_reads' HO301.out).2.1); (case side3 => refine (Kd.R_reads' (e := 9) (base := w.heap.size) (ok := fun k_ => (((True ∧ nb Ao20 t284.length co20 k_) ∧ nb Ao29 t294.length co29 k_) ∧ nb Ao35 t299.length co35 k_)) (n := t288.length) (c := co23) ?_).2.2; exact (frN (Kd.R_types HO290.out BK304.out (by decide)))); (case side4 => exact (Kd.R_reads' HO290.out).2.1); rintro e w57 ⟨rfl, hb⟩; refine ⟨_, rfl, ?_⟩; have n0_ := m_ (Kd.R_below (frN (Kd.R_types HO286.out BK304.out (by decide))) hb); have n1_ := m_ (Kd.R_below (frN (Kd.R_types HO290.out BK304.out (by decide))) hb); have n2_ := m_ (Kd.R_below (frN (Kd.R_types HO296.out BK304.out (by decide))) hb); have n3_ := m_ (Kd.R_below (frN (Kd.R_types HO301.out BK304.out (by decide))) hb); have n4_ := m_ (blk_below (g := gb282) (o := .cells #[.slice A0_0 l0_0.length c0_0, .int .i64 a0_1] 24 (0, 0)) (kF BK282.out NB282_304.out) hb); have n5_ := m_ (blk_below (g := gb293) (o := .cells #[.slice Ao23 t288.length co23, .int .i64 t291] 27 (0, 0)) (kF BK293.out NB293_304.out) hb); have n6_ := m_ (blk_below (g := gb298) (o := .cells #[.slice Ao29 t294.length co29, .int .i64 t297] 27 (0, 0)) (kF BK298.out NB298_304.out) hb); have n7_ := m_ (blk_below (g := gb304) (o := .cells #[.slice Ao35 t299.length co35, .int .i64 t302] 27 (0, 0)) (kP BK304.out) hb); have n8_ := m_ (below_step (bN HB.out) hb); clear HO286; clear HO290; clear HO296; clear HO301; clear BK282; clear BK293; clear BK298; clear BK304; clear HB; have HO286 := n0_; have HO290 := n1_; have HO296 := n2_; have HO301 := n3_; have BK282 := n4_; have BK293 := n5_; have BK298 := n6_; have BK304 := n7_; have HB := n8_; clear n0_ n1_ n2_ n3_ n4_ n5_ n6_ n7_ n8_; (try clear hb); (try clear hb2); (try clear hk); (try clear hi)))
     go_meet
     case rel => exact ⟨_, (true), (by first | rfl | (simp; done) | (simp [*]; done)), H', ⟨by first | omega | exact Nat.le_refl _⟩, ⟨by (with_reducible repeat (first | apply Kd.R_alloc | apply Kd.R_drewN | apply Kd.R_drew)); exact Kd.R_mono HO290.out (fun _ hk => ⟨hk.1.2, hk.2⟩)⟩, ⟨by (with_reducible repeat (first | apply Kd.R_alloc | apply Kd.R_drewN | apply Kd.R_drew)); exact Kd.R_mono HO296.out (fun _ hk => ⟨hk.1.2, hk.2⟩)⟩, ⟨by (with_reducible repeat (first | apply Kd.R_alloc | apply Kd.R_drewN | apply Kd.R_drew)); exact Kd.R_mono HO301.out (fun _ hk => ⟨hk.1.2, hk.2⟩)⟩, ⟨kN BK282.out⟩, ⟨kN BK293.out⟩, ⟨kN BK298.out⟩, ⟨kN BK304.out⟩, ⟨by repeat (first | (with_reducible first | exact HB.out | apply below_alloc | apply pw_below_drewN | apply below_drew1 | refine below_set ?_ GE282.out | refine below_set ?_ GE293.out | refine below_set ?_ GE298.out | refine below_set ?_ GE304.out) | exact HB.out)⟩⟩
   case rest =>
    clear HC14
    try clear c1
    try clear c2
    try clear p2
    try clear c3
    try clear c3b0
    try clear c3b1
    try clear c4
    try clear c5
    try clear c6
    try clear c6b0
    try clear c9
    try clear c11
    try clear c13
    try clear c14
    try clear c15
    try clear c24
    try clear c30
    try clear c31
    try clear c36
    try clear c37
    try clear c38
    try clear c41
    try clear c42
    try clear c43
    try clear c44
    try clear c46
    try clear c47
    try clear c50
    try clear c51
    try clear c52
    try clear c54
    try clear c55
    try clear hcz16_0
    try clear hcz16_1
    try clear hcz18_0
    try clear hcz18_1
    try clear hcz25_0
    try clear hcz25_1
    try clear hcz26_0
    try clear hcz26_1
    try clear hcz32_0
    try clear hcz32_1
    try clear hcz39_0
    try clear hcz39_1
    try clear hcz45_0
    try clear hcz45_1
    try clear hcz48_0
    try clear hcz48_1
    try clear hcz53_0
    try clear hcz53_1
    try clear hcz56_0
    try clear hcz56_1
    try clear hcz8_0
    try clear hcz8_1
    try clear hfz16_0
    try clear hfz16_1
    try clear hfz18_0
    try clear hfz18_1
    try clear hfz25_0
    try clear hfz25_1
    try clear hfz26_0
    try clear hfz26_1
    try clear hfz32_0
    try clear hfz32_1
    try clear hfz39_0
    try clear hfz39_1
    try clear hfz45_0
    try clear hfz45_1
    try clear hfz48_0
    try clear hfz48_1
    try clear hfz53_0
    try clear hfz53_1
    try clear hfz56_0
    try clear hfz56_1
    try clear hfz8_0
    try clear hfz8_1
    obtain ⟨kq, x47_13, rfl, HA, HJ13, HO_294000, HO_299000, HO_305000, BK282, BK293, BK298, BK304, HB⟩ := hcut
    cases kq with
    | zero => exact absurd HA.out (by simp [laws_FnExactQueuePut.j0])
    | succ kj13 =>
     have H := HA.out
     clear HA
     simp only [laws_FnExactQueuePut.j0] at H
     by_cases c58 : x47_13 = true
     ·subst c58
      have H1 : (some false) = some r := by rw [if_pos rfl] at H; exact H
      clear H
      have H := H1
      clear H1
      obtain rfl := Option.some.inj H
      go_wp2
      go_ret
      exact ⟨by first | rfl | (simp [errW_none, errW_some] <;> rfl) | (simp [*, errW_none, errW_some] <;> rfl), by repeat (first | (with_reducible first | exact HB.out | apply below_alloc | apply pw_below_drewN | apply below_drew1 | refine below_set ?_ GE282.out | refine below_set ?_ GE293.out | refine below_set ?_ GE298.out | refine below_set ?_ GE304.out) | exact HB.out)⟩
     ·replace c58 := Bool.eq_false_iff.mpr c58
      subst c58
      have H1 : ((laws_toQueue.f kj13 l0_0 a0_1).bind fun bt306 => ((laws_eqQueue.f kj13 t294 t297 bt306.1 bt306.2).bind fun t310 => (if t310 = true then ((laws_markQueue.f kj13 t294 t297 1).bind fun bt311 => (if bt311.1 < 0 then (laws_FnExactQueuePut.j1 kj13 a1 t292 true l0_0 a0_1 t288 t291 t299 t302) else ((laws_eqQueue.f kj13 t299 t302 t288 t291).bind fun t313 => (if t313 = true then (laws_FnExactQueuePut.j1 kj13 a1 t292 (t303 != t292) l0_0 a0_1 t288 t291 t299 t302) else (laws_FnExactQueuePut.j1 kj13 a1 t292 true l0_0 a0_1 t288 t291 t299 t302))))) else (some false)))) = some r := by rw [if_neg (show ¬ (false = true) by decide)] at H; exact H
      clear H
      have H := H1
      clear H1
      replace H := Option.bind_eq_some_iff.mp H
      obtain ⟨⟨t306, t309⟩, A590, H⟩ := H
      replace H : ((laws_eqQueue.f kj13 t294 t297 t306 t309).bind fun t310 => (if t310 = true then ((laws_markQueue.f kj13 t294 t297 1).bind fun bt311 => (if bt311.1 < 0 then (laws_FnExactQueuePut.j1 kj13 a1 t292 true l0_0 a0_1 t288 t291 t299 t302) else ((laws_eqQueue.f kj13 t299 t302 t288 t291).bind fun t313 => (if t313 = true then (laws_FnExactQueuePut.j1 kj13 a1 t292 (t303 != t292) l0_0 a0_1 t288 t291 t299 t302) else (laws_FnExactQueuePut.j1 kj13 a1 t292 true l0_0 a0_1 t288 t291 t299 t302))))) else (some false))) = some r := H
      have A59 := Aside0.mk A590
      clear A590
      replace H := Option.bind_eq_some_iff.mp H
      obtain ⟨t310, A600, H⟩ := H
      replace H : (if t310 = true then ((laws_markQueue.f kj13 t294 t297 1).bind fun bt311 => (if bt311.1 < 0 then (laws_FnExactQueuePut.j1 kj13 a1 t292 true l0_0 a0_1 t288 t291 t299 t302) else ((laws_eqQueue.f kj13 t299 t302 t288 t291).bind fun t313 => (if t313 = true then (laws_FnExactQueuePut.j1 kj13 a1 t292 (t303 != t292) l0_0 a0_1 t288 t291 t299 t302) else (laws_FnExactQueuePut.j1 kj13 a1 t292 true l0_0 a0_1 t288 t291 t299 t302))))) else (some false)) = some r := H
      have A60 := Aside0.mk A600
      clear A600
      by_cases c61 : t310 = true
      ·subst c61
       have H1 : ((laws_markQueue.f kj13 t294 t297 1).bind fun bt311 => (if bt311.1 < 0 then (laws_FnExactQueuePut.j1 kj13 a1 t292 true l0_0 a0_1 t288 t291 t299 t302) else ((laws_eqQueue.f kj13 t299 t302 t288 t291).bind fun t313 => (if t313 = true then (laws_FnExactQueuePut.j1 kj13 a1 t292 (t303 != t292) l0_0 a0_1 t288 t291 t299 t302) else (laws_FnExactQueuePut.j1 kj13 a1 t292 true l0_0 a0_1 t288 t291 t299 t302))))) = some r := by rw [if_pos rfl] at H; exact H
       clear H
       have H := H1
       clear H1
       replace H := Option.bind_eq_some_iff.mp H
       obtain ⟨⟨t311, t312⟩, A620, H⟩ := H
       replace H : (if t311 < 0 then (laws_FnExactQueuePut.j1 kj13 a1 t292 true l0_0 a0_1 t288 t291 t299 t302) else ((laws_eqQueue.f kj13 t299 t302 t288 t291).bind fun t313 => (if t313 = true then (laws_FnExactQueuePut.j1 kj13 a1 t292 (t303 != t292) l0_0 a0_1 t288 t291 t299 t302) else (laws_FnExactQueuePut.j1 kj13 a1 t292 true l0_0 a0_1 t288 t291 t299 t302)))) = some r := H
       have A62 := Aside0.mk A620
       clear A620
       have HC63 := Aside0.mk H
       clear H
       try go_wp2
       have n0_ := m_ (Kd.R_drew HO_294000.out)
       have n1_ := m_ (Kd.R_drew HO_299000.out)
       have n2_ := m_ (Kd.R_drew HO_305000.out)
       have n3_ := m_ (blk_drew BK282.out)
       have n4_ := m_ (blk_drew BK293.out)
       have n5_ := m_ (blk_drew BK298.out)
       have n6_ := m_ (blk_drew BK304.out)
       have n7_ := m_ (below_drew1 HB.out)
       clear HO_294000
       clear HO_299000
       clear HO_305000
       clear BK282
       clear BK293
       clear BK298
       clear BK304
       clear HB
       have HO_294000 := n0_
       have HO_299000 := n1_
       have HO_305000 := n2_
       have BK282 := n3_
       have BK293 := n4_
       have BK298 := n5_
       have BK304 := n6_
       have HB := n7_
       clear n0_ n1_ n2_ n3_ n4_ n5_ n6_ n7_
       refine start_ (n := 5) (S := fun w' => w'.cell? ⟨gb298, 0, none⟩ = some (.slice Ao29 t294.length co29) ∧ w'.cell? ⟨gb298, 1, none⟩ = some (.int .i64 t297) ∧ w'.cell? ⟨gb282, 0, none⟩ = some (.slice A0_0 l0_0.length c0_0) ∧ w'.cell? ⟨gb282, 1, none⟩ = some (.int .i64 a0_1)) (ds := []) #[false, false, false, false, false] (by kernel_rfl) rfl rfl ⟨bc BK298 0, bc BK298 1, bc BK282 0, bc BK282 1⟩ (fun hHeld => ?_)
       generalize wc.drew = w64 at HO_294000 HO_299000 HO_305000 BK282 BK293 BK298 BK304 HB hHeld ⊢
       refine take_ (i := 0) (N := some 48) (v := ?_) (a' := ?_) #[true, false, false, false, false] rfl rfl (by kernel_rfl) (fun _ _ _ h => h) (Or.inl ⟨by rfl, ?_⟩) hHeld ?_ ?_
       rotate_left
       ·rintro w' ⟨s0, s1, s2, s3⟩
        go_simp
        with_reducible rfl
       rotate_left
       ·simp only [Act.put, List.setIfInBounds_toArray, List.set_cons_zero, List.set_cons_succ, i64_w, i32_w]
        rfl
       refine take_ (i := 1) (N := some 49) (v := ?_) (a' := ?_) #[true, true, false, false, false] rfl rfl (by kernel_rfl) (fun _ _ _ h => h) (Or.inl ⟨by rfl, ?_⟩) hHeld ?_ ?_
       rotate_left
       ·rintro w' ⟨s0, s1, s2, s3⟩
        go_simp
        with_reducible rfl
       rotate_left
       ·simp only [Act.put, List.setIfInBounds_toArray, List.set_cons_zero, List.set_cons_succ, i64_w, i32_w]
        rfl
       refine one_ (i := 2) (N := some 50) #[true, true, true, false, false] rfl rfl (by kernel_rfl) (by decide) (fun K hK => ?_)
       refine goes_ Tryd.func11 (by kernel_rfl) rfl #[.agg #[.slice A0_0 l0_0.length c0_0, .int .i64 a0_1]] (by rfl) rfl rfl gl_ ?_
       with_reducible refine (laws_toQueue.calls kj13 _ _ l0_0 a0_1 t306 t309 _ ?side1 ?side2 A59.out).mono ?_
       (case side1 => exact cN (Kd.C_below HR0_0.out HB.out))
       (case side2 => exact HC0_0.out)
       rintro e w65 ⟨v307, rfl, ho0, hb⟩
       refine ⟨_, rfl, ?_⟩
       have n0_ := m_ (Kd.R_elder' (rN HO_294000.out) (Kd.R_base ho0) hb)
       have n1_ := m_ (Kd.R_elder' (rN HO_299000.out) (Kd.R_base ho0) hb)
       have n2_ := m_ (Kd.R_elder' (rN HO_305000.out) (Kd.R_base ho0) hb)
       have n3_ := m_ (Kd.R_lower (Kd.R_new' (Kd.R_new' (Kd.R_new' ho0 (Kd.R_lt (rN HO_294000.out))) (Kd.R_lt (rN HO_299000.out))) (Kd.R_lt (rN HO_305000.out))) (below_size (bN HB.out)))
       have n4_ := m_ (blk_below (kN BK282.out) hb)
       have n5_ := m_ (blk_below (kN BK293.out) hb)
       have n6_ := m_ (blk_below (kN BK298.out) hb)
       have n7_ := m_ (blk_below (kN BK304.out) hb)
       have n8_ := m_ (below_step (bN HB.out) hb)
       clear HO_294000
       clear HO_299000
       clear HO_305000
       clear BK282
       clear BK293
       clear BK298
       clear BK304
       clear HB
       have HO_294000 := n0_
       have HO_299000 := n1_
       have HO_305000 := n2_
       have HO308 := n3_
       have BK282 := n4_
       have BK293 := n5_
       have BK298 := n6_
       have BK304 := n7_
       have HB := n8_
       clear n0_ n1_ n2_ n3_ n4_ n5_ n6_ n7_ n8_
       (try clear hb)
       (try clear hb2)
       (try clear hk)
       (try clear hi)
       (try clear ho0)
       obtain ⟨Ao66, co66, eo66⟩ := Kd.R_slice HO308.out
       (first | subst eo66 | (injection eo66 with f1_ f2_ f3_; have f4_ := f1_.symm; have f5_ := f3_.symm; clear f1_ f2_ f3_; subst f4_; subst f5_))
       refine hK.out _ _ ⟨bc BK298 0, bc BK298 1, bc BK282 0, bc BK282 1⟩ (fun hHeld => ?_)
       clear hK K
       refine np (h := ?_)
       refine one_ (i := 3) (N := some 51) #[true, true, true, true, false] rfl rfl (by kernel_rfl) (by decide) (fun K hK => ?_)
       refine goes_ Tryd.func13 (by kernel_rfl) rfl #[.agg #[.slice Ao29 t294.length co29, .int .i64 t297], .agg #[.slice Ao66 t306.length co66, .int .i64 t309]] (by rfl) rfl rfl gl_ ?_
       with_reducible refine (laws_eqQueue.calls kj13 _ _ t294 t297 _ _ t306 t309 true _ ?side1 ?side2 ?side3 ?side4 A60.out).mono ?_
       (case side1 => exact cN (Kd.R_reads' HO_299000.out).2.2)
       (case side2 => exact (Kd.R_reads' HO_299000.out).2.1)
       (case side3 => exact cN (Kd.R_reads' HO308.out).2.2)
       (case side4 => exact (Kd.R_reads' HO308.out).2.1)
       rintro e w67 ⟨rfl, hb⟩
       refine ⟨_, rfl, ?_⟩
       have n0_ := m_ (Kd.R_below (rN HO_294000.out) hb)
       have n1_ := m_ (Kd.R_below (rN HO_299000.out) hb)
       have n2_ := m_ (Kd.R_below (rN HO_305000.out) hb)
       have n3_ := m_ (Kd.R_below (rN HO308.out) hb)
       have n4_ := m_ (blk_below (kN BK282.out) hb)
       have n5_ := m_ (blk_below (kN BK293.out) hb)
       have n6_ := m_ (blk_below (kN BK298.out) hb)
       have n7_ := m_ (blk_below (kN BK304.out) hb)
       have n8_ := m_ (below_step (bN HB.out) hb)
       clear HO_294000
       clear HO_299000
       clear HO_305000
       clear HO308
       clear BK282
       clear BK293
       clear BK298
       clear BK304
       clear HB
       have HO_294000 := n0_
       have HO_299000 := n1_
       have HO_305000 := n2_
       have HO308 := n3_
       have BK282 := n4_
       have BK293 := n5_
       have BK298 := n6_
       have BK304 := n7_
       have HB := n8_
       clear n0_ n1_ n2_ n3_ n4_ n5_ n6_ n7_ n8_
       (try clear hb)
       (try clear hb2)
       (try clear hk)
       (try clear hi)
       refine hK.out _ _ ⟨bc BK298 0, bc BK298 1, bc BK282 0, bc BK282 1⟩ (fun hHeld => ?_)
       clear hK K
       refine np (h := ?_)
       refine pure_ (i := 4) (N := some 52) (v := ?_) (a' := ?_) #[true, true, true, true, true] rfl rfl (by kernel_rfl) (fun _ _ _ h => h) (Or.inl ⟨by rfl, ?_⟩) ?_ ?_
       rotate_left
       ·intro w'
        go_simp
        with_reducible rfl
       rotate_left
       ·simp only [Act.put, List.setIfInBounds_toArray, List.set_cons_zero, List.set_cons_succ, i64_w, i32_w]
        rfl
       refine done_ (by kernel_rfl) ?_
       have hnb68 := NB298_282.out
       have hnc68 := NB282_298.out
       have hnb69 := NB298_293.out
       have hnc69 := NB293_298.out
       have hnb70 := NB298_304.out
       have hnc70 := NB304_298.out
       have hcz71_0 : w67.cell? ⟨gb298, 0, none⟩ = some (.slice Ao29 t294.length co29) := bc BK298 0
       have hcz71_1 : w67.cell? ⟨gb298, 1, none⟩ = some (.int .i64 t297) := bc BK298 1
       have hfz71_0 := blk_frozen BK298.out 0
       have hfz71_1 := blk_frozen BK298.out 1
       go_upto_region 16 with (first | ((with_reducible refine gate_callee (f := 16) rfl ?_); refine goesL_ (some 55) rfl rfl Tryd.func16 (by kernel_rfl) rfl #[.agg #[.slice Ao29 t294.length co29, .int .i64 t297], .int .i64 1] rfl gl_ ?_; (with_reducible refine (laws_markQueue.calls kj13 (fun k_ => some k_ = (.slice Ao29 t294.length co29 : Value).ownBlock) (.slice Ao29 t294.length co29) t294 t297 1 t311 t312 w _ ?side1 ?side2 A62.out).mono ?_); (case side1 => repeat (first | (with_reducible first | exact HB.out | apply below_alloc | apply pw_below_drewN | apply below_drew1 | refine below_set ?_ GE282.out | refine below_set ?_ GE293.out | refine below_set ?_ GE298.out | refine below_set ?_ GE304.out) | exact HB.out)); (case side2 => exact Kd.R_tight rfl HO_299000.out); rintro e w72 ⟨rfl, hy0, hb, hkp⟩; refine ⟨_, rfl, ?_⟩; have n0_ := m_ (Kd.R_mono (ok' := fun k_ => nb Ao29 t294.length co29 k_ ∧ nb Ao35 t299.length co35 k_ ∧ nb Ao66 t306.length co66 k_) (Kd.R_keptB (HO_294000.out) hkp (fun k_ hk_ hs_ => (hk_.1.1) hs_)) (fun k_ hk_ => ⟨hk_.1.1.1, hk_.1.1.2, hk_.1.2⟩)); have n1_ := m_ (Kd.R_reok rfl hy0 (fun k_ e_ => HO_299000.out.1 k_ e_)); have n2_ := m_ (Kd.R_mono (ok' := fun k_ => nb Ao23 t288.length co23 k_ ∧ nb Ao29 t294.length co29 k_ ∧ nb Ao66 t306.length co66 k_) (Kd.R_keptB (HO_305000.out) hkp (fun k_ hk_ hs_ => (hk_.1.2) hs_)) (fun k_ hk_ => ⟨hk_.1.1.1, hk_.1.1.2, hk_.1.2⟩)); have n3_ := m_ (blk_kept (kN BK282.out) hkp (fun hs_ => (fun e_ => (Kd.R_ne HO_299000.out BK282.out (by decide)) e_) hs_)); have n4_ := m_ (blk_kept (kN BK293.out) hkp (fun hs_ => (fun e_ => (Kd.R_ne HO_299000.out BK293.out (by decide)) e_) hs_)); have n5_ := m_ (blk_kept (kN BK298.out) hkp (fun hs_ => (fun e_ => (Kd.R_ne HO_299000.out BK298.out (by decide)) e_) hs_)); have n6_ := m_ (blk_kept (kN BK304.out) hkp (fun hs_ => (fun e_ => (Kd.R_ne HO_299000.out BK304.out (by decide)) e_) hs_)); have n7_ := m_ (Kd.R_mono (ok' := fun k_ => nb Ao23 t288.length co23 k_ ∧ nb Ao29 t294.length co29 k_ ∧ nb Ao35 t299.length co35 k_) (Kd.R_keptB (HO308.out) hkp (fun k_ hk_ hs_ => (hk_.1.2) hs_)) (fun k_ hk_ => ⟨hk_.1.1.1.2, hk_.1.1.2, hk_.1.2⟩)); have n8_ := m_ (hb); clear HO_294000; clear HO_299000; clear HO_305000; clear BK282; clear BK293; clear BK298; clear BK304; clear HO308; clear HB; have HO_294000 := n0_; have HO_299000 := n1_; have HO_305000 := n2_; have BK282 := n3_; have BK293 := n4_; have BK298 := n5_; have BK304 := n6_; have HO308 := n7_; have HB := n8_; clear n0_ n1_ n2_ n3_ n4_ n5_ n6_ n7_ n8_; (try clear hb); (try clear hkp); (try clear hy0)))
       (try simp only [Act.put, List.setIfInBounds_toArray, List.set_cons_zero, List.set_cons_succ])
       go_cut [68] (fun v68 wc => ∃ (kq : Nat) (x68_62 : Bool), v68 = .bool x68_62 ∧ Aside0 (laws_FnExactQueuePut.j1 kq a1 t292 x68_62 l0_0 a0_1 t288 t291 t299 t302 = some r) ∧ Aside0 (kq ≤ kj13) ∧ Aside0 (Kd.R Kd.string 9 wc w.heap.size (fun k_ => some k_ ≠ ((.slice Ao29 t294.length co29) : Value).ownBlock ∧ some k_ ≠ ((.slice Ao35 t299.length co35) : Value).ownBlock) (.slice Ao23 t288.length co23) t288) ∧ Aside0 (Kd.R Kd.string 9 wc w.heap.size (fun k_ => some k_ ≠ ((.slice Ao23 t288.length co23) : Value).ownBlock ∧ some k_ ≠ ((.slice Ao35 t299.length co35) : Value).ownBlock) (.slice Ao29 t294.length co29) t312) ∧ Aside0 (Kd.R Kd.string 9 wc w.heap.size (fun k_ => some k_ ≠ ((.slice Ao23 t288.length co23) : Value).ownBlock ∧ some k_ ≠ ((.slice Ao29 t294.length co29) : Value).ownBlock) (.slice Ao35 t299.length co35) t299) ∧ Aside0 (wc.heap[gb282]? = some (.cells #[(.slice A0_0 l0_0.length c0_0), .int .i64 a0_1] 24 (0, 0))) ∧ Aside0 (wc.heap[gb293]? = some (.cells #[(.slice Ao23 t288.length co23), .int .i64 t291] 27 (0, 0))) ∧ Aside0 (wc.heap[gb298]? = some (.cells #[(.slice Ao29 t294.length co29), .int .i64 t297] 27 (0, 0))) ∧ Aside0 (wc.heap[gb304]? = some (.cells #[(.slice Ao35 t299.length co35), .int .i64 t302] 27 (0, 0))) ∧ Aside0 (Below w.heap.size w wc))
       case first =>
        have H := HC63.out
        clear HC63
        by_cases c73 : t311 < 0
        ·rw [if_pos c73] at H
         have c73b0 : decide (t311 < 0) = true := decide_eq_true c73
         clear c73
         (first | rw [c73b0] | (simp only [i64_w, i32_w]; rw [c73b0]) | skip)
         have H' := Aside0.mk H
         clear H
         go_wp2
         go_meet
         case rel => exact ⟨_, (true), (by first | rfl | (simp; done) | (simp [*]; done)), H', ⟨by have := HJ13.out; first | omega | exact Nat.le_refl _⟩, ⟨by (with_reducible repeat (first | apply Kd.R_alloc | apply Kd.R_drewN | apply Kd.R_drew)); exact Kd.R_mono HO_294000.out (fun _ hk => ⟨hk.1, hk.2.1⟩)⟩, ⟨by (with_reducible repeat (first | apply Kd.R_alloc | apply Kd.R_drewN | apply Kd.R_drew)); exact Kd.R_mono HO_299000.out (fun _ hk => ⟨hk.1.1, hk.1.2⟩)⟩, ⟨by (with_reducible repeat (first | apply Kd.R_alloc | apply Kd.R_drewN | apply Kd.R_drew)); exact Kd.R_mono HO_305000.out (fun _ hk => ⟨hk.1, hk.2.1⟩)⟩, ⟨kN BK282.out⟩, ⟨kN BK293.out⟩, ⟨kN BK298.out⟩, ⟨kN BK304.out⟩, ⟨by repeat (first | (with_reducible first | exact HB.out | apply below_alloc | apply pw_below_drewN | apply below_drew1 | refine below_set ?_ GE282.out | refine below_set ?_ GE293.out | refine below_set ?_ GE298.out | refine below_set ?_ GE304.out) | exact HB.out)⟩⟩
        ·rw [if_neg c73] at H
         have c73b0 : decide (t311 < 0) = false := decide_eq_false c73
         clear c73
         (first | rw [c73b0] | (simp only [i64_w, i32_w]; rw [c73b0]) | skip)
         replace H := Option.bind_eq_some_iff.mp H
         obtain ⟨t313, A740, H⟩ := H
         replace H : (if t313 = true then (laws_FnExactQueuePut.j1 kj13 a1 t292 (t303 != t292) l0_0 a0_1 t288 t291 t299 t302) else (laws_FnExactQueuePut.j1 kj13 a1 t292 true l0_0 a0_1 t288 t291 t299 t302)) = some r := H
         have A74 := Aside0.mk A740
         clear A740
         by_cases c75 : t313 = true
         ·subst c75
          have H1 : (laws_FnExactQueuePut.j1 kj13 a1 t292 (t303 != t292) l0_0 a0_1 t288 t291 t299 t302) = some r := by rw [if_pos rfl] at H; exact H
          clear H
          have H := H1
          clear H1
          have H' := Aside0.mk H
          clear H
          have hnb76 := NB304_282.out
          have hnc76 := NB282_304.out
          have hnb77 := NB304_293.out
          have hnc77 := NB293_304.out
          have hnb78 := NB304_298.out
          have hnc78 := NB298_304.out
          have hcz79_0 : w72.cell? ⟨gb304, 0, none⟩ = some (.slice Ao35 t299.length co35) := bc BK304 0
          have hcz79_1 : w72.cell? ⟨gb304, 1, none⟩ = some (.int .i64 t302) := bc BK304 1
          have hfz79_0 := blk_frozen BK304.out 0
          have hfz79_1 := blk_frozen BK304.out 1
          have hnb80 := NB293_282.out
          have hnc80 := NB282_293.out
          have hnb81 := NB293_298.out
          have hnc81 := NB298_293.out
          have hcz82_0 : w72.cell? ⟨gb293, 0, none⟩ = some (.slice Ao23 t288.length co23) := bc BK293 0
          have hcz82_1 : w72.cell? ⟨gb293, 1, none⟩ = some (.int .i64 t291) := bc BK293 1
          have hfz82_0 := blk_frozen BK293.out 0
          have hfz82_1 := blk_frozen BK293.out 1
          go_wp2_with (first | (go_at_call 13; (with_reducible refine (laws_eqQueue.calls kj13 _ _ t299 t302 _ _ t288 t291 true _ ?side1 ?side2 ?side3 ?side4 A74.out).mono ?_); (case side1 => exact cN (Kd.R_reads' HO_305000.out).2.2); (case side2 => exact (Kd.R_reads' HO_305000.out).2.1); (case side3 => exact cN (Kd.R_reads' HO_294000.out).2.2); (case side4 => exact (Kd.R_reads' HO_294000.out).2.1); rintro e w83 ⟨rfl, hb⟩; have n0_ := m_ (Kd.R_below (rN HO_294000.out) hb); have n1_ := m_ (Kd.R_below (rN HO_299000.out) hb); have n2_ := m_ (Kd.R_below (rN HO_305000.out) hb); have n3_ := m_ (Kd.R_below (rN HO308.out) hb); have n4_ := m_ (blk_below (kN BK282.out) hb); have n5_ := m_ (blk_below (kN BK293.out) hb); have n6_ := m_ (blk_below (kN BK298.out) hb); have n7_ := m_ (blk_below (kN BK304.out) hb); have n8_ := m_ (below_step (bN HB.out) hb); clear HO_294000; clear HO_299000; clear HO_305000; clear HO308; clear BK282; clear BK293; clear BK298; clear BK304; clear HB; have HO_294000 := n0_; have HO_299000 := n1_; have HO_305000 := n2_; have HO308 := n3_; have BK282 := n4_; have BK293 := n5_; have BK298 := n6_; have BK304 := n7_; have HB := n8_; clear n0_ n1_ n2_ n3_ n4_ n5_ n6_ n7_ n8_; (try clear hb); (try clear hb2); (try clear hk); (try clear hi)))
          go_meet
          case rel => exact ⟨_, ((t303 != t292)), (by first | rfl | (simp; done) | (simp [*]; done)), H', ⟨by have := HJ13.out; first | omega | exact Nat.le_refl _⟩, ⟨by (with_reducible repeat (first | apply Kd.R_alloc | apply Kd.R_drewN | apply Kd.R_drew)); exact Kd.R_mono HO_294000.out (fun _ hk => ⟨hk.1, hk.2.1⟩)⟩, ⟨by (with_reducible repeat (first | apply Kd.R_alloc | apply Kd.R_drewN | apply Kd.R_drew)); exact Kd.R_mono HO_299000.out (fun _ hk => ⟨hk.1.1, hk.1.2⟩)⟩, ⟨by (with_reducible repeat (first | apply Kd.R_alloc | apply Kd.R_drewN | apply Kd.R_drew)); exact Kd.R_mono HO_305000.out (fun _ hk => ⟨hk.1, hk.2.1⟩)⟩, ⟨kN BK282.out⟩, ⟨kN BK293.out⟩, ⟨kN BK298.out⟩, ⟨kN BK304.out⟩, ⟨by repeat (first | (with_reducible first | exact HB.out | apply below_alloc | apply pw_below_drewN | apply below_drew1 | refine below_set ?_ GE282.out | refine below_set ?_ GE293.out | refine below_set ?_ GE298.out | refine below_set ?_ GE304.out) | exact HB.out)⟩⟩
         ·replace c75 := Bool.eq_false_iff.mpr c75
          subst c75
          have H1 : (laws_FnExactQueuePut.j1 kj13 a1 t292 true l0_0 a0_1 t288 t291 t299 t302) = some r := by rw [if_neg (show ¬ (false = true) by decide)] at H; exact H
          clear H
          have H := H1
          clear H1
          have H' := Aside0.mk H
          clear H
          have hnb84 := NB304_282.out
          have hnc84 := NB282_304.out
          have hnb85 := NB304_293.out
          have hnc85 := NB293_304.out
          have hnb86 := NB304_298.out
          have hnc86 := NB298_304.out
          have hcz87_0 : w72.cell? ⟨gb304, 0, none⟩ = some (.slice Ao35 t299.length co35) := bc BK304 0
          have hcz87_1 : w72.cell? ⟨gb304, 1, none⟩ = some (.int .i64 t302) := bc BK304 1
          have hfz87_0 := blk_frozen BK304.out 0
          have hfz87_1 := blk_frozen BK304.out 1
          have hnb88 := NB293_282.out
          have hnc88 := NB282_293.out
          have hnb89 := NB293_298.out
          have hnc89 := NB298_293.out
          have hcz90_0 : w72.cell? ⟨gb293, 0, none⟩ = some (.slice Ao23 t288.length co23) := bc BK293 0
          have hcz90_1 : w72.cell? ⟨gb293, 1, none⟩ = some (.int .i64 t291) := bc BK293 1
          have hfz90_0 := blk_frozen BK293.out 0
          have hfz90_1 := blk_frozen BK293.out 1
          go_wp2_with (first | (go_at_call 13; (with_reducible refine (laws_eqQueue.calls kj13 _ _ t299 t302 _ _ t288 t291 false _ ?side1 ?side2 ?side3 ?side4 A74.out).mono ?_); (case side1 => exact cN (Kd.R_reads' HO_305000.out).2.2); (case side2 => exact (Kd.R_reads' HO_305000.out).2.1); (case side3 => exact cN (Kd.R_reads' HO_294000.out).2.2); (case side4 => exact (Kd.R_reads' HO_294000.out).2.1); rintro e w91 ⟨rfl, hb⟩; have n0_ := m_ (Kd.R_below (rN HO_294000.out) hb); have n1_ := m_ (Kd.R_below (rN HO_299000.out) hb); have n2_ := m_ (Kd.R_below (rN HO_305000.out) hb); have n3_ := m_ (Kd.R_below (rN HO308.out) hb); have n4_ := m_ (blk_below (kN BK282.out) hb); have n5_ := m_ (blk_below (kN BK293.out) hb); have n6_ := m_ (blk_below (kN BK298.out) hb); have n7_ := m_ (blk_below (kN BK304.out) hb); have n8_ := m_ (below_step (bN HB.out) hb); clear HO_294000; clear HO_299000; clear HO_305000; clear HO308; clear BK282; clear BK293; clear BK298; clear BK304; clear HB; have HO_294000 := n0_; have HO_299000 := n1_; have HO_305000 := n2_; have HO308 := n3_; have BK282 := n4_; have BK293 := n5_; have BK298 := n6_; have BK304 := n7_; have HB := n8_; clear n0_ n1_ n2_ n3_ n4_ n5_ n6_ n7_ n8_; (try clear hb); (try clear hb2); (try clear hk); (try clear hi)))
          go_meet
          case rel => exact ⟨_, (true), (by first | rfl | (simp; done) | (simp [*]; done)), H', ⟨by have := HJ13.out; first | omega | exact Nat.le_refl _⟩, ⟨by (with_reducible repeat (first | apply Kd.R_alloc | apply Kd.R_drewN | apply Kd.R_drew)); exact Kd.R_mono HO_294000.out (fun _ hk => ⟨hk.1, hk.2.1⟩)⟩, ⟨by (with_reducible repeat (first | apply Kd.R_alloc | apply Kd.R_drewN | apply Kd.R_drew)); exact Kd.R_mono HO_299000.out (fun _ hk => ⟨hk.1.1, hk.1.2⟩)⟩, ⟨by (with_reducible repeat (first | apply Kd.R_alloc | apply Kd.R_drewN | apply Kd.R_drew)); exact Kd.R_mono HO_305000.out (fun _ hk => ⟨hk.1, hk.2.1⟩)⟩, ⟨kN BK282.out⟩, ⟨kN BK293.out⟩, ⟨kN BK298.out⟩, ⟨kN BK304.out⟩, ⟨by repeat (first | (with_reducible first | exact HB.out | apply below_alloc | apply pw_below_drewN | apply below_drew1 | refine below_set ?_ GE282.out | refine below_set ?_ GE293.out | refine below_set ?_ GE298.out | refine below_set ?_ GE304.out) | exact HB.out)⟩⟩
       case rest =>
        clear HC63
        try clear c1
        try clear c2
        try clear p2
        try clear c3
        try clear c3b0
        try clear c3b1
        try clear c4
        try clear c5
        try clear c6
        try clear c6b0
        try clear c7
        try clear c8
        try clear c9
        try clear c11
        try clear c13
        try clear c14
        try clear c15
        try clear c16
        try clear c24
        try clear c30
        try clear c31
        try clear c36
        try clear c37
        try clear c38
        try clear c41
        try clear c42
        try clear c43
        try clear c44
        try clear c46
        try clear c47
        try clear c50
        try clear c51
        try clear c52
        try clear c54
        try clear c55
        try clear c58
        try clear c61
        try clear c68
        try clear c69
        try clear c70
        try clear c73
        try clear c73b0
        try clear c75
        try clear c76
        try clear c77
        try clear c78
        try clear c80
        try clear c81
        try clear c84
        try clear c85
        try clear c86
        try clear c88
        try clear c89
        try clear hcz16_0
        try clear hcz16_1
        try clear hcz18_0
        try clear hcz18_1
        try clear hcz25_0
        try clear hcz25_1
        try clear hcz26_0
        try clear hcz26_1
        try clear hcz32_0
        try clear hcz32_1
        try clear hcz39_0
        try clear hcz39_1
        try clear hcz45_0
        try clear hcz45_1
        try clear hcz48_0
        try clear hcz48_1
        try clear hcz53_0
        try clear hcz53_1
        try clear hcz56_0
        try clear hcz56_1
        try clear hcz71_0
        try clear hcz71_1
        try clear hcz79_0
        try clear hcz79_1
        try clear hcz82_0
        try clear hcz82_1
        try clear hcz87_0
        try clear hcz87_1
        try clear hcz8_0
        try clear hcz8_1
        try clear hcz90_0
        try clear hcz90_1
        try clear hfz16_0
        try clear hfz16_1
        try clear hfz18_0
        try clear hfz18_1
        try clear hfz25_0
        try clear hfz25_1
        try clear hfz26_0
        try clear hfz26_1
        try clear hfz32_0
        try clear hfz32_1
        try clear hfz39_0
        try clear hfz39_1
        try clear hfz45_0
        try clear hfz45_1
        try clear hfz48_0
        try clear hfz48_1
        try clear hfz53_0
        try clear hfz53_1
        try clear hfz56_0
        try clear hfz56_1
        try clear hfz71_0
        try clear hfz71_1
        try clear hfz79_0
        try clear hfz79_1
        try clear hfz82_0
        try clear hfz82_1
        try clear hfz87_0
        try clear hfz87_1
        try clear hfz8_0
        try clear hfz8_1
        try clear hfz90_0
        try clear hfz90_1
        try clear p2
        obtain ⟨kq, x68_62, rfl, HA, HJ62, HO_294000, HO_299000, HO_305000, BK282, BK293, BK298, BK304, HB⟩ := hcut
        have hl299000_62 := (Kd.R_reads' HO_299000.out).1
        rw [hl299000_62] at HO_299000
        (try simp only [hl299000_62])
        (try simp only [hl299000_62] at BK282)
        (try simp only [hl299000_62] at BK293)
        (try simp only [hl299000_62] at BK298)
        (try simp only [hl299000_62] at BK304)
        (try simp only [hl299000_62] at HO_294000)
        (try simp only [hl299000_62] at HO_305000)
        cases kq with
        | zero => exact absurd HA.out (by simp [laws_FnExactQueuePut.j1])
        | succ kj62 =>
         have H := HA.out
         clear HA
         simp only [laws_FnExactQueuePut.j1] at H
         by_cases c92 : x68_62 = true
         ·subst c92
          have H1 : (some false) = some r := by rw [if_pos rfl] at H; exact H
          clear H
          have H := H1
          clear H1
          obtain rfl := Option.some.inj H
          go_wp2
          go_ret
          exact ⟨by first | rfl | (simp [errW_none, errW_some] <;> rfl) | (simp [*, errW_none, errW_some] <;> rfl), by repeat (first | (with_reducible first | exact HB.out | apply below_alloc | apply pw_below_drewN | apply below_drew1 | refine below_set ?_ GE282.out | refine below_set ?_ GE293.out | refine below_set ?_ GE298.out | refine below_set ?_ GE304.out) | exact HB.out)⟩
         ·replace c92 := Bool.eq_false_iff.mpr c92
          subst c92
          have H1 : ((laws_markQueue.f kj62 t299 t302 1).bind fun bt314 => ((laws_heldQueue.f kj62 bt314.2 t302 1).bind fun t316 => (if t316 < 0 then (some false) else (if t316 = bt314.1 then ((laws_toQueue.f kj62 l0_0 a0_1).bind fun bt317 => ((impl_QueuePut.f kj62 bt317.1 bt317.2 a1).bind fun bt321 => ((laws_eqQueue.f kj62 bt321.1 bt321.2.1 t288 t291).bind fun t327 => (if t327 = true then (laws_FnExactQueuePut.j2 kj62 bt314.1 (bt321.2.2 != t292) bt314.2 t302) else (laws_FnExactQueuePut.j2 kj62 bt314.1 true bt314.2 t302))))) else (some false))))) = some r := by rw [if_neg (show ¬ (false = true) by decide)] at H; exact H
          clear H
          have H := H1
          clear H1
          replace H := Option.bind_eq_some_iff.mp H
          obtain ⟨⟨t314, t315⟩, A930, H⟩ := H
          replace H : ((laws_heldQueue.f kj62 t315 t302 1).bind fun t316 => (if t316 < 0 then (some false) else (if t316 = t314 then ((laws_toQueue.f kj62 l0_0 a0_1).bind fun bt317 => ((impl_QueuePut.f kj62 bt317.1 bt317.2 a1).bind fun bt321 => ((laws_eqQueue.f kj62 bt321.1 bt321.2.1 t288 t291).bind fun t327 => (if t327 = true then (laws_FnExactQueuePut.j2 kj62 t314 (bt321.2.2 != t292) t315 t302) else (laws_FnExactQueuePut.j2 kj62 t314 true t315 t302))))) else (some false)))) = some r := H
          have A93 := Aside0.mk A930
          clear A930
          replace H := Option.bind_eq_some_iff.mp H
          obtain ⟨t316, A940, H⟩ := H
          replace H : (if t316 < 0 then (some false) else (if t316 = t314 then ((laws_toQueue.f kj62 l0_0 a0_1).bind fun bt317 => ((impl_QueuePut.f kj62 bt317.1 bt317.2 a1).bind fun bt321 => ((laws_eqQueue.f kj62 bt321.1 bt321.2.1 t288 t291).bind fun t327 => (if t327 = true then (laws_FnExactQueuePut.j2 kj62 t314 (bt321.2.2 != t292) t315 t302) else (laws_FnExactQueuePut.j2 kj62 t314 true t315 t302))))) else (some false))) = some r := H
          have A94 := Aside0.mk A940
          clear A940
          by_cases c95 : t316 < 0
          ·rw [if_pos c95] at H
           have c95b0 : decide (t316 < 0) = true := decide_eq_true c95
           clear c95
           obtain rfl := Option.some.inj H
           have hnb96 := NB304_282.out
           have hnc96 := NB282_304.out
           have hnb97 := NB304_293.out
           have hnc97 := NB293_304.out
           have hnb98 := NB304_298.out
           have hnc98 := NB298_304.out
           have hcz99_0 : wc.cell? ⟨gb304, 0, none⟩ = some (.slice Ao35 t299.length co35) := bc BK304 0
           have hcz99_1 : wc.cell? ⟨gb304, 1, none⟩ = some (.int .i64 t302) := bc BK304 1
           have hfz99_0 := blk_frozen BK304.out 0
           have hfz99_1 := blk_frozen BK304.out 1
           go_wp2_with (first | ((with_reducible refine gate_callee (f := 16) rfl ?_); refine goesL_ (some 71) rfl rfl Tryd.func16 (by kernel_rfl) rfl #[.agg #[.slice Ao35 t299.length co35, .int .i64 t302], .int .i64 1] rfl gl_ ?_; (with_reducible refine (laws_markQueue.calls kj62 (fun k_ => some k_ = (.slice Ao35 t299.length co35 : Value).ownBlock) (.slice Ao35 t299.length co35) t299 t302 1 t314 t315 w _ ?side1 ?side2 A93.out).mono ?_); (case side1 => repeat (first | (with_reducible first | exact HB.out | apply below_alloc | apply pw_below_drewN | apply below_drew1 | refine below_set ?_ GE282.out | refine below_set ?_ GE293.out | refine below_set ?_ GE298.out | refine below_set ?_ GE304.out) | exact HB.out)); (case side2 => exact Kd.R_tight rfl HO_305000.out); rintro e w100 ⟨rfl, hy0, hb, hkp⟩; refine ⟨_, rfl, ?_⟩; have n0_ := m_ (Kd.R_mono (ok' := fun k_ => nb Ao29 t312.length co29 k_ ∧ nb Ao35 t299.length co35 k_) (Kd.R_keptB (HO_294000.out) hkp (fun k_ hk_ hs_ => (hk_.2) hs_)) (fun k_ hk_ => ⟨hk_.1.1, hk_.1.2⟩)); have n1_ := m_ (Kd.R_mono (ok' := fun k_ => nb Ao23 t288.length co23 k_ ∧ nb Ao35 t299.length co35 k_) (Kd.R_keptB (HO_299000.out) hkp (fun k_ hk_ hs_ => (hk_.2) hs_)) (fun k_ hk_ => ⟨hk_.1.1, hk_.1.2⟩)); have n2_ := m_ (Kd.R_reok rfl hy0 (fun k_ e_ => HO_305000.out.1 k_ e_)); have n3_ := m_ (blk_kept (kN BK282.out) hkp (fun hs_ => (fun e_ => (Kd.R_ne HO_305000.out BK282.out (by decide)) e_) hs_)); have n4_ := m_ (blk_kept (kN BK293.out) hkp (fun hs_ => (fun e_ => (Kd.R_ne HO_305000.out BK293.out (by decide)) e_) hs_)); have n5_ := m_ (blk_kept (kN BK298.out) hkp (fun hs_ => (fun e_ => (Kd.R_ne HO_305000.out BK298.out (by decide)) e_) hs_)); have n6_ := m_ (blk_kept (kN BK304.out) hkp (fun hs_ => (fun e_ => (Kd.R_ne HO_305000.out BK304.out (by decide)) e_) hs_)); have n7_ := m_ (hb); clear HO_294000; clear HO_299000; clear HO_305000; clear BK282; clear BK293; clear BK298; clear BK304; clear HB; have HO_294000 := n0_; have HO_299000 := n1_; have HO_305000 := n2_; have BK282 := n3_; have BK293 := n4_; have BK298 := n5_; have BK304 := n6_; have HB := n7_; clear n0_ n1_ n2_ n3_ n4_ n5_ n6_ n7_; (try clear hb); (try clear hkp); (try clear hy0); have hcz101_0 : w100.cell? ⟨gb304, 0, none⟩ = some (.slice Ao35 t299.length co35) := bc BK304 0; have hcz101_1 : w100.cell? ⟨gb304, 1, none⟩ = some (.int .i64 t302) := bc BK304 1; have hfz101_0 := blk_frozen BK304.out 0; have hfz101_1 := blk_frozen BK304.out 1) | ((with_reducible refine gate_callee (f := 17) rfl ?_); refine goesL_ (some 74) rfl rfl Tryd.func17 (by kernel_rfl) rfl #[.agg #[.slice Ao35 t315.length co35, .int .i64 t302], .int .i64 1] rfl (by (try simp only [List.map_toArray, List.map_cons, List.map_nil]); first | done | (rw [show t315.length = t299.length from (Kd.R_reads' HO_305000.out).1.symm] <;> rfl) | rfl | (simp only [List.length_drop, List.length_take]; rfl)) ?_; (with_reducible refine (laws_heldQueue.calls kj62 _ _ t315 t302 1 t316 _ ?side1 ?side2 A94.out).mono ?_); (case side1 => exact cN (Kd.R_reads' HO_305000.out).2.2); (case side2 => rw [show t315.length = t299.length from (Kd.R_reads' HO_305000.out).1.symm]; exact (Kd.R_reads' HO_305000.out).2.1); rintro e w102 ⟨rfl, hb⟩; refine ⟨_, rfl, ?_⟩; have n0_ := m_ (Kd.R_below (rN HO_294000.out) hb); have n1_ := m_ (Kd.R_below (rN HO_299000.out) hb); have n2_ := m_ (Kd.R_below (rN HO_305000.out) hb); have n3_ := m_ (blk_below (kN BK282.out) hb); have n4_ := m_ (blk_below (kN BK293.out) hb); have n5_ := m_ (blk_below (kN BK298.out) hb); have n6_ := m_ (blk_below (kN BK304.out) hb); have n7_ := m_ (below_step (bN HB.out) hb); clear HO_294000; clear HO_299000; clear HO_305000; clear BK282; clear BK293; clear BK298; clear BK304; clear HB; have HO_294000 := n0_; have HO_299000 := n1_; have HO_305000 := n2_; have BK282 := n3_; have BK293 := n4_; have BK298 := n5_; have BK304 := n6_; have HB := n7_; clear n0_ n1_ n2_ n3_ n4_ n5_ n6_ n7_; (try clear hb); (try clear hb2); (try clear hk); (try clear hi)))
           go_ret
           exact ⟨by first | rfl | (simp [errW_none, errW_some] <;> rfl) | (simp [*, errW_none, errW_some] <;> rfl), by repeat (first | (with_reducible first | exact HB.out | apply below_alloc | apply pw_below_drewN | apply below_drew1 | refine below_set ?_ GE282.out | refine below_set ?_ GE293.out | refine below_set ?_ GE298.out | refine below_set ?_ GE304.out) | exact HB.out)⟩
          ·rw [if_neg c95] at H
           have c95b0 : decide (t316 < 0) = false := decide_eq_false c95
           clear c95
           by_cases c103 : t316 = t314
           ·rw [if_pos c103] at H
            have c103b0 : (t316 == t314) = true := beq_iff_eq.mpr c103
            have c103b1 : (t316 != t314) = false := bne_eq_false_iff_eq.mpr c103
            clear c103
            replace H := Option.bind_eq_some_iff.mp H
            obtain ⟨⟨t317, t320⟩, A1040, H⟩ := H
            replace H : ((impl_QueuePut.f kj62 t317 t320 a1).bind fun bt321 => ((laws_eqQueue.f kj62 bt321.1 bt321.2.1 t288 t291).bind fun t327 => (if t327 = true then (laws_FnExactQueuePut.j2 kj62 t314 (bt321.2.2 != t292) t315 t302) else (laws_FnExactQueuePut.j2 kj62 t314 true t315 t302)))) = some r := H
            have A104 := Aside0.mk A1040
            clear A1040
            replace H := Option.bind_eq_some_iff.mp H
            obtain ⟨⟨t321, t324, t325⟩, A1050, H⟩ := H
            replace H : ((laws_eqQueue.f kj62 t321 t324 t288 t291).bind fun t327 => (if t327 = true then (laws_FnExactQueuePut.j2 kj62 t314 (t325 != t292) t315 t302) else (laws_FnExactQueuePut.j2 kj62 t314 true t315 t302))) = some r := H
            have A105 := Aside0.mk A1050
            clear A1050
            have HC106 := Aside0.mk H
            clear H
            have hnb107 := NB304_282.out
            have hnc107 := NB282_304.out
            have hnb108 := NB304_293.out
            have hnc108 := NB293_304.out
            have hnb109 := NB304_298.out
            have hnc109 := NB298_304.out
            have hcz110_0 : wc.cell? ⟨gb304, 0, none⟩ = some (.slice Ao35 t299.length co35) := bc BK304 0
            have hcz110_1 : wc.cell? ⟨gb304, 1, none⟩ = some (.int .i64 t302) := bc BK304 1
            have hfz110_0 := blk_frozen BK304.out 0
            have hfz110_1 := blk_frozen BK304.out 1
            go_upto_region 27 with (first | ((with_reducible refine gate_callee (f := 16) rfl ?_); refine goesL_ (some 71) rfl rfl Tryd.func16 (by kernel_rfl) rfl #[.agg #[.slice Ao35 t299.length co35, .int .i64 t302], .int .i64 1] rfl gl_ ?_; (with_reducible refine (laws_markQueue.calls kj62 (fun k_ => some k_ = (.slice Ao35 t299.length co35 : Value).ownBlock) (.slice Ao35 t299.length co35) t299 t302 1 t314 t315 w _ ?side1 ?side2 A93.out).mono ?_); (case side1 => repeat (first | (with_reducible first | exact HB.out | apply below_alloc | apply pw_below_drewN | apply below_drew1 | refine below_set ?_ GE282.out | refine below_set ?_ GE293.out | refine below_set ?_ GE298.out | refine below_set ?_ GE304.out) | exact HB.out)); (case side2 => exact Kd.R_tight rfl HO_305000.out); rintro e w111 ⟨rfl, hy0, hb, hkp⟩; refine ⟨_, rfl, ?_⟩; have n0_ := m_ (Kd.R_mono (ok' := fun k_ => nb Ao29 t312.length co29 k_ ∧ nb Ao35 t299.length co35 k_) (Kd.R_keptB (HO_294000.out) hkp (fun k_ hk_ hs_ => (hk_.2) hs_)) (fun k_ hk_ => ⟨hk_.1.1, hk_.1.2⟩)); have n1_ := m_ (Kd.R_mono (ok' := fun k_ => nb Ao23 t288.length co23 k_ ∧ nb Ao35 t299.length co35 k_) (Kd.R_keptB (HO_299000.out) hkp (fun k_ hk_ hs_ => (hk_.2) hs_)) (fun k_ hk_ => ⟨hk_.1.1, hk_.1.2⟩)); have n2_ := m_ (Kd.R_reok rfl hy0 (fun k_ e_ => HO_305000.out.1 k_ e_)); have n3_ := m_ (blk_kept (kN BK282.out) hkp (fun hs_ => (fun e_ => (Kd.R_ne HO_305000.out BK282.out (by decide)) e_) hs_)); have n4_ := m_ (blk_kept (kN BK293.out) hkp (fun hs_ => (fun e_ => (Kd.R_ne HO_305000.out BK293.out (by decide)) e_) hs_)); have n5_ := m_ (blk_kept (kN BK298.out) hkp (fun hs_ => (fun e_ => (Kd.R_ne HO_305000.out BK298.out (by decide)) e_) hs_)); have n6_ := m_ (blk_kept (kN BK304.out) hkp (fun hs_ => (fun e_ => (Kd.R_ne HO_305000.out BK304.out (by decide)) e_) hs_)); have n7_ := m_ (hb); clear HO_294000; clear HO_299000; clear HO_305000; clear BK282; clear BK293; clear BK298; clear BK304; clear HB; have HO_294000 := n0_; have HO_299000 := n1_; have HO_305000 := n2_; have BK282 := n3_; have BK293 := n4_; have BK298 := n5_; have BK304 := n6_; have HB := n7_; clear n0_ n1_ n2_ n3_ n4_ n5_ n6_ n7_; (try clear hb); (try clear hkp); (try clear hy0); have hcz112_0 : w111.cell? ⟨gb304, 0, none⟩ = some (.slice Ao35 t299.length co35) := bc BK304 0; have hcz112_1 : w111.cell? ⟨gb304, 1, none⟩ = some (.int .i64 t302) := bc BK304 1; have hfz112_0 := blk_frozen BK304.out 0; have hfz112_1 := blk_frozen BK304.out 1) | ((with_reducible refine gate_callee (f := 17) rfl ?_); refine goesL_ (some 74) rfl rfl Tryd.func17 (by kernel_rfl) rfl #[.agg #[.slice Ao35 t315.length co35, .int .i64 t302], .int .i64 1] rfl (by (try simp only [List.map_toArray, List.map_cons, List.map_nil]); first | done | (rw [show t315.length = t299.length from (Kd.R_reads' HO_305000.out).1.symm] <;> rfl) | rfl | (simp only [List.length_drop, List.length_take]; rfl)) ?_; (with_reducible refine (laws_heldQueue.calls kj62 _ _ t315 t302 1 t316 _ ?side1 ?side2 A94.out).mono ?_); (case side1 => exact cN (Kd.R_reads' HO_305000.out).2.2); (case side2 => rw [show t315.length = t299.length from (Kd.R_reads' HO_305000.out).1.symm]; exact (Kd.R_reads' HO_305000.out).2.1); rintro e w113 ⟨rfl, hb⟩; refine ⟨_, rfl, ?_⟩; have n0_ := m_ (Kd.R_below (rN HO_294000.out) hb); have n1_ := m_ (Kd.R_below (rN HO_299000.out) hb); have n2_ := m_ (Kd.R_below (rN HO_305000.out) hb); have n3_ := m_ (blk_below (kN BK282.out) hb); have n4_ := m_ (blk_below (kN BK293.out) hb); have n5_ := m_ (blk_below (kN BK298.out) hb); have n6_ := m_ (blk_below (kN BK304.out) hb); have n7_ := m_ (below_step (bN HB.out) hb); clear HO_294000; clear HO_299000; clear HO_305000; clear BK282; clear BK293; clear BK298; clear BK304; clear HB; have HO_294000 := n0_; have HO_299000 := n1_; have HO_305000 := n2_; have BK282 := n3_; have BK293 := n4_; have BK298 := n5_; have BK304 := n6_; have HB := n7_; clear n0_ n1_ n2_ n3_ n4_ n5_ n6_ n7_; (try clear hb); (try clear hb2); (try clear hk); (try clear hi); have hnb114 := NB282_293.out; have hnc114 := NB293_282.out; have hnb115 := NB282_298.out; have hnc115 := NB298_282.out; have hcz116_0 : w113.cell? ⟨gb282, 0, none⟩ = some (.slice A0_0 l0_0.length c0_0) := bc BK282 0; have hcz116_1 : w113.cell? ⟨gb282, 1, none⟩ = some (.int .i64 a0_1) := bc BK282 1; have hfz116_0 := blk_frozen BK282.out 0; have hfz116_1 := blk_frozen BK282.out 1) | ((with_reducible refine gate_callee (f := 11) rfl ?_); refine goesL_ (some 82) rfl rfl Tryd.func11 (by kernel_rfl) rfl #[.agg #[.slice A0_0 l0_0.length c0_0, .int .i64 a0_1]] rfl gl_ ?_; (with_reducible refine (laws_toQueue.calls kj62 _ _ l0_0 a0_1 t317 t320 _ ?side1 ?side2 A104.out).mono ?_); (case side1 => exact cN (Kd.C_below HR0_0.out HB.out)); (case side2 => exact HC0_0.out); rintro e w117 ⟨v318, rfl, ho0, hb⟩; refine ⟨_, rfl, ?_⟩; have n0_ := m_ (Kd.R_elder' (rN HO_294000.out) (Kd.R_base ho0) hb); have n1_ := m_ (Kd.R_elder' (rN HO_299000.out) (Kd.R_base ho0) hb); have n2_ := m_ (Kd.R_elder' (rN HO_305000.out) (Kd.R_base ho0) hb); have n3_ := m_ (Kd.R_lower (Kd.R_new' (Kd.R_new' (Kd.R_new' ho0 (Kd.R_lt (rN HO_294000.out))) (Kd.R_lt (rN HO_299000.out))) (Kd.R_lt (rN HO_305000.out))) (below_size (bN HB.out))); have n4_ := m_ (blk_below (kN BK282.out) hb); have n5_ := m_ (blk_below (kN BK293.out) hb); have n6_ := m_ (blk_below (kN BK298.out) hb); have n7_ := m_ (blk_below (kN BK304.out) hb); have n8_ := m_ (below_step (bN HB.out) hb); clear HO_294000; clear HO_299000; clear HO_305000; clear BK282; clear BK293; clear BK298; clear BK304; clear HB; have HO_294000 := n0_; have HO_299000 := n1_; have HO_305000 := n2_; have HO319 := n3_; have BK282 := n4_; have BK293 := n5_; have BK298 := n6_; have BK304 := n7_; have HB := n8_; clear n0_ n1_ n2_ n3_ n4_ n5_ n6_ n7_ n8_; (try clear hb); (try clear hb2); (try clear hk); (try clear hi); (try clear ho0); obtain ⟨Ao118, co118, eo118⟩ := Kd.R_slice HO319.out; subst eo118) | ((with_reducible refine gate_callee (f := 15) rfl ?_); refine goesL_ (some 84) rfl rfl Tryd.func15 (by kernel_rfl) rfl #[.agg #[.slice Ao118 t317.length co118, .int .i64 t320], .string a1] rfl gl_ ?_; (with_reducible refine (impl_QueuePut.calls kj62 _ _ t317 t320 a1 t321 t324 t325 _ ?side1 ?side2 A105.out).mono ?_); (case side1 => exact cN (Kd.R_reads' HO319.out).2.2); (case side2 => exact (Kd.R_reads' HO319.out).2.1); rintro e w119 ⟨v322, rfl, ho0, hb⟩; refine ⟨_, rfl, ?_⟩; have n0_ := m_ (Kd.R_elder' (rN HO_294000.out) (Kd.R_base ho0) hb); have n1_ := m_ (Kd.R_elder' (rN HO_299000.out) (Kd.R_base ho0) hb); have n2_ := m_ (Kd.R_elder' (rN HO_305000.out) (Kd.R_base ho0) hb); have n3_ := m_ (Kd.R_elder' (rN HO319.out) (Kd.R_base ho0) hb); have n4_ := m_ (Kd.R_lower (Kd.R_new' (Kd.R_new' (Kd.R_new' (Kd.R_new' ho0 (Kd.R_lt (rN HO_294000.out))) (Kd.R_lt (rN HO_299000.out))) (Kd.R_lt (rN HO_305000.out))) (Kd.R_lt (rN HO319.out))) (below_size (bN HB.out))); have n5_ := m_ (blk_below (kN BK282.out) hb); have n6_ := m_ (blk_below (kN BK293.out) hb); have n7_ := m_ (blk_below (kN BK298.out) hb); have n8_ := m_ (blk_below (kN BK304.out) hb); have n9_ := m_ (below_step (bN HB.out) hb); clear HO_294000; clear HO_299000; clear HO_305000; clear HO319; clear BK282; clear BK293; clear BK298; clear BK304; clear HB; have HO_294000 := n0_; have HO_299000 := n1_; have HO_305000 := n2_; have HO319 := n3_; have HO323 := n4_; have BK282 := n5_; have BK293 := n6_; have BK298 := n7_; have BK304 := n8_; have HB := n9_; clear n0_ n1_ n2_ n3_ n4_ n5_ n6_ n7_ n8_ n9_; (try clear hb); (try clear hb2); (try clear hk); (try clear hi); (try clear ho0)) | ((with_reducible refine gate_dst (N := 14) rfl ?_); refine box_event ?hg (N := 14) ?hd (cs := #[.slice none 0 0, .int .i64 0]) (t := 27) ?hr ?_; (case hd => rfl); (case hg => rfl); (case hr => first | (go_simp; done) | (go_simp; rfl)); intro gb326 hg w120 hbox hb; have n0_ := m_ (Kd.R_below (rN HO_294000.out) hb); have n1_ := m_ (Kd.R_below (rN HO_299000.out) hb); have n2_ := m_ (Kd.R_below (rN HO_305000.out) hb); have n3_ := m_ (Kd.R_below (rN HO319.out) hb); have n4_ := m_ (Kd.R_below (rN HO323.out) hb); have n5_ := m_ (blk_below (kN BK282.out) hb); have n6_ := m_ (blk_below (kN BK293.out) hb); have n7_ := m_ (blk_below (kN BK298.out) hb); have n8_ := m_ (blk_below (kN BK304.out) hb); have n9_ := m_ (below_step (bN HB.out) hb); have n10_ := m_ (hbox); have n11_ := m_ ((by rw [hg]; exact (below_size (bN HB.out)) : w.heap.size ≤ gb326)); have n12_ := m_ ((by rw [hg]; exact (below_size (bN HB.out)) : w.heap.size ≤ gb326)); have n13_ := m_ (nL hg BK282.out); have n14_ := m_ (nG hg BK282.out); have n15_ := m_ (nL hg BK293.out); have n16_ := m_ (nG hg BK293.out); have n17_ := m_ (nL hg BK298.out); have n18_ := m_ (nG hg BK298.out); have n19_ := m_ (nL hg BK304.out); have n20_ := m_ (nG hg BK304.out); clear HO_294000; clear HO_299000; clear HO_305000; clear HO319; clear HO323; clear BK282; clear BK293; clear BK298; clear BK304; clear HB; have HO_294000 := n0_; have HO_299000 := n1_; have HO_305000 := n2_; have HO319 := n3_; have HO323 := n4_; have BK282 := n5_; have BK293 := n6_; have BK298 := n7_; have BK304 := n8_; have HB := n9_; have BK326 := n10_; have GW326 := n11_; have GE326 := n12_; have NB282_326 := n13_; have NB326_282 := n14_; have NB293_326 := n15_; have NB326_293 := n16_; have NB298_326 := n17_; have NB326_298 := n18_; have NB304_326 := n19_; have NB326_304 := n20_; clear n0_ n1_ n2_ n3_ n4_ n5_ n6_ n7_ n8_ n9_ n10_ n11_ n12_ n13_ n14_ n15_ n16_ n17_ n18_ n19_ n20_; clear hb hbox hg; obtain ⟨Ao121, co121, eo121⟩ := Kd.R_slice HO323.out; subst eo121; have hnb122 := NB326_282.out; have hnc122 := NB282_326.out; have hnb123 := NB326_293.out; have hnc123 := NB293_326.out; have hnb124 := NB326_298.out; have hnc124 := NB298_326.out; have hnb125 := NB326_304.out; have hnc125 := NB304_326.out; have hcz126_0 : w120.cell? ⟨gb326, 0, none⟩ = some (.slice none 0 0) := bc BK326 0; have hcz126_1 : w120.cell? ⟨gb326, 1, none⟩ = some (.int .i64 0) := bc BK326 1; have hfz126_0 := blk_frozen BK326.out 0; have hfz126_1 := blk_frozen BK326.out 1))
            (try simp only [Act.put, List.setIfInBounds_toArray, List.set_cons_zero, List.set_cons_succ])
            go_cut [95] (fun v95 wc => ∃ (kq : Nat) (x95_105 : Bool), v95 = .bool x95_105 ∧ Aside0 (laws_FnExactQueuePut.j2 kq t314 x95_105 t315 t302 = some r) ∧ Aside0 (kq ≤ kj62) ∧ Aside0 (Kd.R Kd.string 9 wc w.heap.size (fun k_ => some k_ ≠ ((.slice Ao29 t312.length co29) : Value).ownBlock ∧ some k_ ≠ ((.slice Ao35 t299.length co35) : Value).ownBlock ∧ some k_ ≠ ((.slice Ao121 t321.length co121) : Value).ownBlock) (.slice Ao23 t288.length co23) t288) ∧ Aside0 (Kd.R Kd.string 9 wc w.heap.size (fun k_ => some k_ ≠ ((.slice Ao23 t288.length co23) : Value).ownBlock ∧ some k_ ≠ ((.slice Ao35 t299.length co35) : Value).ownBlock ∧ some k_ ≠ ((.slice Ao121 t321.length co121) : Value).ownBlock) (.slice Ao29 t312.length co29) t312) ∧ Aside0 (Kd.R Kd.string 9 wc w.heap.size (fun k_ => some k_ ≠ ((.slice Ao23 t288.length co23) : Value).ownBlock ∧ some k_ ≠ ((.slice Ao29 t312.length co29) : Value).ownBlock ∧ some k_ ≠ ((.slice Ao121 t321.length co121) : Value).ownBlock) (.slice Ao35 t299.length co35) t315) ∧ Aside0 (Kd.R Kd.string 9 wc w.heap.size (fun k_ => some k_ ≠ ((.slice Ao23 t288.length co23) : Value).ownBlock ∧ some k_ ≠ ((.slice Ao29 t312.length co29) : Value).ownBlock ∧ some k_ ≠ ((.slice Ao35 t299.length co35) : Value).ownBlock) (.slice Ao121 t321.length co121) t321) ∧ Aside0 (wc.heap[gb282]? = some (.cells #[(.slice A0_0 l0_0.length c0_0), .int .i64 a0_1] 24 (0, 0))) ∧ Aside0 (wc.heap[gb293]? = some (.cells #[(.slice Ao23 t288.length co23), .int .i64 t291] 27 (0, 0))) ∧ Aside0 (wc.heap[gb298]? = some (.cells #[(.slice Ao29 t312.length co29), .int .i64 t297] 27 (0, 0))) ∧ Aside0 (wc.heap[gb304]? = some (.cells #[(.slice Ao35 t299.length co35), .int .i64 t302] 27 (0, 0))) ∧ Aside0 (wc.heap[gb326]? = some (.cells #[(.slice Ao121 t321.length co121), .int .i64 t324] 27 (0, 0))) ∧ Aside0 (Below w.heap.size w wc))
            case first =>
             have H := HC106.out
             clear HC106
             replace H := Option.bind_eq_some_iff.mp H
             obtain ⟨t327, A1270, H⟩ := H
             replace H : (if t327 = true then (laws_FnExactQueuePut.j2 kj62 t314 (t325 != t292) t315 t302) else (laws_FnExactQueuePut.j2 kj62 t314 true t315 t302)) = some r := H
             have A127 := Aside0.mk A1270
             clear A1270
             by_cases c128 : t327 = true
             ·subst c128
              have H1 : (laws_FnExactQueuePut.j2 kj62 t314 (t325 != t292) t315 t302) = some r := by rw [if_pos rfl] at H; exact H
              clear H
              have H := H1
              clear H1
              have H' := Aside0.mk H
              clear H
              have hnb129 := NB326_282.out
              have hnc129 := NB282_326.out
              have hnb130 := NB326_293.out
              have hnc130 := NB293_326.out
              have hnb131 := NB326_298.out
              have hnc131 := NB298_326.out
              have hnb132 := NB326_304.out
              have hnc132 := NB304_326.out
              have hcz133_0 : w120.cell? ⟨gb326, 0, none⟩ = some (.slice none 0 0) := bc BK326 0
              have hcz133_1 : w120.cell? ⟨gb326, 1, none⟩ = some (.int .i64 0) := bc BK326 1
              have hfz133_0 := blk_frozen BK326.out 0
              have hfz133_1 := blk_frozen BK326.out 1
              have hnb134 := NB293_282.out
              have hnc134 := NB282_293.out
              have hnb135 := NB293_298.out
              have hnc135 := NB298_293.out
              have hnb136 := NB293_304.out
              have hnc136 := NB304_293.out
              have hcz137_0 : w120.cell? ⟨gb293, 0, none⟩ = some (.slice Ao23 t288.length co23) := bc BK293 0
              have hcz137_1 : w120.cell? ⟨gb293, 1, none⟩ = some (.int .i64 t291) := bc BK293 1
              have hfz137_0 := blk_frozen BK293.out 0
              have hfz137_1 := blk_frozen BK293.out 1
              go_wp2_with (first | ((with_reducible refine gate_callee (f := 13) rfl ?_); refine goesL_ (some 89) rfl rfl Tryd.func13 (by kernel_rfl) rfl #[.agg #[.slice Ao121 t321.length co121, .int .i64 t324], .agg #[.slice Ao23 t288.length co23, .int .i64 t291]] rfl gl_ ?_; (with_reducible refine (laws_eqQueue.calls kj62 _ _ t321 t324 _ _ t288 t291 true _ ?side1 ?side2 ?side3 ?side4 A127.out).mono ?_); (case side1 => refine (Kd.R_reads' (e := 9) (base := w.heap.size) (ok := fun k_ => ((((True ∧ nb Ao23 t288.length co23 k_) ∧ nb Ao29 t312.length co29 k_) ∧ nb Ao35 t299.length co35 k_) ∧ nb Ao118 t317.length co118 k_)) (n := t321.length) (c := co121) ?_).2.2; exact (frN (Kd.R_types HO323.out BK326.out (by decide)))); (case side2 => exact (Kd.R_reads' HO323.out).2.1); (case side3 => refine (Kd.R_reads' (e := 9) (base := w.heap.size) (ok := fun k_ => (((nb Ao29 t312.length co29 k_ ∧ nb Ao35 t299.length co35 k_) ∧ nb Ao118 t317.length co118 k_) ∧ nb Ao121 t321.length co121 k_)) (n := t288.length) (c := co23) ?_).2.2; exact (frN (Kd.R_types HO_294000.out BK326.out (by decide)))); (case side4 => exact (Kd.R_reads' HO_294000.out).2.1); rintro e w138 ⟨rfl, hb⟩; refine ⟨_, rfl, ?_⟩; have n0_ := m_ (Kd.R_below (frN (Kd.R_types HO_294000.out BK326.out (by decide))) hb); have n1_ := m_ (Kd.R_below (frN (Kd.R_types HO_299000.out BK326.out (by decide))) hb); have n2_ := m_ (Kd.R_below (frN (Kd.R_types HO_305000.out BK326.out (by decide))) hb); have n3_ := m_ (Kd.R_below (frN (Kd.R_types HO319.out BK326.out (by decide))) hb); have n4_ := m_ (Kd.R_below (frN (Kd.R_types HO323.out BK326.out (by decide))) hb); have n5_ := m_ (blk_below (g := gb282) (o := .cells #[.slice A0_0 l0_0.length c0_0, .int .i64 a0_1] 24 (0, 0)) (kF BK282.out NB282_326.out) hb); have n6_ := m_ (blk_below (g := gb293) (o := .cells #[.slice Ao23 t288.length co23, .int .i64 t291] 27 (0, 0)) (kF BK293.out NB293_326.out) hb); have n7_ := m_ (blk_below (g := gb298) (o := .cells #[.slice Ao29 t312.length co29, .int .i64 t297] 27 (0, 0)) (kF BK298.out NB298_326.out) hb); have n8_ := m_ (blk_below (g := gb304) (o := .cells #[.slice Ao35 t299.length co35, .int .i64 t302] 27 (0, 0)) (kF BK304.out NB304_326.out) hb); have n9_ := m_ (blk_below (g := gb326) (o := .cells #[.slice Ao121 t321.length co121, .int .i64 t324] 27 (0, 0)) (kP BK326.out) hb); have n10_ := m_ (below_step (bN HB.out) hb); clear HO_294000; clear HO_299000; clear HO_305000; clear HO319; clear HO323; clear BK282; clear BK293; clear BK298; clear BK304; clear BK326; clear HB; have HO_294000 := n0_; have HO_299000 := n1_; have HO_305000 := n2_; have HO319 := n3_; have HO323 := n4_; have BK282 := n5_; have BK293 := n6_; have BK298 := n7_; have BK304 := n8_; have BK326 := n9_; have HB := n10_; clear n0_ n1_ n2_ n3_ n4_ n5_ n6_ n7_ n8_ n9_ n10_; (try clear hb); (try clear hb2); (try clear hk); (try clear hi)))
              go_meet
              case rel => exact ⟨_, ((t325 != t292)), (by first | rfl | (simp; done) | (simp [*]; done)), H', ⟨by have := HJ13.out; have := HJ62.out; first | omega | exact Nat.le_refl _⟩, ⟨by (try simp only [hl299000_62]); (with_reducible repeat (first | apply Kd.R_alloc | apply Kd.R_drewN | apply Kd.R_drew)); exact Kd.R_mono HO_294000.out (fun _ hk => ⟨hk.1.1.1, ⟨hk.1.1.2, hk.2⟩⟩)⟩, ⟨by (try simp only [hl299000_62]); (with_reducible repeat (first | apply Kd.R_alloc | apply Kd.R_drewN | apply Kd.R_drew)); exact Kd.R_mono HO_299000.out (fun _ hk => ⟨hk.1.1.1, ⟨hk.1.1.2, hk.2⟩⟩)⟩, ⟨by (try simp only [hl299000_62]); (with_reducible repeat (first | apply Kd.R_alloc | apply Kd.R_drewN | apply Kd.R_drew)); exact Kd.R_mono HO_305000.out (fun _ hk => ⟨hk.1.1.1, ⟨hk.1.1.2, hk.2⟩⟩)⟩, ⟨by (try simp only [hl299000_62]); (with_reducible repeat (first | apply Kd.R_alloc | apply Kd.R_drewN | apply Kd.R_drew)); exact Kd.R_mono HO323.out (fun _ hk => ⟨hk.1.1.1.2, ⟨hk.1.1.2, hk.1.2⟩⟩)⟩, ⟨by (try simp only [hl299000_62]); (with_reducible repeat (first | refine blk_drewN ?_ _ | refine blk_drew ?_ | refine blk_alloc ?_ _)); exact BK282.out⟩, ⟨by (try simp only [hl299000_62]); (with_reducible repeat (first | refine blk_drewN ?_ _ | refine blk_drew ?_ | refine blk_alloc ?_ _)); exact BK293.out⟩, ⟨by (try simp only [hl299000_62]); (with_reducible repeat (first | refine blk_drewN ?_ _ | refine blk_drew ?_ | refine blk_alloc ?_ _)); exact BK298.out⟩, ⟨by (try simp only [hl299000_62]); (with_reducible repeat (first | refine blk_drewN ?_ _ | refine blk_drew ?_ | refine blk_alloc ?_ _)); exact BK304.out⟩, ⟨by (try simp only [hl299000_62]); (with_reducible repeat (first | refine blk_drewN ?_ _ | refine blk_drew ?_ | refine blk_alloc ?_ _)); exact BK326.out⟩, ⟨by repeat (first | (with_reducible first | exact HB.out | apply below_alloc | apply pw_below_drewN | apply below_drew1 | refine below_set ?_ GE282.out | refine below_set ?_ GE293.out | refine below_set ?_ GE298.out | refine below_set ?_ GE304.out | refine below_set ?_ GE326.out) | exact HB.out)⟩⟩
             ·replace c128 := Bool.eq_false_iff.mpr c128
              subst c128
              have H1 : (laws_FnExactQueuePut.j2 kj62 t314 true t315 t302) = some r := by rw [if_neg (show ¬ (false = true) by decide)] at H; exact H
              clear H
              have H := H1
              clear H1
              have H' := Aside0.mk H
              clear H
              have hnb139 := NB326_282.out
              have hnc139 := NB282_326.out
              have hnb140 := NB326_293.out
              have hnc140 := NB293_326.out
              have hnb141 := NB326_298.out
              have hnc141 := NB298_326.out
              have hnb142 := NB326_304.out
              have hnc142 := NB304_326.out
              have hcz143_0 : w120.cell? ⟨gb326, 0, none⟩ = some (.slice none 0 0) := bc BK326 0
              have hcz143_1 : w120.cell? ⟨gb326, 1, none⟩ = some (.int .i64 0) := bc BK326 1
              have hfz143_0 := blk_frozen BK326.out 0
              have hfz143_1 := blk_frozen BK326.out 1
              have hnb144 := NB293_282.out
              have hnc144 := NB282_293.out
              have hnb145 := NB293_298.out
              have hnc145 := NB298_293.out
              have hnb146 := NB293_304.out
              have hnc146 := NB304_293.out
              have hcz147_0 : w120.cell? ⟨gb293, 0, none⟩ = some (.slice Ao23 t288.length co23) := bc BK293 0
              have hcz147_1 : w120.cell? ⟨gb293, 1, none⟩ = some (.int .i64 t291) := bc BK293 1
              have hfz147_0 := blk_frozen BK293.out 0
              have hfz147_1 := blk_frozen BK293.out 1
              go_wp2_with (first | ((with_reducible refine gate_callee (f := 13) rfl ?_); refine goesL_ (some 89) rfl rfl Tryd.func13 (by kernel_rfl) rfl #[.agg #[.slice Ao121 t321.length co121, .int .i64 t324], .agg #[.slice Ao23 t288.length co23, .int .i64 t291]] rfl gl_ ?_; (with_reducible refine (laws_eqQueue.calls kj62 _ _ t321 t324 _ _ t288 t291 false _ ?side1 ?side2 ?side3 ?side4 A127.out).mono ?_); (case side1 => refine (Kd.R_reads' (e := 9) (base := w.heap.size) (ok := fun k_ => ((((True ∧ nb Ao23 t288.length co23 k_) ∧ nb Ao29 t312.length co29 k_) ∧ nb Ao35 t299.length co35 k_) ∧ nb Ao118 t317.length co118 k_)) (n := t321.length) (c := co121) ?_).2.2; exact (frN (Kd.R_types HO323.out BK326.out (by decide)))); (case side2 => exact (Kd.R_reads' HO323.out).2.1); (case side3 => refine (Kd.R_reads' (e := 9) (base := w.heap.size) (ok := fun k_ => (((nb Ao29 t312.length co29 k_ ∧ nb Ao35 t299.length co35 k_) ∧ nb Ao118 t317.length co118 k_) ∧ nb Ao121 t321.length co121 k_)) (n := t288.length) (c := co23) ?_).2.2; exact (frN (Kd.R_types HO_294000.out BK326.out (by decide)))); (case side4 => exact (Kd.R_reads' HO_294000.out).2.1); rintro e w148 ⟨rfl, hb⟩; refine ⟨_, rfl, ?_⟩; have n0_ := m_ (Kd.R_below (frN (Kd.R_types HO_294000.out BK326.out (by decide))) hb); have n1_ := m_ (Kd.R_below (frN (Kd.R_types HO_299000.out BK326.out (by decide))) hb); have n2_ := m_ (Kd.R_below (frN (Kd.R_types HO_305000.out BK326.out (by decide))) hb); have n3_ := m_ (Kd.R_below (frN (Kd.R_types HO319.out BK326.out (by decide))) hb); have n4_ := m_ (Kd.R_below (frN (Kd.R_types HO323.out BK326.out (by decide))) hb); have n5_ := m_ (blk_below (g := gb282) (o := .cells #[.slice A0_0 l0_0.length c0_0, .int .i64 a0_1] 24 (0, 0)) (kF BK282.out NB282_326.out) hb); have n6_ := m_ (blk_below (g := gb293) (o := .cells #[.slice Ao23 t288.length co23, .int .i64 t291] 27 (0, 0)) (kF BK293.out NB293_326.out) hb); have n7_ := m_ (blk_below (g := gb298) (o := .cells #[.slice Ao29 t312.length co29, .int .i64 t297] 27 (0, 0)) (kF BK298.out NB298_326.out) hb); have n8_ := m_ (blk_below (g := gb304) (o := .cells #[.slice Ao35 t299.length co35, .int .i64 t302] 27 (0, 0)) (kF BK304.out NB304_326.out) hb); have n9_ := m_ (blk_below (g := gb326) (o := .cells #[.slice Ao121 t321.length co121, .int .i64 t324] 27 (0, 0)) (kP BK326.out) hb); have n10_ := m_ (below_step (bN HB.out) hb); clear HO_294000; clear HO_299000; clear HO_305000; clear HO319; clear HO323; clear BK282; clear BK293; clear BK298; clear BK304; clear BK326; clear HB; have HO_294000 := n0_; have HO_299000 := n1_; have HO_305000 := n2_; have HO319 := n3_; have HO323 := n4_; have BK282 := n5_; have BK293 := n6_; have BK298 := n7_; have BK304 := n8_; have BK326 := n9_; have HB := n10_; clear n0_ n1_ n2_ n3_ n4_ n5_ n6_ n7_ n8_ n9_ n10_; (try clear hb); (try clear hb2); (try clear hk); (try clear hi)))
              go_meet
              case rel => exact ⟨_, (true), (by first | rfl | (simp; done) | (simp [*]; done)), H', ⟨by have := HJ13.out; have := HJ62.out; first | omega | exact Nat.le_refl _⟩, ⟨by (try simp only [hl299000_62]); (with_reducible repeat (first | apply Kd.R_alloc | apply Kd.R_drewN | apply Kd.R_drew)); exact Kd.R_mono HO_294000.out (fun _ hk => ⟨hk.1.1.1, ⟨hk.1.1.2, hk.2⟩⟩)⟩, ⟨by (try simp only [hl299000_62]); (with_reducible repeat (first | apply Kd.R_alloc | apply Kd.R_drewN | apply Kd.R_drew)); exact Kd.R_mono HO_299000.out (fun _ hk => ⟨hk.1.1.1, ⟨hk.1.1.2, hk.2⟩⟩)⟩, ⟨by (try simp only [hl299000_62]); (with_reducible repeat (first | apply Kd.R_alloc | apply Kd.R_drewN | apply Kd.R_drew)); exact Kd.R_mono HO_305000.out (fun _ hk => ⟨hk.1.1.1, ⟨hk.1.1.2, hk.2⟩⟩)⟩, ⟨by (try simp only [hl299000_62]); (with_reducible repeat (first | apply Kd.R_alloc | apply Kd.R_drewN | apply Kd.R_drew)); exact Kd.R_mono HO323.out (fun _ hk => ⟨hk.1.1.1.2, ⟨hk.1.1.2, hk.1.2⟩⟩)⟩, ⟨by (try simp only [hl299000_62]); (with_reducible repeat (first | refine blk_drewN ?_ _ | refine blk_drew ?_ | refine blk_alloc ?_ _)); exact BK282.out⟩, ⟨by (try simp only [hl299000_62]); (with_reducible repeat (first | refine blk_drewN ?_ _ | refine blk_drew ?_ | refine blk_alloc ?_ _)); exact BK293.out⟩, ⟨by (try simp only [hl299000_62]); (with_reducible repeat (first | refine blk_drewN ?_ _ | refine blk_drew ?_ | refine blk_alloc ?_ _)); exact BK298.out⟩, ⟨by (try simp only [hl299000_62]); (with_reducible repeat (first | refine blk_drewN ?_ _ | refine blk_drew ?_ | refine blk_alloc ?_ _)); exact BK304.out⟩, ⟨by (try simp only [hl299000_62]); (with_reducible repeat (first | refine blk_drewN ?_ _ | refine blk_drew ?_ | refine blk_alloc ?_ _)); exact BK326.out⟩, ⟨by repeat (first | (with_reducible first | exact HB.out | apply below_alloc | apply pw_below_drewN | apply below_drew1 | refine below_set ?_ GE282.out | refine below_set ?_ GE293.out | refine below_set ?_ GE298.out | refine below_set ?_ GE304.out | refine below_set ?_ GE326.out) | exact HB.out)⟩⟩
            case rest =>
             clear HC106
             try clear c1
             try clear c2
             try clear p2
             try clear c3
             try clear c3b0
             try clear c3b1
             try clear c4
             try clear c5
             try clear c6
             try clear c6b0
             try clear c7
             try clear c8
             try clear c9
             try clear c10
             try clear c11
             try clear c12
             try clear c13
             try clear c14
             try clear c15
             try clear c16
             try clear c17
             try clear c24
             try clear c30
             try clear c31
             try clear c36
             try clear c37
             try clear c38
             try clear c41
             try clear c42
             try clear c43
             try clear c44
             try clear c46
             try clear c47
             try clear c50
             try clear c51
             try clear c52
             try clear c54
             try clear c55
             try clear c58
             try clear c61
             try clear c68
             try clear c69
             try clear c70
             try clear c73
             try clear c73b0
             try clear c75
             try clear c76
             try clear c77
             try clear c78
             try clear c80
             try clear c81
             try clear c84
             try clear c85
             try clear c86
             try clear c88
             try clear c89
             try clear c92
             try clear c95
             try clear c95b0
             try clear c96
             try clear c97
             try clear c98
             try clear c103
             try clear c103b0
             try clear c103b1
             try clear c107
             try clear c108
             try clear c109
             try clear c114
             try clear c115
             try clear c122
             try clear c123
             try clear c124
             try clear c125
             try clear c128
             try clear c129
             try clear c130
             try clear c131
             try clear c132
             try clear c134
             try clear c135
             try clear c136
             try clear c139
             try clear c140
             try clear c141
             try clear c142
             try clear c144
             try clear c145
             try clear c146
             try clear hcz101_0
             try clear hcz101_1
             try clear hcz110_0
             try clear hcz110_1
             try clear hcz112_0
             try clear hcz112_1
             try clear hcz116_0
             try clear hcz116_1
             try clear hcz126_0
             try clear hcz126_1
             try clear hcz133_0
             try clear hcz133_1
             try clear hcz137_0
             try clear hcz137_1
             try clear hcz143_0
             try clear hcz143_1
             try clear hcz147_0
             try clear hcz147_1
             try clear hcz16_0
             try clear hcz16_1
             try clear hcz18_0
             try clear hcz18_1
             try clear hcz25_0
             try clear hcz25_1
             try clear hcz26_0
             try clear hcz26_1
             try clear hcz32_0
             try clear hcz32_1
             try clear hcz39_0
             try clear hcz39_1
             try clear hcz45_0
             try clear hcz45_1
             try clear hcz48_0
             try clear hcz48_1
             try clear hcz53_0
             try clear hcz53_1
             try clear hcz56_0
             try clear hcz56_1
             try clear hcz71_0
             try clear hcz71_1
             try clear hcz79_0
             try clear hcz79_1
             try clear hcz82_0
             try clear hcz82_1
             try clear hcz87_0
             try clear hcz87_1
             try clear hcz8_0
             try clear hcz8_1
             try clear hcz90_0
             try clear hcz90_1
             try clear hcz99_0
             try clear hcz99_1
             try clear hfz101_0
             try clear hfz101_1
             try clear hfz110_0
             try clear hfz110_1
             try clear hfz112_0
             try clear hfz112_1
             try clear hfz116_0
             try clear hfz116_1
             try clear hfz126_0
             try clear hfz126_1
             try clear hfz133_0
             try clear hfz133_1
             try clear hfz137_0
             try clear hfz137_1
             try clear hfz143_0
             try clear hfz143_1
             try clear hfz147_0
             try clear hfz147_1
             try clear hfz16_0
             try clear hfz16_1
             try clear hfz18_0
             try clear hfz18_1
             try clear hfz25_0
             try clear hfz25_1
             try clear hfz26_0
             try clear hfz26_1
             try clear hfz32_0
             try clear hfz32_1
             try clear hfz39_0
             try clear hfz39_1
             try clear hfz45_0
             try clear hfz45_1
             try clear hfz48_0
             try clear hfz48_1
             try clear hfz53_0
             try clear hfz53_1
             try clear hfz56_0
             try clear hfz56_1
             try clear hfz71_0
             try clear hfz71_1
             try clear hfz79_0
             try clear hfz79_1
             try clear hfz82_0
             try clear hfz82_1
             try clear hfz87_0
             try clear hfz87_1
             try clear hfz8_0
             try clear hfz8_1
             try clear hfz90_0
             try clear hfz90_1
             try clear hfz99_0
             try clear hfz99_1
             try clear p2
             obtain ⟨kq, x95_105, rfl, HA, HJ105, HO_294000, HO_299000, HO_305000, HO_327000, BK282, BK293, BK298, BK304, BK326, HB⟩ := hcut
             have hl305000_105 := (Kd.R_reads' HO_305000.out).1
             rw [hl305000_105] at HO_305000
             (try simp only [hl305000_105])
             (try simp only [hl305000_105] at BK282)
             (try simp only [hl305000_105] at BK293)
             (try simp only [hl305000_105] at BK298)
             (try simp only [hl305000_105] at BK304)
             (try simp only [hl305000_105] at BK326)
             (try simp only [hl305000_105] at HO_294000)
             (try simp only [hl305000_105] at HO_299000)
             (try simp only [hl305000_105] at HO_327000)
             cases kq with
             | zero => exact absurd HA.out (by simp [laws_FnExactQueuePut.j2])
             | succ kj105 =>
              have H := HA.out
              clear HA
              simp only [laws_FnExactQueuePut.j2] at H
              by_cases c149 : x95_105 = true
              ·subst c149
               have H1 : (some false) = some r := by rw [if_pos rfl] at H; exact H
               clear H
               have H := H1
               clear H1
               obtain rfl := Option.some.inj H
               go_wp2
               go_ret
               exact ⟨by first | rfl | (simp [errW_none, errW_some] <;> rfl) | (simp [*, errW_none, errW_some] <;> rfl), by repeat (first | (with_reducible first | exact HB.out | apply below_alloc | apply pw_below_drewN | apply below_drew1 | refine below_set ?_ GE282.out | refine below_set ?_ GE293.out | refine below_set ?_ GE298.out | refine below_set ?_ GE304.out | refine below_set ?_ GE326.out) | exact HB.out)⟩
              ·replace c149 := Bool.eq_false_iff.mpr c149
               subst c149
               have H1 : ((laws_heldQueue.f kj105 t315 t302 1).bind fun t328 => (if t328 < 0 then (some false) else (if t328 = t314 then (some true) else (some false)))) = some r := by rw [if_neg (show ¬ (false = true) by decide)] at H; exact H
               clear H
               have H := H1
               clear H1
               replace H := Option.bind_eq_some_iff.mp H
               obtain ⟨t328, A1500, H⟩ := H
               replace H : (if t328 < 0 then (some false) else (if t328 = t314 then (some true) else (some false))) = some r := H
               have A150 := Aside0.mk A1500
               clear A1500
               by_cases c151 : t328 < 0
               ·rw [if_pos c151] at H
                have c151b0 : decide (t328 < 0) = true := decide_eq_true c151
                clear c151
                obtain rfl := Option.some.inj H
                have hnb152 := NB304_282.out
                have hnc152 := NB282_304.out
                have hnb153 := NB304_293.out
                have hnc153 := NB293_304.out
                have hnb154 := NB304_298.out
                have hnc154 := NB298_304.out
                have hnb155 := NB304_326.out
                have hnc155 := NB326_304.out
                have hcz156_0 : wc.cell? ⟨gb304, 0, none⟩ = some (.slice Ao35 t315.length co35) := bc BK304 0
                have hcz156_1 : wc.cell? ⟨gb304, 1, none⟩ = some (.int .i64 t302) := bc BK304 1
                have hfz156_0 := blk_frozen BK304.out 0
                have hfz156_1 := blk_frozen BK304.out 1
                go_wp2_with (first | ((with_reducible refine gate_callee (f := 17) rfl ?_); refine goesL_ (some 98) rfl rfl Tryd.func17 (by kernel_rfl) rfl #[.agg #[.slice Ao35 t315.length co35, .int .i64 t302], .int .i64 1] rfl gl_ ?_; (with_reducible refine (laws_heldQueue.calls kj105 _ _ t315 t302 1 t328 _ ?side1 ?side2 A150.out).mono ?_); (case side1 => exact cN (Kd.R_reads' HO_305000.out).2.2); (case side2 => exact (Kd.R_reads' HO_305000.out).2.1); rintro e w157 ⟨rfl, hb⟩; refine ⟨_, rfl, ?_⟩; have n0_ := m_ (Kd.R_below (rN HO_294000.out) hb); have n1_ := m_ (Kd.R_below (rN HO_299000.out) hb); have n2_ := m_ (Kd.R_below (rN HO_305000.out) hb); have n3_ := m_ (Kd.R_below (rN HO_327000.out) hb); have n4_ := m_ (blk_below (kN BK282.out) hb); have n5_ := m_ (blk_below (kN BK293.out) hb); have n6_ := m_ (blk_below (kN BK298.out) hb); have n7_ := m_ (blk_below (kN BK304.out) hb); have n8_ := m_ (blk_below (kN BK326.out) hb); have n9_ := m_ (below_step (bN HB.out) hb); clear HO_294000; clear HO_299000; clear HO_305000; clear HO_327000; clear BK282; clear BK293; clear BK298; clear BK304; clear BK326; clear HB; have HO_294000 := n0_; have HO_299000 := n1_; have HO_305000 := n2_; have HO_327000 := n3_; have BK282 := n4_; have BK293 := n5_; have BK298 := n6_; have BK304 := n7_; have BK326 := n8_; have HB := n9_; clear n0_ n1_ n2_ n3_ n4_ n5_ n6_ n7_ n8_ n9_; (try clear hb); (try clear hb2); (try clear hk); (try clear hi)))
                go_ret
                exact ⟨by first | rfl | (simp [errW_none, errW_some] <;> rfl) | (simp [*, errW_none, errW_some] <;> rfl), by repeat (first | (with_reducible first | exact HB.out | apply below_alloc | apply pw_below_drewN | apply below_drew1 | refine below_set ?_ GE282.out | refine below_set ?_ GE293.out | refine below_set ?_ GE298.out | refine below_set ?_ GE304.out | refine below_set ?_ GE326.out) | exact HB.out)⟩
               ·rw [if_neg c151] at H
                have c151b0 : decide (t328 < 0) = false := decide_eq_false c151
                clear c151
                by_cases c158 : t328 = t314
                ·rw [if_pos c158] at H
                 have c158b0 : (t328 == t314) = true := beq_iff_eq.mpr c158
                 have c158b1 : (t328 != t314) = false := bne_eq_false_iff_eq.mpr c158
                 clear c158
                 obtain rfl := Option.some.inj H
                 have hnb159 := NB304_282.out
                 have hnc159 := NB282_304.out
                 have hnb160 := NB304_293.out
                 have hnc160 := NB293_304.out
                 have hnb161 := NB304_298.out
                 have hnc161 := NB298_304.out
                 have hnb162 := NB304_326.out
                 have hnc162 := NB326_304.out
                 have hcz163_0 : wc.cell? ⟨gb304, 0, none⟩ = some (.slice Ao35 t315.length co35) := bc BK304 0
                 have hcz163_1 : wc.cell? ⟨gb304, 1, none⟩ = some (.int .i64 t302) := bc BK304 1
                 have hfz163_0 := blk_frozen BK304.out 0
                 have hfz163_1 := blk_frozen BK304.out 1
                 go_wp2_with (first | ((with_reducible refine gate_callee (f := 17) rfl ?_); refine goesL_ (some 98) rfl rfl Tryd.func17 (by kernel_rfl) rfl #[.agg #[.slice Ao35 t315.length co35, .int .i64 t302], .int .i64 1] rfl gl_ ?_; (with_reducible refine (laws_heldQueue.calls kj105 _ _ t315 t302 1 t328 _ ?side1 ?side2 A150.out).mono ?_); (case side1 => exact cN (Kd.R_reads' HO_305000.out).2.2); (case side2 => exact (Kd.R_reads' HO_305000.out).2.1); rintro e w164 ⟨rfl, hb⟩; refine ⟨_, rfl, ?_⟩; have n0_ := m_ (Kd.R_below (rN HO_294000.out) hb); have n1_ := m_ (Kd.R_below (rN HO_299000.out) hb); have n2_ := m_ (Kd.R_below (rN HO_305000.out) hb); have n3_ := m_ (Kd.R_below (rN HO_327000.out) hb); have n4_ := m_ (blk_below (kN BK282.out) hb); have n5_ := m_ (blk_below (kN BK293.out) hb); have n6_ := m_ (blk_below (kN BK298.out) hb); have n7_ := m_ (blk_below (kN BK304.out) hb); have n8_ := m_ (blk_below (kN BK326.out) hb); have n9_ := m_ (below_step (bN HB.out) hb); clear HO_294000; clear HO_299000; clear HO_305000; clear HO_327000; clear BK282; clear BK293; clear BK298; clear BK304; clear BK326; clear HB; have HO_294000 := n0_; have HO_299000 := n1_; have HO_305000 := n2_; have HO_327000 := n3_; have BK282 := n4_; have BK293 := n5_; have BK298 := n6_; have BK304 := n7_; have BK326 := n8_; have HB := n9_; clear n0_ n1_ n2_ n3_ n4_ n5_ n6_ n7_ n8_ n9_; (try clear hb); (try clear hb2); (try clear hk); (try clear hi)))
                 go_ret
                 exact ⟨by first | rfl | (simp [errW_none, errW_some] <;> rfl) | (simp [*, errW_none, errW_some] <;> rfl), by repeat (first | (with_reducible first | exact HB.out | apply below_alloc | apply pw_below_drewN | apply below_drew1 | refine below_set ?_ GE282.out | refine below_set ?_ GE293.out | refine below_set ?_ GE298.out | refine below_set ?_ GE304.out | refine below_set ?_ GE326.out) | exact HB.out)⟩
                ·rw [if_neg c158] at H
                 have c158b0 : (t328 == t314) = false := beq_eq_false_iff_ne.mpr c158
                 have c158b1 : (t328 != t314) = true := bne_iff_ne.mpr c158
                 obtain rfl := Option.some.inj H
                 have hnb165 := NB304_282.out
                 have hnc165 := NB282_304.out
                 have hnb166 := NB304_293.out
                 have hnc166 := NB293_304.out
                 have hnb167 := NB304_298.out
                 have hnc167 := NB298_304.out
                 have hnb168 := NB304_326.out
                 have hnc168 := NB326_304.out
                 have hcz169_0 : wc.cell? ⟨gb304, 0, none⟩ = some (.slice Ao35 t315.length co35) := bc BK304 0
                 have hcz169_1 : wc.cell? ⟨gb304, 1, none⟩ = some (.int .i64 t302) := bc BK304 1
                 have hfz169_0 := blk_frozen BK304.out 0
                 have hfz169_1 := blk_frozen BK304.out 1
                 go_wp2_with (first | ((with_reducible refine gate_callee (f := 17) rfl ?_); refine goesL_ (some 98) rfl rfl Tryd.func17 (by kernel_rfl) rfl #[.agg #[.slice Ao35 t315.length co35, .int .i64 t302], .int .i64 1] rfl gl_ ?_; (with_reducible refine (laws_heldQueue.calls kj105 _ _ t315 t302 1 t328 _ ?side1 ?side2 A150.out).mono ?_); (case side1 => exact cN (Kd.R_reads' HO_305000.out).2.2); (case side2 => exact (Kd.R_reads' HO_305000.out).2.1); rintro e w170 ⟨rfl, hb⟩; refine ⟨_, rfl, ?_⟩; have n0_ := m_ (Kd.R_below (rN HO_294000.out) hb); have n1_ := m_ (Kd.R_below (rN HO_299000.out) hb); have n2_ := m_ (Kd.R_below (rN HO_305000.out) hb); have n3_ := m_ (Kd.R_below (rN HO_327000.out) hb); have n4_ := m_ (blk_below (kN BK282.out) hb); have n5_ := m_ (blk_below (kN BK293.out) hb); have n6_ := m_ (blk_below (kN BK298.out) hb); have n7_ := m_ (blk_below (kN BK304.out) hb); have n8_ := m_ (blk_below (kN BK326.out) hb); have n9_ := m_ (below_step (bN HB.out) hb); clear HO_294000; clear HO_299000; clear HO_305000; clear HO_327000; clear BK282; clear BK293; clear BK298; clear BK304; clear BK326; clear HB; have HO_294000 := n0_; have HO_299000 := n1_; have HO_305000 := n2_; have HO_327000 := n3_; have BK282 := n4_; have BK293 := n5_; have BK298 := n6_; have BK304 := n7_; have BK326 := n8_; have HB := n9_; clear n0_ n1_ n2_ n3_ n4_ n5_ n6_ n7_ n8_ n9_; (try clear hb); (try clear hb2); (try clear hk); (try clear hi)))
                 go_ret
                 exact ⟨by first | rfl | (simp [errW_none, errW_some] <;> rfl) | (simp [*, errW_none, errW_some] <;> rfl), by repeat (first | (with_reducible first | exact HB.out | apply below_alloc | apply pw_below_drewN | apply below_drew1 | refine below_set ?_ GE282.out | refine below_set ?_ GE293.out | refine below_set ?_ GE298.out | refine below_set ?_ GE304.out | refine below_set ?_ GE326.out) | exact HB.out)⟩
           ·rw [if_neg c103] at H
            have c103b0 : (t316 == t314) = false := beq_eq_false_iff_ne.mpr c103
            have c103b1 : (t316 != t314) = true := bne_iff_ne.mpr c103
            obtain rfl := Option.some.inj H
            have hnb171 := NB304_282.out
            have hnc171 := NB282_304.out
            have hnb172 := NB304_293.out
            have hnc172 := NB293_304.out
            have hnb173 := NB304_298.out
            have hnc173 := NB298_304.out
            have hcz174_0 : wc.cell? ⟨gb304, 0, none⟩ = some (.slice Ao35 t299.length co35) := bc BK304 0
            have hcz174_1 : wc.cell? ⟨gb304, 1, none⟩ = some (.int .i64 t302) := bc BK304 1
            have hfz174_0 := blk_frozen BK304.out 0
            have hfz174_1 := blk_frozen BK304.out 1
            go_wp2_with (first | ((with_reducible refine gate_callee (f := 16) rfl ?_); refine goesL_ (some 71) rfl rfl Tryd.func16 (by kernel_rfl) rfl #[.agg #[.slice Ao35 t299.length co35, .int .i64 t302], .int .i64 1] rfl gl_ ?_; (with_reducible refine (laws_markQueue.calls kj62 (fun k_ => some k_ = (.slice Ao35 t299.length co35 : Value).ownBlock) (.slice Ao35 t299.length co35) t299 t302 1 t314 t315 w _ ?side1 ?side2 A93.out).mono ?_); (case side1 => repeat (first | (with_reducible first | exact HB.out | apply below_alloc | apply pw_below_drewN | apply below_drew1 | refine below_set ?_ GE282.out | refine below_set ?_ GE293.out | refine below_set ?_ GE298.out | refine below_set ?_ GE304.out) | exact HB.out)); (case side2 => exact Kd.R_tight rfl HO_305000.out); rintro e w175 ⟨rfl, hy0, hb, hkp⟩; refine ⟨_, rfl, ?_⟩; have n0_ := m_ (Kd.R_mono (ok' := fun k_ => nb Ao29 t312.length co29 k_ ∧ nb Ao35 t299.length co35 k_) (Kd.R_keptB (HO_294000.out) hkp (fun k_ hk_ hs_ => (hk_.2) hs_)) (fun k_ hk_ => ⟨hk_.1.1, hk_.1.2⟩)); have n1_ := m_ (Kd.R_mono (ok' := fun k_ => nb Ao23 t288.length co23 k_ ∧ nb Ao35 t299.length co35 k_) (Kd.R_keptB (HO_299000.out) hkp (fun k_ hk_ hs_ => (hk_.2) hs_)) (fun k_ hk_ => ⟨hk_.1.1, hk_.1.2⟩)); have n2_ := m_ (Kd.R_reok rfl hy0 (fun k_ e_ => HO_305000.out.1 k_ e_)); have n3_ := m_ (blk_kept (kN BK282.out) hkp (fun hs_ => (fun e_ => (Kd.R_ne HO_305000.out BK282.out (by decide)) e_) hs_)); have n4_ := m_ (blk_kept (kN BK293.out) hkp (fun hs_ => (fun e_ => (Kd.R_ne HO_305000.out BK293.out (by decide)) e_) hs_)); have n5_ := m_ (blk_kept (kN BK298.out) hkp (fun hs_ => (fun e_ => (Kd.R_ne HO_305000.out BK298.out (by decide)) e_) hs_)); have n6_ := m_ (blk_kept (kN BK304.out) hkp (fun hs_ => (fun e_ => (Kd.R_ne HO_305000.out BK304.out (by decide)) e_) hs_)); have n7_ := m_ (hb); clear HO_294000; clear HO_299000; clear HO_305000; clear BK282; clear BK293; clear BK298; clear BK304; clear HB; have HO_294000 := n0_; have HO_299000 := n1_; have HO_305000 := n2_; have BK282 := n3_; have BK293 := n4_; have BK298 := n5_; have BK304 := n6_; have HB := n7_; clear n0_ n1_ n2_ n3_ n4_ n5_ n6_ n7_; (try clear hb); (try clear hkp); (try clear hy0); have hcz176_0 : w175.cell? ⟨gb304, 0, none⟩ = some (.slice Ao35 t299.length co35) := bc BK304 0; have hcz176_1 : w175.cell? ⟨gb304, 1, none⟩ = some (.int .i64 t302) := bc BK304 1; have hfz176_0 := blk_frozen BK304.out 0; have hfz176_1 := blk_frozen BK304.out 1) | ((with_reducible refine gate_callee (f := 17) rfl ?_); refine goesL_ (some 74) rfl rfl Tryd.func17 (by kernel_rfl) rfl #[.agg #[.slice Ao35 t315.length co35, .int .i64 t302], .int .i64 1] rfl (by (try simp only [List.map_toArray, List.map_cons, List.map_nil]); first | done | (rw [show t315.length = t299.length from (Kd.R_reads' HO_305000.out).1.symm] <;> rfl) | rfl | (simp only [List.length_drop, List.length_take]; rfl)) ?_; (with_reducible refine (laws_heldQueue.calls kj62 _ _ t315 t302 1 t316 _ ?side1 ?side2 A94.out).mono ?_); (case side1 => exact cN (Kd.R_reads' HO_305000.out).2.2); (case side2 => rw [show t315.length = t299.length from (Kd.R_reads' HO_305000.out).1.symm]; exact (Kd.R_reads' HO_305000.out).2.1); rintro e w177 ⟨rfl, hb⟩; refine ⟨_, rfl, ?_⟩; have n0_ := m_ (Kd.R_below (rN HO_294000.out) hb); have n1_ := m_ (Kd.R_below (rN HO_299000.out) hb); have n2_ := m_ (Kd.R_below (rN HO_305000.out) hb); have n3_ := m_ (blk_below (kN BK282.out) hb); have n4_ := m_ (blk_below (kN BK293.out) hb); have n5_ := m_ (blk_below (kN BK298.out) hb); have n6_ := m_ (blk_below (kN BK304.out) hb); have n7_ := m_ (below_step (bN HB.out) hb); clear HO_294000; clear HO_299000; clear HO_305000; clear BK282; clear BK293; clear BK298; clear BK304; clear HB; have HO_294000 := n0_; have HO_299000 := n1_; have HO_305000 := n2_; have BK282 := n3_; have BK293 := n4_; have BK298 := n5_; have BK304 := n6_; have HB := n7_; clear n0_ n1_ n2_ n3_ n4_ n5_ n6_ n7_; (try clear hb); (try clear hb2); (try clear hk); (try clear hi)))
            go_ret
            exact ⟨by first | rfl | (simp [errW_none, errW_some] <;> rfl) | (simp [*, errW_none, errW_some] <;> rfl), by repeat (first | (with_reducible first | exact HB.out | apply below_alloc | apply pw_below_drewN | apply below_drew1 | refine below_set ?_ GE282.out | refine below_set ?_ GE293.out | refine below_set ?_ GE298.out | refine below_set ?_ GE304.out) | exact HB.out)⟩
      ·replace c61 := Bool.eq_false_iff.mpr c61
       subst c61
       have H1 : (some false) = some r := by rw [if_neg (show ¬ (false = true) by decide)] at H; exact H
       clear H
       have H := H1
       clear H1
       obtain rfl := Option.some.inj H
       try go_wp2
       have n0_ := m_ (Kd.R_drew HO_294000.out)
       have n1_ := m_ (Kd.R_drew HO_299000.out)
       have n2_ := m_ (Kd.R_drew HO_305000.out)
       have n3_ := m_ (blk_drew BK282.out)
       have n4_ := m_ (blk_drew BK293.out)
       have n5_ := m_ (blk_drew BK298.out)
       have n6_ := m_ (blk_drew BK304.out)
       have n7_ := m_ (below_drew1 HB.out)
       clear HO_294000
       clear HO_299000
       clear HO_305000
       clear BK282
       clear BK293
       clear BK298
       clear BK304
       clear HB
       have HO_294000 := n0_
       have HO_299000 := n1_
       have HO_305000 := n2_
       have BK282 := n3_
       have BK293 := n4_
       have BK298 := n5_
       have BK304 := n6_
       have HB := n7_
       clear n0_ n1_ n2_ n3_ n4_ n5_ n6_ n7_
       refine start_ (n := 5) (S := fun w' => w'.cell? ⟨gb298, 0, none⟩ = some (.slice Ao29 t294.length co29) ∧ w'.cell? ⟨gb298, 1, none⟩ = some (.int .i64 t297) ∧ w'.cell? ⟨gb282, 0, none⟩ = some (.slice A0_0 l0_0.length c0_0) ∧ w'.cell? ⟨gb282, 1, none⟩ = some (.int .i64 a0_1)) (ds := []) #[false, false, false, false, false] (by kernel_rfl) rfl rfl ⟨bc BK298 0, bc BK298 1, bc BK282 0, bc BK282 1⟩ (fun hHeld => ?_)
       generalize wc.drew = w178 at HO_294000 HO_299000 HO_305000 BK282 BK293 BK298 BK304 HB hHeld ⊢
       refine take_ (i := 0) (N := some 48) (v := ?_) (a' := ?_) #[true, false, false, false, false] rfl rfl (by kernel_rfl) (fun _ _ _ h => h) (Or.inl ⟨by rfl, ?_⟩) hHeld ?_ ?_
       rotate_left
       ·rintro w' ⟨s0, s1, s2, s3⟩
        go_simp
        with_reducible rfl
       rotate_left
       ·simp only [Act.put, List.setIfInBounds_toArray, List.set_cons_zero, List.set_cons_succ, i64_w, i32_w]
        rfl
       refine take_ (i := 1) (N := some 49) (v := ?_) (a' := ?_) #[true, true, false, false, false] rfl rfl (by kernel_rfl) (fun _ _ _ h => h) (Or.inl ⟨by rfl, ?_⟩) hHeld ?_ ?_
       rotate_left
       ·rintro w' ⟨s0, s1, s2, s3⟩
        go_simp
        with_reducible rfl
       rotate_left
       ·simp only [Act.put, List.setIfInBounds_toArray, List.set_cons_zero, List.set_cons_succ, i64_w, i32_w]
        rfl
       refine one_ (i := 2) (N := some 50) #[true, true, true, false, false] rfl rfl (by kernel_rfl) (by decide) (fun K hK => ?_)
       refine goes_ Tryd.func11 (by kernel_rfl) rfl #[.agg #[.slice A0_0 l0_0.length c0_0, .int .i64 a0_1]] (by rfl) rfl rfl gl_ ?_
       with_reducible refine (laws_toQueue.calls kj13 _ _ l0_0 a0_1 t306 t309 _ ?side1 ?side2 A59.out).mono ?_
       (case side1 => exact cN (Kd.C_below HR0_0.out HB.out))
       (case side2 => exact HC0_0.out)
       rintro e w179 ⟨v307, rfl, ho0, hb⟩
       refine ⟨_, rfl, ?_⟩
       have n0_ := m_ (Kd.R_elder' (rN HO_294000.out) (Kd.R_base ho0) hb)
       have n1_ := m_ (Kd.R_elder' (rN HO_299000.out) (Kd.R_base ho0) hb)
       have n2_ := m_ (Kd.R_elder' (rN HO_305000.out) (Kd.R_base ho0) hb)
       have n3_ := m_ (Kd.R_lower (Kd.R_new' (Kd.R_new' (Kd.R_new' ho0 (Kd.R_lt (rN HO_294000.out))) (Kd.R_lt (rN HO_299000.out))) (Kd.R_lt (rN HO_305000.out))) (below_size (bN HB.out)))
       have n4_ := m_ (blk_below (kN BK282.out) hb)
       have n5_ := m_ (blk_below (kN BK293.out) hb)
       have n6_ := m_ (blk_below (kN BK298.out) hb)
       have n7_ := m_ (blk_below (kN BK304.out) hb)
       have n8_ := m_ (below_step (bN HB.out) hb)
       clear HO_294000
       clear HO_299000
       clear HO_305000
       clear BK282
       clear BK293
       clear BK298
       clear BK304
       clear HB
       have HO_294000 := n0_
       have HO_299000 := n1_
       have HO_305000 := n2_
       have HO308 := n3_
       have BK282 := n4_
       have BK293 := n5_
       have BK298 := n6_
       have BK304 := n7_
       have HB := n8_
       clear n0_ n1_ n2_ n3_ n4_ n5_ n6_ n7_ n8_
       (try clear hb)
       (try clear hb2)
       (try clear hk)
       (try clear hi)
       (try clear ho0)
       obtain ⟨Ao180, co180, eo180⟩ := Kd.R_slice HO308.out
       (first | subst eo180 | (injection eo180 with f1_ f2_ f3_; have f4_ := f1_.symm; have f5_ := f3_.symm; clear f1_ f2_ f3_; subst f4_; subst f5_))
       refine hK.out _ _ ⟨bc BK298 0, bc BK298 1, bc BK282 0, bc BK282 1⟩ (fun hHeld => ?_)
       clear hK K
       refine np (h := ?_)
       refine one_ (i := 3) (N := some 51) #[true, true, true, true, false] rfl rfl (by kernel_rfl) (by decide) (fun K hK => ?_)
       refine goes_ Tryd.func13 (by kernel_rfl) rfl #[.agg #[.slice Ao29 t294.length co29, .int .i64 t297], .agg #[.slice Ao180 t306.length co180, .int .i64 t309]] (by rfl) rfl rfl gl_ ?_
       with_reducible refine (laws_eqQueue.calls kj13 _ _ t294 t297 _ _ t306 t309 false _ ?side1 ?side2 ?side3 ?side4 A60.out).mono ?_
       (case side1 => exact cN (Kd.R_reads' HO_299000.out).2.2)
       (case side2 => exact (Kd.R_reads' HO_299000.out).2.1)
       (case side3 => exact cN (Kd.R_reads' HO308.out).2.2)
       (case side4 => exact (Kd.R_reads' HO308.out).2.1)
       rintro e w181 ⟨rfl, hb⟩
       refine ⟨_, rfl, ?_⟩
       have n0_ := m_ (Kd.R_below (rN HO_294000.out) hb)
       have n1_ := m_ (Kd.R_below (rN HO_299000.out) hb)
       have n2_ := m_ (Kd.R_below (rN HO_305000.out) hb)
       have n3_ := m_ (Kd.R_below (rN HO308.out) hb)
       have n4_ := m_ (blk_below (kN BK282.out) hb)
       have n5_ := m_ (blk_below (kN BK293.out) hb)
       have n6_ := m_ (blk_below (kN BK298.out) hb)
       have n7_ := m_ (blk_below (kN BK304.out) hb)
       have n8_ := m_ (below_step (bN HB.out) hb)
       clear HO_294000
       clear HO_299000
       clear HO_305000
       clear HO308
       clear BK282
       clear BK293
       clear BK298
       clear BK304
       clear HB
       have HO_294000 := n0_
       have HO_299000 := n1_
       have HO_305000 := n2_
       have HO308 := n3_
       have BK282 := n4_
       have BK293 := n5_
       have BK298 := n6_
       have BK304 := n7_
       have HB := n8_
       clear n0_ n1_ n2_ n3_ n4_ n5_ n6_ n7_ n8_
       (try clear hb)
       (try clear hb2)
       (try clear hk)
       (try clear hi)
       refine hK.out _ _ ⟨bc BK298 0, bc BK298 1, bc BK282 0, bc BK282 1⟩ (fun hHeld => ?_)
       clear hK K
       refine np (h := ?_)
       refine pure_ (i := 4) (N := some 52) (v := ?_) (a' := ?_) #[true, true, true, true, true] rfl rfl (by kernel_rfl) (fun _ _ _ h => h) (Or.inl ⟨by rfl, ?_⟩) ?_ ?_
       rotate_left
       ·intro w'
        go_simp
        with_reducible rfl
       rotate_left
       ·simp only [Act.put, List.setIfInBounds_toArray, List.set_cons_zero, List.set_cons_succ, i64_w, i32_w]
        rfl
       refine done_ (by kernel_rfl) ?_
       try go_wp2
       go_ret
       exact ⟨by first | rfl | (simp [errW_none, errW_some] <;> rfl) | (simp [*, errW_none, errW_some] <;> rfl), by repeat (first | (with_reducible first | exact HB.out | apply below_alloc | apply pw_below_drewN | apply below_drew1 | refine below_set ?_ GE282.out | refine below_set ?_ GE293.out | refine below_set ?_ GE298.out | refine below_set ?_ GE304.out) | exact HB.out)⟩

end Go.Proofs.YtokpagopokkjfaaDoor.P
