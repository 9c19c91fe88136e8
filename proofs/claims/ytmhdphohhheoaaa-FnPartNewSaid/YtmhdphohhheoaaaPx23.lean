/- The machine side of these statements, function by function: what each Go function answers (as a Lean function), and that it does. Written by a program (mp.py) for this claim. -/
import Derived.Test.YtmhdphohhheoaaaPx0
import Derived.Test.YtmhdphohhheoaaaPx4
import Derived.Test.YtmhdphohhheoaaaPx6
import Derived.Test.YtmhdphohhheoaaaPx9
import Derived.Test.YtmhdphohhheoaaaPx10
import Derived.Test.YtmhdphohhheoaaaPx14
import Derived.Test.YtmhdphohhheoaaaPx15
import Derived.Test.YtmhdphohhheoaaaPx22
namespace Go.Proofs.Ytmhdphohhheoaaa.P
open Go.RowKit Go.Proofs.YtmhdphohhheoaaaW.PrintWords Go.Proofs.YtmhdphohhheoaaaW.PrintLast Go.Proofs.YtmhdphohhheoaaaW.PrintMore
attribute [local go_sem] max2_int min2_int max_two min_two max_three min_three max_four min_four   -- for this text's walks alone
set_option linter.unusedVariables false
set_option linter.unusedSimpArgs false

/-! ### laws_FnPartNew: function 4 -/
def laws_FnPartNew.j0 : Nat → List (S53) → Bool → List (S53) → List Int → Int → Bool → List Int → Option (Bool)
 | 0, _, _, _, _, _, _, _ => none
 | k + 1, x3, x23, x294000, x294001, x294002, x294003, x294004 => if x23 = true then (some false) else ((impl_PartOk.f k x294000 x294001 x294002 x294003 x294004).bind fun t308 => ((spec_ProgOk.f k x3).bind fun t309 => (if (t308 == t309) = true then (if x294002 = 0 then (if x294003 = true then (some false) else (some ((x294004.length : Int) == 0))) else (some false)) else (some false))))
def laws_FnPartNew.f (k : Nat) (l0 : List Int) : Option (Bool) := if (l0.length : Int) > 1048576 then (some true) else ((spec_DrawPartNew.f k l0).bind fun t279 => ((impl_PartNew.f k t279).bind fun bt282 => ((spec_PartNew.f k t279).bind fun bt294 => ((laws_skPart.f k bt282.1 bt282.2.1 bt282.2.2.1 bt282.2.2.2.1 bt282.2.2.2.2 bt294.1 bt294.2.1 bt294.2.2.1 bt294.2.2.2.1 bt294.2.2.2.2).bind fun t305 => (if t305 = true then ((impl_ProgOk.f k t279).bind fun t306 => ((spec_ProgOk.f k t279).bind fun t307 => (laws_FnPartNew.j0 k t279 (t306 != t307) bt282.1 bt282.2.1 bt282.2.2.1 bt282.2.2.2.1 bt282.2.2.2.2))) else (laws_FnPartNew.j0 k t279 true bt282.1 bt282.2.1 bt282.2.2.1 bt282.2.2.2.1 bt282.2.2.2.2))))))
theorem laws_FnPartNew.mono_l : ∀ k, (∀ y0 y1 y2 y3 y4 y5 y6, LeO (laws_FnPartNew.j0 k y0 y1 y2 y3 y4 y5 y6) (laws_FnPartNew.j0 (k + 1) y0 y1 y2 y3 y4 y5 y6))
 | 0 => fun _ _ _ _ _ _ _ r h => by simp [laws_FnPartNew.j0] at h
 | k + 1 => by
  have ih0 := laws_FnPartNew.mono_l k
  ·intro y0 y1 y2 y3 y4 y5 y6
   unfold laws_FnPartNew.j0
   repeat' first
   | (with_reducible exact ih0 _ _ _ _ _ _ _)
   | (with_reducible exact impl_PartNew.mono _ _)
   | (with_reducible exact impl_PartOk.mono _ _ _ _ _ _)
   | (with_reducible exact impl_ProgOk.mono _ _)
   | (with_reducible exact laws_skPart.mono _ _ _ _ _ _ _ _ _ _ _)
   | (with_reducible exact spec_DrawPartNew.mono _ _)
   | (with_reducible exact spec_PartNew.mono _ _)
   | (with_reducible exact spec_ProgOk.mono _ _)
   | (with_reducible exact LeO.refl _)
   | (with_reducible exact LeO.none _)
   | (with_reducible refine LeO.ite ?_ ?_)
   | (with_reducible refine LeO.bind ?_ (fun _ => ?_))
   | exact ih0 _ _ _ _ _ _ _
   | exact impl_PartNew.mono _ _
   | exact impl_PartOk.mono _ _ _ _ _ _
   | exact impl_ProgOk.mono _ _
   | exact laws_skPart.mono _ _ _ _ _ _ _ _ _ _ _
   | exact spec_DrawPartNew.mono _ _
   | exact spec_PartNew.mono _ _
   | exact spec_ProgOk.mono _ _
   | exact LeO.none _
   | refine LeO.ite ?_ ?_
   | refine LeO.bind ?_ (fun _ => ?_)
theorem laws_FnPartNew.mono : ∀ a0 k, LeO (laws_FnPartNew.f k a0) (laws_FnPartNew.f (k + 1) a0) := by
 intro a0 k
 have ih0 := laws_FnPartNew.mono_l k
 unfold laws_FnPartNew.f
 repeat' first
   | (with_reducible exact ih0 _ _ _ _ _ _ _)
   | (with_reducible exact impl_PartNew.mono _ _)
   | (with_reducible exact impl_PartOk.mono _ _ _ _ _ _)
   | (with_reducible exact impl_ProgOk.mono _ _)
   | (with_reducible exact laws_skPart.mono _ _ _ _ _ _ _ _ _ _ _)
   | (with_reducible exact spec_DrawPartNew.mono _ _)
   | (with_reducible exact spec_PartNew.mono _ _)
   | (with_reducible exact spec_ProgOk.mono _ _)
   | (with_reducible exact LeO.refl _)
   | (with_reducible exact LeO.none _)
   | (with_reducible refine LeO.ite ?_ ?_)
   | (with_reducible refine LeO.bind ?_ (fun _ => ?_))
   | exact ih0 _ _ _ _ _ _ _
   | exact impl_PartNew.mono _ _
   | exact impl_PartOk.mono _ _ _ _ _ _
   | exact impl_ProgOk.mono _ _
   | exact laws_skPart.mono _ _ _ _ _ _ _ _ _ _ _
   | exact spec_DrawPartNew.mono _ _
   | exact spec_PartNew.mono _ _
   | exact spec_ProgOk.mono _ _
   | exact LeO.none _
   | refine LeO.ite ?_ ?_
   | refine LeO.bind ?_ (fun _ => ?_)
def laws_FnPartNew.T5 : Bool × List (List Nat × List Nat) := (true, [([], []), ([], []), ([1], [1]), ([0, 2, 2], [0, 2]), ([3], [3]), ([4, 3], [4]), ([5], [5]), ([6, 5, 5], [5, 6]), ([5], [5]), ([8, 7, 5], [5, 8]), ([7, 9, 5], [5, 7, 9]), ([5, 10], [5, 10])])
def laws_FnPartNew.B5 : List Nat := [0, 0, 2, 7, 15, 31, 63, 127, 63, 511, 1023, 2047]
theorem laws_FnPartNew.tab5 : rtab .any (opsOf Try.f4 5) = laws_FnPartNew.T5 := by kernel_rfl
theorem laws_FnPartNew.bits5 : waitsOk laws_FnPartNew.T5.2 laws_FnPartNew.B5 = true := by kernel_rfl
set_option maxHeartbeats 8000000 in
set_option maxRecDepth 100000 in
theorem laws_FnPartNew.calls (k : Nat) (A0 : Option Addr) (c0 : Nat) (l0 : List Int) (r : Bool) (w : World) (hr0 : Kd.C (Kd.int .u8) w A0 l0.length l0) (hc0 : l0.length ≤ c0) (h : laws_FnPartNew.f k l0 = some r) :
  Calls Try.prog 4 #[.slice A0 l0.length c0] w fun e w' => e = .returned (.bool r) ∧ Below w.heap.size w w' := by
 have hu33 := Try.underlying33
 have HR0 := Aside0.mk hr0
 have HC0 := Aside0.mk hc0
 clear hr0 hc0
 have HB := m_ (Below.refl w.heap.size w)
 have H : (if (l0.length : Int) > 1048576 then (some true) else ((spec_DrawPartNew.f k l0).bind fun t279 => ((impl_PartNew.f k t279).bind fun bt282 => ((spec_PartNew.f k t279).bind fun bt294 => ((laws_skPart.f k bt282.1 bt282.2.1 bt282.2.2.1 bt282.2.2.2.1 bt282.2.2.2.2 bt294.1 bt294.2.1 bt294.2.2.1 bt294.2.2.2.1 bt294.2.2.2.2).bind fun t305 => (if t305 = true then ((impl_ProgOk.f k t279).bind fun t306 => ((spec_ProgOk.f k t279).bind fun t307 => (laws_FnPartNew.j0 k t279 (t306 != t307) bt282.1 bt282.2.1 bt282.2.2.1 bt282.2.2.2.1 bt282.2.2.2.2))) else (laws_FnPartNew.j0 k t279 true bt282.1 bt282.2.1 bt282.2.2.1 bt282.2.2.2.1 bt282.2.2.2.2))))))) = some r := h
 clear h
 by_cases c2 : (l0.length : Int) > 1048576
 ·rw [if_pos c2] at H
  have c2b0 : decide (1048576 < (l0.length : Int)) = true := decide_eq_true c2
  have c2b1 : decide (1048576 < l0.length) = true := decide_eq_true (by omega)
  clear c2
  obtain rfl := Option.some.inj H
  go_enter Try.func4, Try.ntmps4
  go_wp2
  go_ret
  exact ⟨by first | rfl | (simp [errW_none, errW_some] <;> rfl) | (simp [*, errW_none, errW_some] <;> rfl), by repeat (first | (with_reducible first | exact HB.out | apply below_alloc | apply pw_below_drewN | apply below_drew1) | exact HB.out)⟩
 ·rw [if_neg c2] at H
  have c2b0 : decide (1048576 < (l0.length : Int)) = false := decide_eq_false c2
  have c2b1 : decide (1048576 < l0.length) = false := decide_eq_false (by omega)
  clear c2
  replace H := Option.bind_eq_some_iff.mp H
  obtain ⟨t279, A30, H⟩ := H
  replace H : ((impl_PartNew.f k t279).bind fun bt282 => ((spec_PartNew.f k t279).bind fun bt294 => ((laws_skPart.f k bt282.1 bt282.2.1 bt282.2.2.1 bt282.2.2.2.1 bt282.2.2.2.2 bt294.1 bt294.2.1 bt294.2.2.1 bt294.2.2.2.1 bt294.2.2.2.2).bind fun t305 => (if t305 = true then ((impl_ProgOk.f k t279).bind fun t306 => ((spec_ProgOk.f k t279).bind fun t307 => (laws_FnPartNew.j0 k t279 (t306 != t307) bt282.1 bt282.2.1 bt282.2.2.1 bt282.2.2.2.1 bt282.2.2.2.2))) else (laws_FnPartNew.j0 k t279 true bt282.1 bt282.2.1 bt282.2.2.1 bt282.2.2.2.1 bt282.2.2.2.2))))) = some r := H
  have A3 := Aside0.mk A30
  clear A30
  replace H := Option.bind_eq_some_iff.mp H
  obtain ⟨⟨t282, t285, t288, t289, t290⟩, A40, H⟩ := H
  replace H : ((spec_PartNew.f k t279).bind fun bt294 => ((laws_skPart.f k t282 t285 t288 t289 t290 bt294.1 bt294.2.1 bt294.2.2.1 bt294.2.2.2.1 bt294.2.2.2.2).bind fun t305 => (if t305 = true then ((impl_ProgOk.f k t279).bind fun t306 => ((spec_ProgOk.f k t279).bind fun t307 => (laws_FnPartNew.j0 k t279 (t306 != t307) t282 t285 t288 t289 t290))) else (laws_FnPartNew.j0 k t279 true t282 t285 t288 t289 t290)))) = some r := H
  have A4 := Aside0.mk A40
  clear A40
  have HC5 := Aside0.mk H
  clear H
  go_enter Try.func4, Try.ntmps4
  go_upto_region 5 with (first | ((with_reducible refine gate_callee (f := 14) rfl ?_); refine goesL_ (some 9) rfl rfl Try.func14 (by kernel_rfl) rfl #[.slice A0 l0.length c0] rfl gl_ ?_; (with_reducible refine (spec_DrawPartNew.calls k _ _ l0 t279 _ ?side1 ?side2 A3.out).mono ?_); (case side1 => exact cN HR0.out); (case side2 => exact HC0.out); rintro e w6 ⟨v280, rfl, ho0, hb⟩; refine ⟨_, rfl, ?_⟩; have n0_ := m_ (Kd.R_lower ho0 (below_size (bN HB.out))); have n1_ := m_ (below_step (bN HB.out) hb); clear HB; have HO281 := n0_; have HB := n1_; clear n0_ n1_; (try clear hb); (try clear hb2); (try clear hk); (try clear hi); (try clear ho0); obtain ⟨Ao7, co7, eo7⟩ := Kd.R_slice HO281.out; subst eo7) | ((with_reducible refine gate_callee (f := 15) rfl ?_); refine goesL_ (some 11) rfl rfl Try.func15 (by kernel_rfl) rfl #[.slice Ao7 t279.length co7] rfl gl_ ?_; (with_reducible refine (impl_PartNew.calls k _ _ t279 t282 t285 t288 t289 t290 _ ?side1 ?side2 A4.out).mono ?_); (case side1 => exact cN (Kd.R_reads' HO281.out).2.2); (case side2 => exact (Kd.R_reads' HO281.out).2.1); rintro e w8 ⟨v283, v286, v291, rfl, ho0, ho1, ho2, hb⟩; refine ⟨_, rfl, ?_⟩; have n0_ := m_ (Kd.R_elder' (rN HO281.out) (Kd.R_base ho0) hb); have n1_ := m_ (Kd.R_lower (Kd.R_new' ho0 (Kd.R_lt (rN HO281.out))) (below_size (bN HB.out))); have n2_ := m_ (Kd.R_lower ho1 (below_size (bN HB.out))); have n3_ := m_ (Kd.R_lower ho2 (below_size (bN HB.out))); have n4_ := m_ (below_step (bN HB.out) hb); clear HO281; clear HB; have HO281 := n0_; have HO284 := n1_; have HO287 := n2_; have HO292 := n3_; have HB := n4_; clear n0_ n1_ n2_ n3_ n4_; (try clear hb); (try clear hb2); (try clear hk); (try clear hi); (try clear ho0); (try clear ho1); (try clear ho2)) | ((with_reducible refine gate_dst (N := 4) rfl ?_); refine box_event ?hg (N := 4) ?hd (cs := #[.slice none 0 0, .slice none 0 0, .int .i64 0, .bool false, .slice none 0 0]) (t := 33) ?hr ?_; (case hd => rfl); (case hg => rfl); (case hr => first | (go_simp; done) | (go_simp; rfl)); intro gb293 hg w9 hbox hb; have n0_ := m_ (Kd.R_below (rN HO281.out) hb); have n1_ := m_ (Kd.R_below (rN HO284.out) hb); have n2_ := m_ (Kd.R_below (rN HO287.out) hb); have n3_ := m_ (Kd.R_below (rN HO292.out) hb); have n4_ := m_ (below_step (bN HB.out) hb); have n5_ := m_ (hbox); have n6_ := m_ ((by rw [hg]; exact (below_size (bN HB.out)) : w.heap.size ≤ gb293)); have n7_ := m_ ((by rw [hg]; exact (below_size (bN HB.out)) : w.heap.size ≤ gb293)); clear HO281; clear HO284; clear HO287; clear HO292; clear HB; have HO281 := n0_; have HO284 := n1_; have HO287 := n2_; have HO292 := n3_; have HB := n4_; have BK293 := n5_; have GW293 := n6_; have GE293 := n7_; clear n0_ n1_ n2_ n3_ n4_ n5_ n6_ n7_; clear hb hbox hg; obtain ⟨Ao10, co10, eo10⟩ := Kd.R_slice HO284.out; subst eo10; have hcz11_0 : w9.cell? ⟨gb293, 0, none⟩ = some (.slice none 0 0) := (blk_cell BK293.out 0).trans rfl; have hcz11_1 : w9.cell? ⟨gb293, 1, none⟩ = some (.slice none 0 0) := (blk_cell BK293.out 1).trans rfl; have hcz11_2 : w9.cell? ⟨gb293, 2, none⟩ = some (.int .i64 0) := (blk_cell BK293.out 2).trans rfl; have hcz11_3 : w9.cell? ⟨gb293, 3, none⟩ = some (.bool false) := (blk_cell BK293.out 3).trans rfl; have hcz11_4 : w9.cell? ⟨gb293, 4, none⟩ = some (.slice none 0 0) := (blk_cell BK293.out 4).trans rfl; have hfz11_0 := blk_frozen BK293.out 0; have hfz11_1 := blk_frozen BK293.out 1; have hfz11_2 := blk_frozen BK293.out 2; have hfz11_3 := blk_frozen BK293.out 3; have hfz11_4 := blk_frozen BK293.out 4; obtain ⟨Ao12, co12, eo12⟩ := Kd.R_slice HO287.out; subst eo12; obtain ⟨Ao13, co13, eo13⟩ := Kd.R_slice HO292.out; subst eo13))
  (try simp only [Act.put, List.setIfInBounds_toArray, List.set_cons_zero, List.set_cons_succ])
  go_cut [23] (fun v23 wc => ∃ (kq : Nat) (x23_4 : Bool), v23 = .bool x23_4 ∧ Aside0 (laws_FnPartNew.j0 kq t279 x23_4 t282 t285 t288 t289 t290 = some r) ∧ Aside0 (kq ≤ k) ∧ Aside0 (Kd.R k53 53 wc w.heap.size (fun k_ => some k_ ≠ ((.slice Ao10 t282.length co10) : Value).ownBlock) (.slice Ao7 t279.length co7) t279) ∧ Aside0 (Kd.R k53 53 wc w.heap.size (fun k_ => some k_ ≠ ((.slice Ao7 t279.length co7) : Value).ownBlock) (.slice Ao10 t282.length co10) t282) ∧ Aside0 (Kd.R (Kd.int .i64) 3 wc w.heap.size (fun k_ => some k_ ≠ ((.slice Ao13 t290.length co13) : Value).ownBlock) (.slice Ao12 t285.length co12) t285) ∧ Aside0 (Kd.R (Kd.int .i64) 3 wc w.heap.size (fun k_ => some k_ ≠ ((.slice Ao12 t285.length co12) : Value).ownBlock) (.slice Ao13 t290.length co13) t290) ∧ Aside0 (wc.heap[gb293]? = some (.cells #[(.slice Ao10 t282.length co10), (.slice Ao12 t285.length co12), .int .i64 t288, .bool t289, (.slice Ao13 t290.length co13)] 33 (0, 0))) ∧ Aside0 (Below w.heap.size w wc))
  case first =>
   have H := HC5.out
   clear HC5
   replace H := Option.bind_eq_some_iff.mp H
   obtain ⟨⟨t294, t297, t300, t301, t302⟩, A140, H⟩ := H
   replace H : ((laws_skPart.f k t282 t285 t288 t289 t290 t294 t297 t300 t301 t302).bind fun t305 => (if t305 = true then ((impl_ProgOk.f k t279).bind fun t306 => ((spec_ProgOk.f k t279).bind fun t307 => (laws_FnPartNew.j0 k t279 (t306 != t307) t282 t285 t288 t289 t290))) else (laws_FnPartNew.j0 k t279 true t282 t285 t288 t289 t290))) = some r := H
   have A14 := Aside0.mk A140
   clear A140
   replace H := Option.bind_eq_some_iff.mp H
   obtain ⟨t305, A150, H⟩ := H
   replace H : (if t305 = true then ((impl_ProgOk.f k t279).bind fun t306 => ((spec_ProgOk.f k t279).bind fun t307 => (laws_FnPartNew.j0 k t279 (t306 != t307) t282 t285 t288 t289 t290))) else (laws_FnPartNew.j0 k t279 true t282 t285 t288 t289 t290)) = some r := H
   have A15 := Aside0.mk A150
   clear A150
   by_cases c16 : t305 = true
   ·subst c16
    have H1 : ((impl_ProgOk.f k t279).bind fun t306 => ((spec_ProgOk.f k t279).bind fun t307 => (laws_FnPartNew.j0 k t279 (t306 != t307) t282 t285 t288 t289 t290))) = some r := by rw [if_pos rfl] at H; exact H
    clear H
    have H := H1
    clear H1
    replace H := Option.bind_eq_some_iff.mp H
    obtain ⟨t306, A170, H⟩ := H
    replace H : ((spec_ProgOk.f k t279).bind fun t307 => (laws_FnPartNew.j0 k t279 (t306 != t307) t282 t285 t288 t289 t290)) = some r := H
    have A17 := Aside0.mk A170
    clear A170
    replace H := Option.bind_eq_some_iff.mp H
    obtain ⟨t307, A180, H⟩ := H
    replace H : (laws_FnPartNew.j0 k t279 (t306 != t307) t282 t285 t288 t289 t290) = some r := H
    have A18 := Aside0.mk A180
    clear A180
    have H' := Aside0.mk H
    clear H
    try go_wp2
    have n0_ : Aside0 (Kd.R k53 53 (((((w9.setCell ⟨gb293, 0, none⟩ (.slice Ao10 t282.length co10)).setCell ⟨gb293, 1, none⟩ (.slice Ao12 t285.length co12)).setCell ⟨gb293, 2, none⟩ (.int .i64 t288)).setCell ⟨gb293, 3, none⟩ (.bool t289)).setCell ⟨gb293, 4, none⟩ (.slice Ao13 t290.length co13)) w.heap.size (fun k_ => nb Ao10 t282.length co10 k_) (.slice Ao7 t279.length co7) t279) := ⟨by (with_reducible repeat (first | apply Kd.R_alloc | apply Kd.R_drewN | apply Kd.R_drew)); exact frM (Kd.R_types HO281.out BK293.out (by decide))⟩
    have n1_ : Aside0 (Kd.R k53 53 (((((w9.setCell ⟨gb293, 0, none⟩ (.slice Ao10 t282.length co10)).setCell ⟨gb293, 1, none⟩ (.slice Ao12 t285.length co12)).setCell ⟨gb293, 2, none⟩ (.int .i64 t288)).setCell ⟨gb293, 3, none⟩ (.bool t289)).setCell ⟨gb293, 4, none⟩ (.slice Ao13 t290.length co13)) w.heap.size (fun k_ => nb Ao7 t279.length co7 k_) (.slice Ao10 t282.length co10) t282) := ⟨by (with_reducible repeat (first | apply Kd.R_alloc | apply Kd.R_drewN | apply Kd.R_drew)); exact frM (Kd.R_types HO284.out BK293.out (by decide))⟩
    have n2_ : Aside0 (Kd.R (Kd.int .i64) 3 (((((w9.setCell ⟨gb293, 0, none⟩ (.slice Ao10 t282.length co10)).setCell ⟨gb293, 1, none⟩ (.slice Ao12 t285.length co12)).setCell ⟨gb293, 2, none⟩ (.int .i64 t288)).setCell ⟨gb293, 3, none⟩ (.bool t289)).setCell ⟨gb293, 4, none⟩ (.slice Ao13 t290.length co13)) w.heap.size (fun k_ => nb Ao13 t290.length co13 k_) (.slice Ao12 t285.length co12) t285) := ⟨by (with_reducible repeat (first | apply Kd.R_alloc | apply Kd.R_drewN | apply Kd.R_drew)); exact frM (Kd.R_types HO287.out BK293.out (by decide))⟩
    have n3_ : Aside0 (Kd.R (Kd.int .i64) 3 (((((w9.setCell ⟨gb293, 0, none⟩ (.slice Ao10 t282.length co10)).setCell ⟨gb293, 1, none⟩ (.slice Ao12 t285.length co12)).setCell ⟨gb293, 2, none⟩ (.int .i64 t288)).setCell ⟨gb293, 3, none⟩ (.bool t289)).setCell ⟨gb293, 4, none⟩ (.slice Ao13 t290.length co13)) w.heap.size (fun k_ => nb Ao12 t285.length co12 k_) (.slice Ao13 t290.length co13) t290) := ⟨by (with_reducible repeat (first | apply Kd.R_alloc | apply Kd.R_drewN | apply Kd.R_drew)); exact frM (Kd.R_types HO292.out BK293.out (by decide))⟩
    have n4_ : Aside0 ((((((w9.setCell ⟨gb293, 0, none⟩ (.slice Ao10 t282.length co10)).setCell ⟨gb293, 1, none⟩ (.slice Ao12 t285.length co12)).setCell ⟨gb293, 2, none⟩ (.int .i64 t288)).setCell ⟨gb293, 3, none⟩ (.bool t289)).setCell ⟨gb293, 4, none⟩ (.slice Ao13 t290.length co13)).heap[gb293]? = some (.cells #[.slice Ao10 t282.length co10, .slice Ao12 t285.length co12, .int .i64 t288, .bool t289, .slice Ao13 t290.length co13] 33 (0, 0))) := ⟨by (with_reducible repeat (first | refine blk_drewN ?_ _ | refine blk_drew ?_ | refine blk_alloc ?_ _)); refine blk_put (cs := #[.slice Ao10 t282.length co10, .slice Ao12 t285.length co12, .int .i64 t288, .bool t289, .slice none 0 0]) ?_ 4 _ rfl; (with_reducible repeat (first | refine blk_drewN ?_ _ | refine blk_drew ?_ | refine blk_alloc ?_ _)); refine blk_put (cs := #[.slice Ao10 t282.length co10, .slice Ao12 t285.length co12, .int .i64 t288, .bool false, .slice none 0 0]) ?_ 3 _ rfl; (with_reducible repeat (first | refine blk_drewN ?_ _ | refine blk_drew ?_ | refine blk_alloc ?_ _)); refine blk_put (cs := #[.slice Ao10 t282.length co10, .slice Ao12 t285.length co12, .int .i64 0, .bool false, .slice none 0 0]) ?_ 2 _ rfl; (with_reducible repeat (first | refine blk_drewN ?_ _ | refine blk_drew ?_ | refine blk_alloc ?_ _)); refine blk_put (cs := #[.slice Ao10 t282.length co10, .slice none 0 0, .int .i64 0, .bool false, .slice none 0 0]) ?_ 1 _ rfl; (with_reducible repeat (first | refine blk_drewN ?_ _ | refine blk_drew ?_ | refine blk_alloc ?_ _)); refine blk_put (cs := #[.slice none 0 0, .slice none 0 0, .int .i64 0, .bool false, .slice none 0 0]) ?_ 0 _ rfl; (with_reducible repeat (first | refine blk_drewN ?_ _ | refine blk_drew ?_ | refine blk_alloc ?_ _)); exact BK293.out⟩
    have n5_ : Aside0 (Below w.heap.size w (((((w9.setCell ⟨gb293, 0, none⟩ (.slice Ao10 t282.length co10)).setCell ⟨gb293, 1, none⟩ (.slice Ao12 t285.length co12)).setCell ⟨gb293, 2, none⟩ (.int .i64 t288)).setCell ⟨gb293, 3, none⟩ (.bool t289)).setCell ⟨gb293, 4, none⟩ (.slice Ao13 t290.length co13))) := ⟨by repeat (first | (with_reducible first | exact HB.out | apply below_alloc | apply pw_below_drewN | apply below_drew1 | refine below_set ?_ GE293.out) | exact HB.out)⟩
    (try clear HO281)
    (try clear HO284)
    (try clear HO287)
    (try clear HO292)
    (try clear BK293)
    (try clear HB)
    generalize (((((w9.setCell ⟨gb293, 0, none⟩ (.slice Ao10 t282.length co10)).setCell ⟨gb293, 1, none⟩ (.slice Ao12 t285.length co12)).setCell ⟨gb293, 2, none⟩ (.int .i64 t288)).setCell ⟨gb293, 3, none⟩ (.bool t289)).setCell ⟨gb293, 4, none⟩ (.slice Ao13 t290.length co13)) = w19 at n0_ n1_ n2_ n3_ n4_ n5_ ⊢
    have HO281 := n0_
    have HO284 := n1_
    have HO287 := n2_
    have HO292 := n3_
    have BK293 := n4_
    have HB := n5_
    clear n0_ n1_ n2_ n3_ n4_ n5_
    have n0_ := m_ (Kd.R_drew HO281.out)
    have n1_ := m_ (Kd.R_drew HO284.out)
    have n2_ := m_ (Kd.R_drew HO287.out)
    have n3_ := m_ (Kd.R_drew HO292.out)
    have n4_ := m_ (blk_drew BK293.out)
    have n5_ := m_ (below_drew1 HB.out)
    clear HO281
    clear HO284
    clear HO287
    clear HO292
    clear BK293
    clear HB
    have HO281 := n0_
    have HO284 := n1_
    have HO287 := n2_
    have HO292 := n3_
    have BK293 := n4_
    have HB := n5_
    clear n0_ n1_ n2_ n3_ n4_ n5_
    refine start_ (n := 12) (S := fun w' => w'.cell? ⟨gb293, 0, none⟩ = some (.slice Ao10 t282.length co10) ∧ w'.cell? ⟨gb293, 1, none⟩ = some (.slice Ao12 t285.length co12) ∧ w'.cell? ⟨gb293, 2, none⟩ = some (.int .i64 t288) ∧ w'.cell? ⟨gb293, 3, none⟩ = some (.bool t289) ∧ w'.cell? ⟨gb293, 4, none⟩ = some (.slice Ao13 t290.length co13)) (ds := []) #[false, false, false, false, false, false, false, false, false, false, false, false] (by kernel_rfl) rfl rfl ⟨(blk_cell BK293.out 0).trans rfl, (blk_cell BK293.out 1).trans rfl, (blk_cell BK293.out 2).trans rfl, (blk_cell BK293.out 3).trans rfl, (blk_cell BK293.out 4).trans rfl⟩ (fun hHeld => ?_); refine with_tabW laws_FnPartNew.tab5 laws_FnPartNew.bits5 (fun HT_ HW_ => ?_)
    generalize w19.drew = w20 at HO281 HO284 HO287 HO292 BK293 HB hHeld ⊢
    refine pu 1 13 HT_ (h := ?_)
    refine take_ (i := 0) (N := some 12) (v := ?_) (a' := ?_) #[true, true, false, false, false, false, false, false, false, false, false, false] rfl rfl (take_ofW HT_.out HW_.out (by kernel_rfl)) (fun _ _ _ h => h) (Or.inl ⟨by rfl, ?_⟩) hHeld ?_ ?_
    rotate_left
    ·rintro w' ⟨s0, s1, s2, s3, s4⟩
     go_simp
     with_reducible rfl
    rotate_left
    ·simp only [Act.put, List.setIfInBounds_toArray, List.set_cons_zero, List.set_cons_succ, i64_w, i32_w]
     rfl
    refine one_ (i := 2) (N := some 14) #[true, true, true, false, false, false, false, false, false, false, false, false] rfl rfl (one_of HT_.out (by kernel_rfl)) (by decide) (fun K hK => ?_)
    refine goes_ Try.func17 (by kernel_rfl) rfl #[.slice Ao7 t279.length co7] (by rfl) rfl rfl gl_ ?_
    with_reducible refine (spec_PartNew.calls k _ _ t279 t294 t297 t300 t301 t302 _ ?side1 ?side2 A14.out).mono ?_
    (case side1 => exact cN (Kd.R_reads' HO281.out).2.2)
    (case side2 => exact (Kd.R_reads' HO281.out).2.1)
    rintro e w21 ⟨v295, v298, v303, rfl, ho0, ho1, ho2, hb⟩
    refine ⟨_, rfl, ?_⟩
    have n0_ := m_ (Kd.R_elder' (rN HO281.out) (Kd.R_base ho0) hb)
    have n1_ := m_ (Kd.R_elder' (rN HO284.out) (Kd.R_base ho0) hb)
    have n2_ := m_ (Kd.R_mono (Kd.R_told (Kd.R_told (Kd.R_old (rN HO287.out) hb) (Kd.R_base ho1)) (Kd.R_base ho2)) (fun _ h_ => h_.1))
    have n3_ := m_ (Kd.R_mono (Kd.R_told (Kd.R_told (Kd.R_old (rN HO292.out) hb) (Kd.R_base ho1)) (Kd.R_base ho2)) (fun _ h_ => h_.1))
    have n4_ := m_ (Kd.R_lower (Kd.R_new' (Kd.R_new' ho0 (Kd.R_lt (rN HO281.out))) (Kd.R_lt (rN HO284.out))) (below_size (bN HB.out)))
    have n5_ := m_ (Kd.R_lower (Kd.R_new' (Kd.R_new' ho1 (Kd.R_lt (rN HO287.out))) (Kd.R_lt (rN HO292.out))) (below_size (bN HB.out)))
    have n6_ := m_ (Kd.R_lower (Kd.R_new' (Kd.R_new' ho2 (Kd.R_lt (rN HO287.out))) (Kd.R_lt (rN HO292.out))) (below_size (bN HB.out)))
    have n7_ := m_ (blk_below (kN BK293.out) hb)
    have n8_ := m_ (below_step (bN HB.out) hb)
    clear HO281
    clear HO284
    clear HO287
    clear HO292
    clear BK293
    clear HB
    have HO281 := n0_
    have HO284 := n1_
    have HO287 := n2_
    have HO292 := n3_
    have HO296 := n4_
    have HO299 := n5_
    have HO304 := n6_
    have BK293 := n7_
    have HB := n8_
    clear n0_ n1_ n2_ n3_ n4_ n5_ n6_ n7_ n8_
    (try clear hb)
    (try clear hb2)
    (try clear hk)
    (try clear hi)
    (try clear ho0)
    (try clear ho1)
    (try clear ho2)
    obtain ⟨Ao22, co22, eo22⟩ := Kd.R_slice HO296.out
    (first | subst eo22 | (injection eo22 with f1_ f2_ f3_; have f4_ := f1_.symm; have f5_ := f3_.symm; clear f1_ f2_ f3_; subst f4_; subst f5_))
    obtain ⟨Ao23, co23, eo23⟩ := Kd.R_slice HO299.out
    (first | subst eo23 | (injection eo23 with f1_ f2_ f3_; have f4_ := f1_.symm; have f5_ := f3_.symm; clear f1_ f2_ f3_; subst f4_; subst f5_))
    obtain ⟨Ao24, co24, eo24⟩ := Kd.R_slice HO304.out
    (first | subst eo24 | (injection eo24 with f1_ f2_ f3_; have f4_ := f1_.symm; have f5_ := f3_.symm; clear f1_ f2_ f3_; subst f4_; subst f5_))
    refine hK.out _ _ ⟨(blk_cell BK293.out 0).trans rfl, (blk_cell BK293.out 1).trans rfl, (blk_cell BK293.out 2).trans rfl, (blk_cell BK293.out 3).trans rfl, (blk_cell BK293.out 4).trans rfl⟩ (fun hHeld => ?_)
    clear hK K
    refine norm_ (a' := ?_) ?_ ?_
    rotate_left
    ·show Act.put _ (some 14) _ = _
     simp only [Act.put, List.setIfInBounds_toArray, List.set_cons_zero, List.set_cons_succ, i64_w, i32_w]
     rfl
    refine one_ (i := 3) (N := some 15) #[true, true, true, true, false, false, false, false, false, false, false, false] rfl rfl (one_of HT_.out (by kernel_rfl)) (by decide) (fun K hK => ?_)
    refine goes_ Try.func16 (by kernel_rfl) rfl #[.agg #[.slice Ao10 t282.length co10, .slice Ao12 t285.length co12, .int .i64 t288, .bool t289, .slice Ao13 t290.length co13], .agg #[.slice Ao22 t294.length co22, .slice Ao23 t297.length co23, .int .i64 t300, .bool t301, .slice Ao24 t302.length co24]] (by rfl) rfl rfl gl_ ?_
    with_reducible refine (laws_skPart.calls k _ _ t282 _ _ t285 t288 t289 _ _ t290 _ _ t294 _ _ t297 t300 t301 _ _ t302 true _ ?side1 ?side2 ?side3 ?side4 ?side5 ?side6 ?side7 ?side8 ?side9 ?side10 ?side11 ?side12 A15.out).mono ?_
    (case side1 => exact cN (Kd.R_reads' HO284.out).2.2)
    (case side2 => exact (Kd.R_reads' HO284.out).2.1)
    (case side3 => exact cN (Kd.R_reads' HO287.out).2.2)
    (case side4 => exact (Kd.R_reads' HO287.out).2.1)
    (case side5 => exact cN (Kd.R_reads' HO292.out).2.2)
    (case side6 => exact (Kd.R_reads' HO292.out).2.1)
    (case side7 => exact cN (Kd.R_reads' HO296.out).2.2)
    (case side8 => exact (Kd.R_reads' HO296.out).2.1)
    (case side9 => exact cN (Kd.R_reads' HO299.out).2.2)
    (case side10 => exact (Kd.R_reads' HO299.out).2.1)
    (case side11 => exact cN (Kd.R_reads' HO304.out).2.2)
    (case side12 => exact (Kd.R_reads' HO304.out).2.1)
    rintro e w25 ⟨rfl, hb⟩
    refine ⟨_, rfl, ?_⟩
    have n0_ := m_ (Kd.R_below (rN HO281.out) hb)
    have n1_ := m_ (Kd.R_below (rN HO284.out) hb)
    have n2_ := m_ (Kd.R_below (rN HO287.out) hb)
    have n3_ := m_ (Kd.R_below (rN HO292.out) hb)
    have n4_ := m_ (Kd.R_below (rN HO296.out) hb)
    have n5_ := m_ (Kd.R_below (rN HO299.out) hb)
    have n6_ := m_ (Kd.R_below (rN HO304.out) hb)
    have n7_ := m_ (blk_below (kN BK293.out) hb)
    have n8_ := m_ (below_step (bN HB.out) hb)
    clear HO281
    clear HO284
    clear HO287
    clear HO292
    clear HO296
    clear HO299
    clear HO304
    clear BK293
    clear HB
    have HO281 := n0_
    have HO284 := n1_
    have HO287 := n2_
    have HO292 := n3_
    have HO296 := n4_
    have HO299 := n5_
    have HO304 := n6_
    have BK293 := n7_
    have HB := n8_
    clear n0_ n1_ n2_ n3_ n4_ n5_ n6_ n7_ n8_
    (try clear hb)
    (try clear hb2)
    (try clear hk)
    (try clear hi)
    refine hK.out _ _ ⟨(blk_cell BK293.out 0).trans rfl, (blk_cell BK293.out 1).trans rfl, (blk_cell BK293.out 2).trans rfl, (blk_cell BK293.out 3).trans rfl, (blk_cell BK293.out 4).trans rfl⟩ (fun hHeld => ?_)
    clear hK K
    refine norm_ (a' := ?_) ?_ ?_
    rotate_left
    ·show Act.put _ (some 15) _ = _
     simp only [Act.put, List.setIfInBounds_toArray, List.set_cons_zero, List.set_cons_succ, i64_w, i32_w]
     rfl
    refine pu 4 16 HT_ (h := ?_)
    refine pu 5 17 HT_ (h := ?_)
    refine pu 6 18 HT_ (h := ?_)
    refine pu 8 20 HT_ (h := ?_)
    refine one_ (i := 7) (N := some 19) #[true, true, true, true, true, true, true, true, true, false, false, false] rfl rfl (one_of HT_.out (by kernel_rfl)) (by decide) (fun K hK => ?_)
    refine goes_ Try.func12 (by kernel_rfl) rfl #[.slice Ao7 t279.length co7] (by rfl) rfl rfl gl_ ?_
    with_reducible refine (impl_ProgOk.calls k _ _ t279 t306 _ ?side1 ?side2 A17.out).mono ?_
    (case side1 => exact cN (Kd.R_reads' HO281.out).2.2)
    (case side2 => exact (Kd.R_reads' HO281.out).2.1)
    rintro e w26 ⟨rfl, hb⟩
    refine ⟨_, rfl, ?_⟩
    have n0_ := m_ (Kd.R_below (rN HO281.out) hb)
    have n1_ := m_ (Kd.R_below (rN HO284.out) hb)
    have n2_ := m_ (Kd.R_below (rN HO287.out) hb)
    have n3_ := m_ (Kd.R_below (rN HO292.out) hb)
    have n4_ := m_ (Kd.R_below (rN HO296.out) hb)
    have n5_ := m_ (Kd.R_below (rN HO299.out) hb)
    have n6_ := m_ (Kd.R_below (rN HO304.out) hb)
    have n7_ := m_ (blk_below (kN BK293.out) hb)
    have n8_ := m_ (below_step (bN HB.out) hb)
    clear HO281
    clear HO284
    clear HO287
    clear HO292
    clear HO296
    clear HO299
    clear HO304
    clear BK293
    clear HB
    have HO281 := n0_
    have HO284 := n1_
    have HO287 := n2_
    have HO292 := n3_
    have HO296 := n4_
    have HO299 := n5_
    have HO304 := n6_
    have BK293 := n7_
    have HB := n8_
    clear n0_ n1_ n2_ n3_ n4_ n5_ n6_ n7_ n8_
    (try clear hb)
    (try clear hb2)
    (try clear hk)
    (try clear hi)
    refine hK.out _ _ ⟨(blk_cell BK293.out 0).trans rfl, (blk_cell BK293.out 1).trans rfl, (blk_cell BK293.out 2).trans rfl, (blk_cell BK293.out 3).trans rfl, (blk_cell BK293.out 4).trans rfl⟩ (fun hHeld => ?_)
    clear hK K
    refine norm_ (a' := ?_) ?_ ?_
    rotate_left
    ·show Act.put _ (some 19) _ = _
     simp only [Act.put, List.setIfInBounds_toArray, List.set_cons_zero, List.set_cons_succ, i64_w, i32_w]
     rfl
    refine one_ (i := 9) (N := some 21) #[true, true, true, true, true, true, true, true, true, true, false, false] rfl rfl (one_of HT_.out (by kernel_rfl)) (by decide) (fun K hK => ?_)
    refine goes_ Try.func10 (by kernel_rfl) rfl #[.slice Ao7 t279.length co7] (by rfl) rfl rfl gl_ ?_
    with_reducible refine (spec_ProgOk.calls k _ _ t279 t307 _ ?side1 ?side2 A18.out).mono ?_
    (case side1 => exact cN (Kd.R_reads' HO281.out).2.2)
    (case side2 => exact (Kd.R_reads' HO281.out).2.1)
    rintro e w27 ⟨rfl, hb⟩
    refine ⟨_, rfl, ?_⟩
    have n0_ := m_ (Kd.R_below (rN HO281.out) hb)
    have n1_ := m_ (Kd.R_below (rN HO284.out) hb)
    have n2_ := m_ (Kd.R_below (rN HO287.out) hb)
    have n3_ := m_ (Kd.R_below (rN HO292.out) hb)
    have n4_ := m_ (Kd.R_below (rN HO296.out) hb)
    have n5_ := m_ (Kd.R_below (rN HO299.out) hb)
    have n6_ := m_ (Kd.R_below (rN HO304.out) hb)
    have n7_ := m_ (blk_below (kN BK293.out) hb)
    have n8_ := m_ (below_step (bN HB.out) hb)
    clear HO281
    clear HO284
    clear HO287
    clear HO292
    clear HO296
    clear HO299
    clear HO304
    clear BK293
    clear HB
    have HO281 := n0_
    have HO284 := n1_
    have HO287 := n2_
    have HO292 := n3_
    have HO296 := n4_
    have HO299 := n5_
    have HO304 := n6_
    have BK293 := n7_
    have HB := n8_
    clear n0_ n1_ n2_ n3_ n4_ n5_ n6_ n7_ n8_
    (try clear hb)
    (try clear hb2)
    (try clear hk)
    (try clear hi)
    refine hK.out _ _ ⟨(blk_cell BK293.out 0).trans rfl, (blk_cell BK293.out 1).trans rfl, (blk_cell BK293.out 2).trans rfl, (blk_cell BK293.out 3).trans rfl, (blk_cell BK293.out 4).trans rfl⟩ (fun hHeld => ?_)
    clear hK K
    refine norm_ (a' := ?_) ?_ ?_
    rotate_left
    ·show Act.put _ (some 21) _ = _
     simp only [Act.put, List.setIfInBounds_toArray, List.set_cons_zero, List.set_cons_succ, i64_w, i32_w]
     rfl
    refine pu 10 22 HT_ (h := ?_)
    refine pu 11 23 HT_ (h := ?_)
    refine done_ (done_of HT_.out (by kernel_rfl)) ?_
    try go_wp2
    go_meet
    case rel => exact ⟨_, ((t306 != t307)), (by first | rfl | (simp; done) | (simp [*]; done)), H', ⟨by first | omega | exact Nat.le_refl _⟩, ⟨by (with_reducible repeat (first | apply Kd.R_alloc | apply Kd.R_drewN | apply Kd.R_drew)); exact Kd.R_mono HO281.out (fun _ hk => hk.1)⟩, ⟨by (with_reducible repeat (first | apply Kd.R_alloc | apply Kd.R_drewN | apply Kd.R_drew)); exact Kd.R_mono HO284.out (fun _ hk => hk.1)⟩, ⟨by (with_reducible repeat (first | apply Kd.R_alloc | apply Kd.R_drewN | apply Kd.R_drew)); exact Kd.R_mono HO287.out (fun _ hk => hk.1.1)⟩, ⟨by (with_reducible repeat (first | apply Kd.R_alloc | apply Kd.R_drewN | apply Kd.R_drew)); exact Kd.R_mono HO292.out (fun _ hk => hk.1.1)⟩, ⟨by (with_reducible repeat (first | refine blk_drewN ?_ _ | refine blk_drew ?_ | refine blk_alloc ?_ _)); exact BK293.out⟩, ⟨by repeat (first | (with_reducible first | exact HB.out | apply below_alloc | apply pw_below_drewN | apply below_drew1 | refine below_set ?_ GE293.out) | exact HB.out)⟩⟩
   ·replace c16 := Bool.eq_false_iff.mpr c16
    subst c16
    have H1 : (laws_FnPartNew.j0 k t279 true t282 t285 t288 t289 t290) = some r := by rw [if_neg (show ¬ (false = true) by decide)] at H; exact H
    clear H
    have H := H1
    clear H1
    have H' := Aside0.mk H
    clear H
    try go_wp2
    have n0_ : Aside0 (Kd.R k53 53 (((((w9.setCell ⟨gb293, 0, none⟩ (.slice Ao10 t282.length co10)).setCell ⟨gb293, 1, none⟩ (.slice Ao12 t285.length co12)).setCell ⟨gb293, 2, none⟩ (.int .i64 t288)).setCell ⟨gb293, 3, none⟩ (.bool t289)).setCell ⟨gb293, 4, none⟩ (.slice Ao13 t290.length co13)) w.heap.size (fun k_ => nb Ao10 t282.length co10 k_) (.slice Ao7 t279.length co7) t279) := ⟨by (with_reducible repeat (first | apply Kd.R_alloc | apply Kd.R_drewN | apply Kd.R_drew)); exact frM (Kd.R_types HO281.out BK293.out (by decide))⟩
    have n1_ : Aside0 (Kd.R k53 53 (((((w9.setCell ⟨gb293, 0, none⟩ (.slice Ao10 t282.length co10)).setCell ⟨gb293, 1, none⟩ (.slice Ao12 t285.length co12)).setCell ⟨gb293, 2, none⟩ (.int .i64 t288)).setCell ⟨gb293, 3, none⟩ (.bool t289)).setCell ⟨gb293, 4, none⟩ (.slice Ao13 t290.length co13)) w.heap.size (fun k_ => nb Ao7 t279.length co7 k_) (.slice Ao10 t282.length co10) t282) := ⟨by (with_reducible repeat (first | apply Kd.R_alloc | apply Kd.R_drewN | apply Kd.R_drew)); exact frM (Kd.R_types HO284.out BK293.out (by decide))⟩
    have n2_ : Aside0 (Kd.R (Kd.int .i64) 3 (((((w9.setCell ⟨gb293, 0, none⟩ (.slice Ao10 t282.length co10)).setCell ⟨gb293, 1, none⟩ (.slice Ao12 t285.length co12)).setCell ⟨gb293, 2, none⟩ (.int .i64 t288)).setCell ⟨gb293, 3, none⟩ (.bool t289)).setCell ⟨gb293, 4, none⟩ (.slice Ao13 t290.length co13)) w.heap.size (fun k_ => nb Ao13 t290.length co13 k_) (.slice Ao12 t285.length co12) t285) := ⟨by (with_reducible repeat (first | apply Kd.R_alloc | apply Kd.R_drewN | apply Kd.R_drew)); exact frM (Kd.R_types HO287.out BK293.out (by decide))⟩
    have n3_ : Aside0 (Kd.R (Kd.int .i64) 3 (((((w9.setCell ⟨gb293, 0, none⟩ (.slice Ao10 t282.length co10)).setCell ⟨gb293, 1, none⟩ (.slice Ao12 t285.length co12)).setCell ⟨gb293, 2, none⟩ (.int .i64 t288)).setCell ⟨gb293, 3, none⟩ (.bool t289)).setCell ⟨gb293, 4, none⟩ (.slice Ao13 t290.length co13)) w.heap.size (fun k_ => nb Ao12 t285.length co12 k_) (.slice Ao13 t290.length co13) t290) := ⟨by (with_reducible repeat (first | apply Kd.R_alloc | apply Kd.R_drewN | apply Kd.R_drew)); exact frM (Kd.R_types HO292.out BK293.out (by decide))⟩
    have n4_ : Aside0 ((((((w9.setCell ⟨gb293, 0, none⟩ (.slice Ao10 t282.length co10)).setCell ⟨gb293, 1, none⟩ (.slice Ao12 t285.length co12)).setCell ⟨gb293, 2, none⟩ (.int .i64 t288)).setCell ⟨gb293, 3, none⟩ (.bool t289)).setCell ⟨gb293, 4, none⟩ (.slice Ao13 t290.length co13)).heap[gb293]? = some (.cells #[.slice Ao10 t282.length co10, .slice Ao12 t285.length co12, .int .i64 t288, .bool t289, .slice Ao13 t290.length co13] 33 (0, 0))) := ⟨by (with_reducible repeat (first | refine blk_drewN ?_ _ | refine blk_drew ?_ | refine blk_alloc ?_ _)); refine blk_put (cs := #[.slice Ao10 t282.length co10, .slice Ao12 t285.length co12, .int .i64 t288, .bool t289, .slice none 0 0]) ?_ 4 _ rfl; (with_reducible repeat (first | refine blk_drewN ?_ _ | refine blk_drew ?_ | refine blk_alloc ?_ _)); refine blk_put (cs := #[.slice Ao10 t282.length co10, .slice Ao12 t285.length co12, .int .i64 t288, .bool false, .slice none 0 0]) ?_ 3 _ rfl; (with_reducible repeat (first | refine blk_drewN ?_ _ | refine blk_drew ?_ | refine blk_alloc ?_ _)); refine blk_put (cs := #[.slice Ao10 t282.length co10, .slice Ao12 t285.length co12, .int .i64 0, .bool false, .slice none 0 0]) ?_ 2 _ rfl; (with_reducible repeat (first | refine blk_drewN ?_ _ | refine blk_drew ?_ | refine blk_alloc ?_ _)); refine blk_put (cs := #[.slice Ao10 t282.length co10, .slice none 0 0, .int .i64 0, .bool false, .slice none 0 0]) ?_ 1 _ rfl; (with_reducible repeat (first | refine blk_drewN ?_ _ | refine blk_drew ?_ | refine blk_alloc ?_ _)); refine blk_put (cs := #[.slice none 0 0, .slice none 0 0, .int .i64 0, .bool false, .slice none 0 0]) ?_ 0 _ rfl; (with_reducible repeat (first | refine blk_drewN ?_ _ | refine blk_drew ?_ | refine blk_alloc ?_ _)); exact BK293.out⟩
    have n5_ : Aside0 (Below w.heap.size w (((((w9.setCell ⟨gb293, 0, none⟩ (.slice Ao10 t282.length co10)).setCell ⟨gb293, 1, none⟩ (.slice Ao12 t285.length co12)).setCell ⟨gb293, 2, none⟩ (.int .i64 t288)).setCell ⟨gb293, 3, none⟩ (.bool t289)).setCell ⟨gb293, 4, none⟩ (.slice Ao13 t290.length co13))) := ⟨by repeat (first | (with_reducible first | exact HB.out | apply below_alloc | apply pw_below_drewN | apply below_drew1 | refine below_set ?_ GE293.out) | exact HB.out)⟩
    (try clear HO281)
    (try clear HO284)
    (try clear HO287)
    (try clear HO292)
    (try clear BK293)
    (try clear HB)
    generalize (((((w9.setCell ⟨gb293, 0, none⟩ (.slice Ao10 t282.length co10)).setCell ⟨gb293, 1, none⟩ (.slice Ao12 t285.length co12)).setCell ⟨gb293, 2, none⟩ (.int .i64 t288)).setCell ⟨gb293, 3, none⟩ (.bool t289)).setCell ⟨gb293, 4, none⟩ (.slice Ao13 t290.length co13)) = w28 at n0_ n1_ n2_ n3_ n4_ n5_ ⊢
    have HO281 := n0_
    have HO284 := n1_
    have HO287 := n2_
    have HO292 := n3_
    have BK293 := n4_
    have HB := n5_
    clear n0_ n1_ n2_ n3_ n4_ n5_
    have n0_ := m_ (Kd.R_drew HO281.out)
    have n1_ := m_ (Kd.R_drew HO284.out)
    have n2_ := m_ (Kd.R_drew HO287.out)
    have n3_ := m_ (Kd.R_drew HO292.out)
    have n4_ := m_ (blk_drew BK293.out)
    have n5_ := m_ (below_drew1 HB.out)
    clear HO281
    clear HO284
    clear HO287
    clear HO292
    clear BK293
    clear HB
    have HO281 := n0_
    have HO284 := n1_
    have HO287 := n2_
    have HO292 := n3_
    have BK293 := n4_
    have HB := n5_
    clear n0_ n1_ n2_ n3_ n4_ n5_
    refine start_ (n := 12) (S := fun w' => w'.cell? ⟨gb293, 0, none⟩ = some (.slice Ao10 t282.length co10) ∧ w'.cell? ⟨gb293, 1, none⟩ = some (.slice Ao12 t285.length co12) ∧ w'.cell? ⟨gb293, 2, none⟩ = some (.int .i64 t288) ∧ w'.cell? ⟨gb293, 3, none⟩ = some (.bool t289) ∧ w'.cell? ⟨gb293, 4, none⟩ = some (.slice Ao13 t290.length co13)) (ds := []) #[false, false, false, false, false, false, false, false, false, false, false, false] (by kernel_rfl) rfl rfl ⟨(blk_cell BK293.out 0).trans rfl, (blk_cell BK293.out 1).trans rfl, (blk_cell BK293.out 2).trans rfl, (blk_cell BK293.out 3).trans rfl, (blk_cell BK293.out 4).trans rfl⟩ (fun hHeld => ?_); refine with_tabW laws_FnPartNew.tab5 laws_FnPartNew.bits5 (fun HT_ HW_ => ?_)
    generalize w28.drew = w29 at HO281 HO284 HO287 HO292 BK293 HB hHeld ⊢
    refine pu 1 13 HT_ (h := ?_)
    refine take_ (i := 0) (N := some 12) (v := ?_) (a' := ?_) #[true, true, false, false, false, false, false, false, false, false, false, false] rfl rfl (take_ofW HT_.out HW_.out (by kernel_rfl)) (fun _ _ _ h => h) (Or.inl ⟨by rfl, ?_⟩) hHeld ?_ ?_
    rotate_left
    ·rintro w' ⟨s0, s1, s2, s3, s4⟩
     go_simp
     with_reducible rfl
    rotate_left
    ·simp only [Act.put, List.setIfInBounds_toArray, List.set_cons_zero, List.set_cons_succ, i64_w, i32_w]
     rfl
    refine one_ (i := 2) (N := some 14) #[true, true, true, false, false, false, false, false, false, false, false, false] rfl rfl (one_of HT_.out (by kernel_rfl)) (by decide) (fun K hK => ?_)
    refine goes_ Try.func17 (by kernel_rfl) rfl #[.slice Ao7 t279.length co7] (by rfl) rfl rfl gl_ ?_
    with_reducible refine (spec_PartNew.calls k _ _ t279 t294 t297 t300 t301 t302 _ ?side1 ?side2 A14.out).mono ?_
    (case side1 => exact cN (Kd.R_reads' HO281.out).2.2)
    (case side2 => exact (Kd.R_reads' HO281.out).2.1)
    rintro e w30 ⟨v295, v298, v303, rfl, ho0, ho1, ho2, hb⟩
    refine ⟨_, rfl, ?_⟩
    have n0_ := m_ (Kd.R_elder' (rN HO281.out) (Kd.R_base ho0) hb)
    have n1_ := m_ (Kd.R_elder' (rN HO284.out) (Kd.R_base ho0) hb)
    have n2_ := m_ (Kd.R_mono (Kd.R_told (Kd.R_told (Kd.R_old (rN HO287.out) hb) (Kd.R_base ho1)) (Kd.R_base ho2)) (fun _ h_ => h_.1))
    have n3_ := m_ (Kd.R_mono (Kd.R_told (Kd.R_told (Kd.R_old (rN HO292.out) hb) (Kd.R_base ho1)) (Kd.R_base ho2)) (fun _ h_ => h_.1))
    have n4_ := m_ (Kd.R_lower (Kd.R_new' (Kd.R_new' ho0 (Kd.R_lt (rN HO281.out))) (Kd.R_lt (rN HO284.out))) (below_size (bN HB.out)))
    have n5_ := m_ (Kd.R_lower (Kd.R_new' (Kd.R_new' ho1 (Kd.R_lt (rN HO287.out))) (Kd.R_lt (rN HO292.out))) (below_size (bN HB.out)))
    have n6_ := m_ (Kd.R_lower (Kd.R_new' (Kd.R_new' ho2 (Kd.R_lt (rN HO287.out))) (Kd.R_lt (rN HO292.out))) (below_size (bN HB.out)))
    have n7_ := m_ (blk_below (kN BK293.out) hb)
    have n8_ := m_ (below_step (bN HB.out) hb)
    clear HO281
    clear HO284
    clear HO287
    clear HO292
    clear BK293
    clear HB
    have HO281 := n0_
    have HO284 := n1_
    have HO287 := n2_
    have HO292 := n3_
    have HO296 := n4_
    have HO299 := n5_
    have HO304 := n6_
    have BK293 := n7_
    have HB := n8_
    clear n0_ n1_ n2_ n3_ n4_ n5_ n6_ n7_ n8_
    (try clear hb)
    (try clear hb2)
    (try clear hk)
    (try clear hi)
    (try clear ho0)
    (try clear ho1)
    (try clear ho2)
    obtain ⟨Ao31, co31, eo31⟩ := Kd.R_slice HO296.out
    (first | subst eo31 | (injection eo31 with f1_ f2_ f3_; have f4_ := f1_.symm; have f5_ := f3_.symm; clear f1_ f2_ f3_; subst f4_; subst f5_))
    obtain ⟨Ao32, co32, eo32⟩ := Kd.R_slice HO299.out
    (first | subst eo32 | (injection eo32 with f1_ f2_ f3_; have f4_ := f1_.symm; have f5_ := f3_.symm; clear f1_ f2_ f3_; subst f4_; subst f5_))
    obtain ⟨Ao33, co33, eo33⟩ := Kd.R_slice HO304.out
    (first | subst eo33 | (injection eo33 with f1_ f2_ f3_; have f4_ := f1_.symm; have f5_ := f3_.symm; clear f1_ f2_ f3_; subst f4_; subst f5_))
    refine hK.out _ _ ⟨(blk_cell BK293.out 0).trans rfl, (blk_cell BK293.out 1).trans rfl, (blk_cell BK293.out 2).trans rfl, (blk_cell BK293.out 3).trans rfl, (blk_cell BK293.out 4).trans rfl⟩ (fun hHeld => ?_)
    clear hK K
    refine norm_ (a' := ?_) ?_ ?_
    rotate_left
    ·show Act.put _ (some 14) _ = _
     simp only [Act.put, List.setIfInBounds_toArray, List.set_cons_zero, List.set_cons_succ, i64_w, i32_w]
     rfl
    refine one_ (i := 3) (N := some 15) #[true, true, true, true, false, false, false, false, false, false, false, false] rfl rfl (one_of HT_.out (by kernel_rfl)) (by decide) (fun K hK => ?_)
    refine goes_ Try.func16 (by kernel_rfl) rfl #[.agg #[.slice Ao10 t282.length co10, .slice Ao12 t285.length co12, .int .i64 t288, .bool t289, .slice Ao13 t290.length co13], .agg #[.slice Ao31 t294.length co31, .slice Ao32 t297.length co32, .int .i64 t300, .bool t301, .slice Ao33 t302.length co33]] (by rfl) rfl rfl gl_ ?_
    with_reducible refine (laws_skPart.calls k _ _ t282 _ _ t285 t288 t289 _ _ t290 _ _ t294 _ _ t297 t300 t301 _ _ t302 false _ ?side1 ?side2 ?side3 ?side4 ?side5 ?side6 ?side7 ?side8 ?side9 ?side10 ?side11 ?side12 A15.out).mono ?_
    (case side1 => exact cN (Kd.R_reads' HO284.out).2.2)
    (case side2 => exact (Kd.R_reads' HO284.out).2.1)
    (case side3 => exact cN (Kd.R_reads' HO287.out).2.2)
    (case side4 => exact (Kd.R_reads' HO287.out).2.1)
    (case side5 => exact cN (Kd.R_reads' HO292.out).2.2)
    (case side6 => exact (Kd.R_reads' HO292.out).2.1)
    (case side7 => exact cN (Kd.R_reads' HO296.out).2.2)
    (case side8 => exact (Kd.R_reads' HO296.out).2.1)
    (case side9 => exact cN (Kd.R_reads' HO299.out).2.2)
    (case side10 => exact (Kd.R_reads' HO299.out).2.1)
    (case side11 => exact cN (Kd.R_reads' HO304.out).2.2)
    (case side12 => exact (Kd.R_reads' HO304.out).2.1)
    rintro e w34 ⟨rfl, hb⟩
    refine ⟨_, rfl, ?_⟩
    have n0_ := m_ (Kd.R_below (rN HO281.out) hb)
    have n1_ := m_ (Kd.R_below (rN HO284.out) hb)
    have n2_ := m_ (Kd.R_below (rN HO287.out) hb)
    have n3_ := m_ (Kd.R_below (rN HO292.out) hb)
    have n4_ := m_ (Kd.R_below (rN HO296.out) hb)
    have n5_ := m_ (Kd.R_below (rN HO299.out) hb)
    have n6_ := m_ (Kd.R_below (rN HO304.out) hb)
    have n7_ := m_ (blk_below (kN BK293.out) hb)
    have n8_ := m_ (below_step (bN HB.out) hb)
    clear HO281
    clear HO284
    clear HO287
    clear HO292
    clear HO296
    clear HO299
    clear HO304
    clear BK293
    clear HB
    have HO281 := n0_
    have HO284 := n1_
    have HO287 := n2_
    have HO292 := n3_
    have HO296 := n4_
    have HO299 := n5_
    have HO304 := n6_
    have BK293 := n7_
    have HB := n8_
    clear n0_ n1_ n2_ n3_ n4_ n5_ n6_ n7_ n8_
    (try clear hb)
    (try clear hb2)
    (try clear hk)
    (try clear hi)
    refine hK.out _ _ ⟨(blk_cell BK293.out 0).trans rfl, (blk_cell BK293.out 1).trans rfl, (blk_cell BK293.out 2).trans rfl, (blk_cell BK293.out 3).trans rfl, (blk_cell BK293.out 4).trans rfl⟩ (fun hHeld => ?_)
    clear hK K
    refine norm_ (a' := ?_) ?_ ?_
    rotate_left
    ·show Act.put _ (some 15) _ = _
     simp only [Act.put, List.setIfInBounds_toArray, List.set_cons_zero, List.set_cons_succ, i64_w, i32_w]
     rfl
    refine pu 4 16 HT_ (h := ?_)
    refine pu 5 17 HT_ (h := ?_)
    refine pv 6 18 HT_ (h := ?_)
    refine pv 7 19 HT_ (h := ?_)
    refine pv 8 20 HT_ (h := ?_)
    refine pv 9 21 HT_ (h := ?_)
    refine pv 10 22 HT_ (h := ?_)
    refine pu 11 23 HT_ (h := ?_)
    refine done_ (done_of HT_.out (by kernel_rfl)) ?_
    try go_wp2
    go_meet
    case rel => exact ⟨_, (true), (by first | rfl | (simp; done) | (simp [*]; done)), H', ⟨by first | omega | exact Nat.le_refl _⟩, ⟨by (with_reducible repeat (first | apply Kd.R_alloc | apply Kd.R_drewN | apply Kd.R_drew)); exact Kd.R_mono HO281.out (fun _ hk => hk.1)⟩, ⟨by (with_reducible repeat (first | apply Kd.R_alloc | apply Kd.R_drewN | apply Kd.R_drew)); exact Kd.R_mono HO284.out (fun _ hk => hk.1)⟩, ⟨by (with_reducible repeat (first | apply Kd.R_alloc | apply Kd.R_drewN | apply Kd.R_drew)); exact Kd.R_mono HO287.out (fun _ hk => hk.1.1)⟩, ⟨by (with_reducible repeat (first | apply Kd.R_alloc | apply Kd.R_drewN | apply Kd.R_drew)); exact Kd.R_mono HO292.out (fun _ hk => hk.1.1)⟩, ⟨by (with_reducible repeat (first | refine blk_drewN ?_ _ | refine blk_drew ?_ | refine blk_alloc ?_ _)); exact BK293.out⟩, ⟨by repeat (first | (with_reducible first | exact HB.out | apply below_alloc | apply pw_below_drewN | apply below_drew1 | refine below_set ?_ GE293.out) | exact HB.out)⟩⟩
  case rest =>
   clear HC5
   try clear c1
   try clear c2
   try clear c2b0
   try clear c2b1
   try clear p2
   try clear c4
   try clear c10
   try clear c12
   try clear c14
   try clear c15
   try clear c16
   try clear c17
   try clear hcz11_0
   try clear hcz11_1
   try clear hcz11_2
   try clear hcz11_3
   try clear hcz11_4
   try clear hfz11_0
   try clear hfz11_1
   try clear hfz11_2
   try clear hfz11_3
   try clear hfz11_4
   obtain ⟨kq, x23_4, rfl, HA, HJ4, HO_3, HO_294000, HO_294001, HO_294004, BK293, HB⟩ := hcut
   cases kq with
   | zero => exact absurd HA.out (by simp [laws_FnPartNew.j0])
   | succ kj4 =>
    have H := HA.out
    clear HA
    simp only [laws_FnPartNew.j0] at H
    by_cases c35 : x23_4 = true
    ·subst c35
     have H1 : (some false) = some r := by rw [if_pos rfl] at H; exact H
     clear H
     have H := H1
     clear H1
     obtain rfl := Option.some.inj H
     go_wp2
     go_ret
     exact ⟨by first | rfl | (simp [errW_none, errW_some] <;> rfl) | (simp [*, errW_none, errW_some] <;> rfl), by repeat (first | (with_reducible first | exact HB.out | apply below_alloc | apply pw_below_drewN | apply below_drew1 | refine below_set ?_ GE293.out) | exact HB.out)⟩
    ·replace c35 := Bool.eq_false_iff.mpr c35
     subst c35
     have H1 : ((impl_PartOk.f kj4 t282 t285 t288 t289 t290).bind fun t308 => ((spec_ProgOk.f kj4 t279).bind fun t309 => (if (t308 == t309) = true then (if t288 = 0 then (if t289 = true then (some false) else (some ((t290.length : Int) == 0))) else (some false)) else (some false)))) = some r := by rw [if_neg (show ¬ (false = true) by decide)] at H; exact H
     clear H
     have H := H1
     clear H1
     replace H := Option.bind_eq_some_iff.mp H
     obtain ⟨t308, A360, H⟩ := H
     replace H : ((spec_ProgOk.f kj4 t279).bind fun t309 => (if (t308 == t309) = true then (if t288 = 0 then (if t289 = true then (some false) else (some ((t290.length : Int) == 0))) else (some false)) else (some false))) = some r := H
     have A36 := Aside0.mk A360
     clear A360
     replace H := Option.bind_eq_some_iff.mp H
     obtain ⟨t309, A370, H⟩ := H
     replace H : (if (t308 == t309) = true then (if t288 = 0 then (if t289 = true then (some false) else (some ((t290.length : Int) == 0))) else (some false)) else (some false)) = some r := H
     have A37 := Aside0.mk A370
     clear A370
     by_cases c38 : (t308 == t309) = true
     ·rw [if_pos c38] at H
      have c38b0 : (t308 == t309) = true := c38
      (try (have c38b1 : decide (t308 = t309) = true := by simpa using c38))
      (try (have c38b2 : (t308 == t309) = true := by simpa using c38))
      clear c38
      by_cases c39 : t288 = 0
      ·rw [if_pos c39] at H
       have c39b0 : (t288 == 0) = true := beq_iff_eq.mpr c39
       have c39b1 : (t288 != 0) = false := bne_eq_false_iff_eq.mpr c39
       clear c39
       by_cases c40 : t289 = true
       ·subst c40
        have H1 : (some false) = some r := by rw [if_pos rfl] at H; exact H
        clear H
        have H := H1
        clear H1
        obtain rfl := Option.some.inj H
        have hcz41_0 : wc.cell? ⟨gb293, 0, none⟩ = some (.slice Ao10 t282.length co10) := (blk_cell BK293.out 0).trans rfl
        have hcz41_1 : wc.cell? ⟨gb293, 1, none⟩ = some (.slice Ao12 t285.length co12) := (blk_cell BK293.out 1).trans rfl
        have hcz41_2 : wc.cell? ⟨gb293, 2, none⟩ = some (.int .i64 t288) := (blk_cell BK293.out 2).trans rfl
        have hcz41_3 : wc.cell? ⟨gb293, 3, none⟩ = some (.bool true) := (blk_cell BK293.out 3).trans rfl
        have hcz41_4 : wc.cell? ⟨gb293, 4, none⟩ = some (.slice Ao13 t290.length co13) := (blk_cell BK293.out 4).trans rfl
        have hfz41_0 := blk_frozen BK293.out 0
        have hfz41_1 := blk_frozen BK293.out 1
        have hfz41_2 := blk_frozen BK293.out 2
        have hfz41_3 := blk_frozen BK293.out 3
        have hfz41_4 := blk_frozen BK293.out 4
        go_wp2_with (first | ((with_reducible refine gate_callee (f := 18) rfl ?_); refine goesL_ (some 25) rfl rfl Try.func18 (by kernel_rfl) rfl #[.agg #[.slice Ao10 t282.length co10, .slice Ao12 t285.length co12, .int .i64 t288, .bool true, .slice Ao13 t290.length co13]] rfl gl_ ?_; (with_reducible refine (impl_PartOk.calls kj4 _ _ t282 _ _ t285 t288 true _ _ t290 t308 _ ?side1 ?side2 ?side3 ?side4 ?side5 ?side6 A36.out).mono ?_); (case side1 => exact cN (Kd.R_reads' HO_294000.out).2.2); (case side2 => exact (Kd.R_reads' HO_294000.out).2.1); (case side3 => exact cN (Kd.R_reads' HO_294001.out).2.2); (case side4 => exact (Kd.R_reads' HO_294001.out).2.1); (case side5 => exact cN (Kd.R_reads' HO_294004.out).2.2); (case side6 => exact (Kd.R_reads' HO_294004.out).2.1); rintro e w42 ⟨rfl, hb⟩; refine ⟨_, rfl, ?_⟩; have n0_ := m_ (Kd.R_below (rN HO_3.out) hb); have n1_ := m_ (Kd.R_below (rN HO_294000.out) hb); have n2_ := m_ (Kd.R_below (rN HO_294001.out) hb); have n3_ := m_ (Kd.R_below (rN HO_294004.out) hb); have n4_ := m_ (blk_below (kN BK293.out) hb); have n5_ := m_ (below_step (bN HB.out) hb); clear HO_3; clear HO_294000; clear HO_294001; clear HO_294004; clear BK293; clear HB; have HO_3 := n0_; have HO_294000 := n1_; have HO_294001 := n2_; have HO_294004 := n3_; have BK293 := n4_; have HB := n5_; clear n0_ n1_ n2_ n3_ n4_ n5_; (try clear hb); (try clear hb2); (try clear hk); (try clear hi)) | ((with_reducible refine gate_callee (f := 10) rfl ?_); refine goesL_ (some 27) rfl rfl Try.func10 (by kernel_rfl) rfl #[.slice Ao7 t279.length co7] rfl gl_ ?_; (with_reducible refine (spec_ProgOk.calls kj4 _ _ t279 t309 _ ?side1 ?side2 A37.out).mono ?_); (case side1 => exact cN (Kd.R_reads' HO_3.out).2.2); (case side2 => exact (Kd.R_reads' HO_3.out).2.1); rintro e w43 ⟨rfl, hb⟩; refine ⟨_, rfl, ?_⟩; have n0_ := m_ (Kd.R_below (rN HO_3.out) hb); have n1_ := m_ (Kd.R_below (rN HO_294000.out) hb); have n2_ := m_ (Kd.R_below (rN HO_294001.out) hb); have n3_ := m_ (Kd.R_below (rN HO_294004.out) hb); have n4_ := m_ (blk_below (kN BK293.out) hb); have n5_ := m_ (below_step (bN HB.out) hb); clear HO_3; clear HO_294000; clear HO_294001; clear HO_294004; clear BK293; clear HB; have HO_3 := n0_; have HO_294000 := n1_; have HO_294001 := n2_; have HO_294004 := n3_; have BK293 := n4_; have HB := n5_; clear n0_ n1_ n2_ n3_ n4_ n5_; (try clear hb); (try clear hb2); (try clear hk); (try clear hi); have hcz44_0 : w43.cell? ⟨gb293, 0, none⟩ = some (.slice Ao10 t282.length co10) := (blk_cell BK293.out 0).trans rfl; have hcz44_1 : w43.cell? ⟨gb293, 1, none⟩ = some (.slice Ao12 t285.length co12) := (blk_cell BK293.out 1).trans rfl; have hcz44_2 : w43.cell? ⟨gb293, 2, none⟩ = some (.int .i64 t288) := (blk_cell BK293.out 2).trans rfl; have hcz44_3 : w43.cell? ⟨gb293, 3, none⟩ = some (.bool true) := (blk_cell BK293.out 3).trans rfl; have hcz44_4 : w43.cell? ⟨gb293, 4, none⟩ = some (.slice Ao13 t290.length co13) := (blk_cell BK293.out 4).trans rfl; have hfz44_0 := blk_frozen BK293.out 0; have hfz44_1 := blk_frozen BK293.out 1; have hfz44_2 := blk_frozen BK293.out 2; have hfz44_3 := blk_frozen BK293.out 3; have hfz44_4 := blk_frozen BK293.out 4))
        go_ret
        exact ⟨by first | rfl | (simp [errW_none, errW_some] <;> rfl) | (simp [*, errW_none, errW_some] <;> rfl), by repeat (first | (with_reducible first | exact HB.out | apply below_alloc | apply pw_below_drewN | apply below_drew1 | refine below_set ?_ GE293.out) | exact HB.out)⟩
       ·replace c40 := Bool.eq_false_iff.mpr c40
        subst c40
        have H1 : (some ((t290.length : Int) == 0)) = some r := by rw [if_neg (show ¬ (false = true) by decide)] at H; exact H
        clear H
        have H := H1
        clear H1
        obtain rfl := Option.some.inj H
        have hcz45_0 : wc.cell? ⟨gb293, 0, none⟩ = some (.slice Ao10 t282.length co10) := (blk_cell BK293.out 0).trans rfl
        have hcz45_1 : wc.cell? ⟨gb293, 1, none⟩ = some (.slice Ao12 t285.length co12) := (blk_cell BK293.out 1).trans rfl
        have hcz45_2 : wc.cell? ⟨gb293, 2, none⟩ = some (.int .i64 t288) := (blk_cell BK293.out 2).trans rfl
        have hcz45_3 : wc.cell? ⟨gb293, 3, none⟩ = some (.bool false) := (blk_cell BK293.out 3).trans rfl
        have hcz45_4 : wc.cell? ⟨gb293, 4, none⟩ = some (.slice Ao13 t290.length co13) := (blk_cell BK293.out 4).trans rfl
        have hfz45_0 := blk_frozen BK293.out 0
        have hfz45_1 := blk_frozen BK293.out 1
        have hfz45_2 := blk_frozen BK293.out 2
        have hfz45_3 := blk_frozen BK293.out 3
        have hfz45_4 := blk_frozen BK293.out 4
        go_wp2_with (first | ((with_reducible refine gate_callee (f := 18) rfl ?_); refine goesL_ (some 25) rfl rfl Try.func18 (by kernel_rfl) rfl #[.agg #[.slice Ao10 t282.length co10, .slice Ao12 t285.length co12, .int .i64 t288, .bool false, .slice Ao13 t290.length co13]] rfl gl_ ?_; (with_reducible refine (impl_PartOk.calls kj4 _ _ t282 _ _ t285 t288 false _ _ t290 t308 _ ?side1 ?side2 ?side3 ?side4 ?side5 ?side6 A36.out).mono ?_); (case side1 => exact cN (Kd.R_reads' HO_294000.out).2.2); (case side2 => exact (Kd.R_reads' HO_294000.out).2.1); (case side3 => exact cN (Kd.R_reads' HO_294001.out).2.2); (case side4 => exact (Kd.R_reads' HO_294001.out).2.1); (case side5 => exact cN (Kd.R_reads' HO_294004.out).2.2); (case side6 => exact (Kd.R_reads' HO_294004.out).2.1); rintro e w46 ⟨rfl, hb⟩; refine ⟨_, rfl, ?_⟩; have n0_ := m_ (Kd.R_below (rN HO_3.out) hb); have n1_ := m_ (Kd.R_below (rN HO_294000.out) hb); have n2_ := m_ (Kd.R_below (rN HO_294001.out) hb); have n3_ := m_ (Kd.R_below (rN HO_294004.out) hb); have n4_ := m_ (blk_below (kN BK293.out) hb); have n5_ := m_ (below_step (bN HB.out) hb); clear HO_3; clear HO_294000; clear HO_294001; clear HO_294004; clear BK293; clear HB; have HO_3 := n0_; have HO_294000 := n1_; have HO_294001 := n2_; have HO_294004 := n3_; have BK293 := n4_; have HB := n5_; clear n0_ n1_ n2_ n3_ n4_ n5_; (try clear hb); (try clear hb2); (try clear hk); (try clear hi)) | ((with_reducible refine gate_callee (f := 10) rfl ?_); refine goesL_ (some 27) rfl rfl Try.func10 (by kernel_rfl) rfl #[.slice Ao7 t279.length co7] rfl gl_ ?_; (with_reducible refine (spec_ProgOk.calls kj4 _ _ t279 t309 _ ?side1 ?side2 A37.out).mono ?_); (case side1 => exact cN (Kd.R_reads' HO_3.out).2.2); (case side2 => exact (Kd.R_reads' HO_3.out).2.1); rintro e w47 ⟨rfl, hb⟩; refine ⟨_, rfl, ?_⟩; have n0_ := m_ (Kd.R_below (rN HO_3.out) hb); have n1_ := m_ (Kd.R_below (rN HO_294000.out) hb); have n2_ := m_ (Kd.R_below (rN HO_294001.out) hb); have n3_ := m_ (Kd.R_below (rN HO_294004.out) hb); have n4_ := m_ (blk_below (kN BK293.out) hb); have n5_ := m_ (below_step (bN HB.out) hb); clear HO_3; clear HO_294000; clear HO_294001; clear HO_294004; clear BK293; clear HB; have HO_3 := n0_; have HO_294000 := n1_; have HO_294001 := n2_; have HO_294004 := n3_; have BK293 := n4_; have HB := n5_; clear n0_ n1_ n2_ n3_ n4_ n5_; (try clear hb); (try clear hb2); (try clear hk); (try clear hi); have hcz48_0 : w47.cell? ⟨gb293, 0, none⟩ = some (.slice Ao10 t282.length co10) := (blk_cell BK293.out 0).trans rfl; have hcz48_1 : w47.cell? ⟨gb293, 1, none⟩ = some (.slice Ao12 t285.length co12) := (blk_cell BK293.out 1).trans rfl; have hcz48_2 : w47.cell? ⟨gb293, 2, none⟩ = some (.int .i64 t288) := (blk_cell BK293.out 2).trans rfl; have hcz48_3 : w47.cell? ⟨gb293, 3, none⟩ = some (.bool false) := (blk_cell BK293.out 3).trans rfl; have hcz48_4 : w47.cell? ⟨gb293, 4, none⟩ = some (.slice Ao13 t290.length co13) := (blk_cell BK293.out 4).trans rfl; have hfz48_0 := blk_frozen BK293.out 0; have hfz48_1 := blk_frozen BK293.out 1; have hfz48_2 := blk_frozen BK293.out 2; have hfz48_3 := blk_frozen BK293.out 3; have hfz48_4 := blk_frozen BK293.out 4))
        go_ret
        exact ⟨by first | rfl | (simp [errW_none, errW_some] <;> rfl) | (simp [*, errW_none, errW_some] <;> rfl), by repeat (first | (with_reducible first | exact HB.out | apply below_alloc | apply pw_below_drewN | apply below_drew1 | refine below_set ?_ GE293.out) | exact HB.out)⟩
      ·rw [if_neg c39] at H
       have c39b0 : (t288 == 0) = false := beq_eq_false_iff_ne.mpr c39
       have c39b1 : (t288 != 0) = true := bne_iff_ne.mpr c39
       obtain rfl := Option.some.inj H
       have hcz49_0 : wc.cell? ⟨gb293, 0, none⟩ = some (.slice Ao10 t282.length co10) := (blk_cell BK293.out 0).trans rfl
       have hcz49_1 : wc.cell? ⟨gb293, 1, none⟩ = some (.slice Ao12 t285.length co12) := (blk_cell BK293.out 1).trans rfl
       have hcz49_2 : wc.cell? ⟨gb293, 2, none⟩ = some (.int .i64 t288) := (blk_cell BK293.out 2).trans rfl
       have hcz49_3 : wc.cell? ⟨gb293, 3, none⟩ = some (.bool t289) := (blk_cell BK293.out 3).trans rfl
       have hcz49_4 : wc.cell? ⟨gb293, 4, none⟩ = some (.slice Ao13 t290.length co13) := (blk_cell BK293.out 4).trans rfl
       have hfz49_0 := blk_frozen BK293.out 0
       have hfz49_1 := blk_frozen BK293.out 1
       have hfz49_2 := blk_frozen BK293.out 2
       have hfz49_3 := blk_frozen BK293.out 3
       have hfz49_4 := blk_frozen BK293.out 4
       go_wp2_with (first | ((with_reducible refine gate_callee (f := 18) rfl ?_); refine goesL_ (some 25) rfl rfl Try.func18 (by kernel_rfl) rfl #[.agg #[.slice Ao10 t282.length co10, .slice Ao12 t285.length co12, .int .i64 t288, .bool t289, .slice Ao13 t290.length co13]] rfl gl_ ?_; (with_reducible refine (impl_PartOk.calls kj4 _ _ t282 _ _ t285 t288 t289 _ _ t290 t308 _ ?side1 ?side2 ?side3 ?side4 ?side5 ?side6 A36.out).mono ?_); (case side1 => exact cN (Kd.R_reads' HO_294000.out).2.2); (case side2 => exact (Kd.R_reads' HO_294000.out).2.1); (case side3 => exact cN (Kd.R_reads' HO_294001.out).2.2); (case side4 => exact (Kd.R_reads' HO_294001.out).2.1); (case side5 => exact cN (Kd.R_reads' HO_294004.out).2.2); (case side6 => exact (Kd.R_reads' HO_294004.out).2.1); rintro e w50 ⟨rfl, hb⟩; refine ⟨_, rfl, ?_⟩; have n0_ := m_ (Kd.R_below (rN HO_3.out) hb); have n1_ := m_ (Kd.R_below (rN HO_294000.out) hb); have n2_ := m_ (Kd.R_below (rN HO_294001.out) hb); have n3_ := m_ (Kd.R_below (rN HO_294004.out) hb); have n4_ := m_ (blk_below (kN BK293.out) hb); have n5_ := m_ (below_step (bN HB.out) hb); clear HO_3; clear HO_294000; clear HO_294001; clear HO_294004; clear BK293; clear HB; have HO_3 := n0_; have HO_294000 := n1_; have HO_294001 := n2_; have HO_294004 := n3_; have BK293 := n4_; have HB := n5_; clear n0_ n1_ n2_ n3_ n4_ n5_; (try clear hb); (try clear hb2); (try clear hk); (try clear hi)) | ((with_reducible refine gate_callee (f := 10) rfl ?_); refine goesL_ (some 27) rfl rfl Try.func10 (by kernel_rfl) rfl #[.slice Ao7 t279.length co7] rfl gl_ ?_; (with_reducible refine (spec_ProgOk.calls kj4 _ _ t279 t309 _ ?side1 ?side2 A37.out).mono ?_); (case side1 => exact cN (Kd.R_reads' HO_3.out).2.2); (case side2 => exact (Kd.R_reads' HO_3.out).2.1); rintro e w51 ⟨rfl, hb⟩; refine ⟨_, rfl, ?_⟩; have n0_ := m_ (Kd.R_below (rN HO_3.out) hb); have n1_ := m_ (Kd.R_below (rN HO_294000.out) hb); have n2_ := m_ (Kd.R_below (rN HO_294001.out) hb); have n3_ := m_ (Kd.R_below (rN HO_294004.out) hb); have n4_ := m_ (blk_below (kN BK293.out) hb); have n5_ := m_ (below_step (bN HB.out) hb); clear HO_3; clear HO_294000; clear HO_294001; clear HO_294004; clear BK293; clear HB; have HO_3 := n0_; have HO_294000 := n1_; have HO_294001 := n2_; have HO_294004 := n3_; have BK293 := n4_; have HB := n5_; clear n0_ n1_ n2_ n3_ n4_ n5_; (try clear hb); (try clear hb2); (try clear hk); (try clear hi); have hcz52_0 : w51.cell? ⟨gb293, 0, none⟩ = some (.slice Ao10 t282.length co10) := (blk_cell BK293.out 0).trans rfl; have hcz52_1 : w51.cell? ⟨gb293, 1, none⟩ = some (.slice Ao12 t285.length co12) := (blk_cell BK293.out 1).trans rfl; have hcz52_2 : w51.cell? ⟨gb293, 2, none⟩ = some (.int .i64 t288) := (blk_cell BK293.out 2).trans rfl; have hcz52_3 : w51.cell? ⟨gb293, 3, none⟩ = some (.bool t289) := (blk_cell BK293.out 3).trans rfl; have hcz52_4 : w51.cell? ⟨gb293, 4, none⟩ = some (.slice Ao13 t290.length co13) := (blk_cell BK293.out 4).trans rfl; have hfz52_0 := blk_frozen BK293.out 0; have hfz52_1 := blk_frozen BK293.out 1; have hfz52_2 := blk_frozen BK293.out 2; have hfz52_3 := blk_frozen BK293.out 3; have hfz52_4 := blk_frozen BK293.out 4))
       go_ret
       exact ⟨by first | rfl | (simp [errW_none, errW_some] <;> rfl) | (simp [*, errW_none, errW_some] <;> rfl), by repeat (first | (with_reducible first | exact HB.out | apply below_alloc | apply pw_below_drewN | apply below_drew1 | refine below_set ?_ GE293.out) | exact HB.out)⟩
     ·rw [if_neg c38] at H
      have c38b0 : (t308 == t309) = false := by simpa using c38
      (try (have c38b1 : decide (t308 = t309) = false := by simpa using c38))
      (try (have c38b2 : (t308 == t309) = false := by simpa using c38))
      (try (have c38b3 : ¬ (t308 = t309) := by simpa using c38))
      clear c38
      obtain rfl := Option.some.inj H
      have hcz53_0 : wc.cell? ⟨gb293, 0, none⟩ = some (.slice Ao10 t282.length co10) := (blk_cell BK293.out 0).trans rfl
      have hcz53_1 : wc.cell? ⟨gb293, 1, none⟩ = some (.slice Ao12 t285.length co12) := (blk_cell BK293.out 1).trans rfl
      have hcz53_2 : wc.cell? ⟨gb293, 2, none⟩ = some (.int .i64 t288) := (blk_cell BK293.out 2).trans rfl
      have hcz53_3 : wc.cell? ⟨gb293, 3, none⟩ = some (.bool t289) := (blk_cell BK293.out 3).trans rfl
      have hcz53_4 : wc.cell? ⟨gb293, 4, none⟩ = some (.slice Ao13 t290.length co13) := (blk_cell BK293.out 4).trans rfl
      have hfz53_0 := blk_frozen BK293.out 0
      have hfz53_1 := blk_frozen BK293.out 1
      have hfz53_2 := blk_frozen BK293.out 2
      have hfz53_3 := blk_frozen BK293.out 3
      have hfz53_4 := blk_frozen BK293.out 4
      go_wp2_with (first | ((with_reducible refine gate_callee (f := 18) rfl ?_); refine goesL_ (some 25) rfl rfl Try.func18 (by kernel_rfl) rfl #[.agg #[.slice Ao10 t282.length co10, .slice Ao12 t285.length co12, .int .i64 t288, .bool t289, .slice Ao13 t290.length co13]] rfl gl_ ?_; (with_reducible refine (impl_PartOk.calls kj4 _ _ t282 _ _ t285 t288 t289 _ _ t290 t308 _ ?side1 ?side2 ?side3 ?side4 ?side5 ?side6 A36.out).mono ?_); (case side1 => exact cN (Kd.R_reads' HO_294000.out).2.2); (case side2 => exact (Kd.R_reads' HO_294000.out).2.1); (case side3 => exact cN (Kd.R_reads' HO_294001.out).2.2); (case side4 => exact (Kd.R_reads' HO_294001.out).2.1); (case side5 => exact cN (Kd.R_reads' HO_294004.out).2.2); (case side6 => exact (Kd.R_reads' HO_294004.out).2.1); rintro e w54 ⟨rfl, hb⟩; refine ⟨_, rfl, ?_⟩; have n0_ := m_ (Kd.R_below (rN HO_3.out) hb); have n1_ := m_ (Kd.R_below (rN HO_294000.out) hb); have n2_ := m_ (Kd.R_below (rN HO_294001.out) hb); have n3_ := m_ (Kd.R_below (rN HO_294004.out) hb); have n4_ := m_ (blk_below (kN BK293.out) hb); have n5_ := m_ (below_step (bN HB.out) hb); clear HO_3; clear HO_294000; clear HO_294001; clear HO_294004; clear BK293; clear HB; have HO_3 := n0_; have HO_294000 := n1_; have HO_294001 := n2_; have HO_294004 := n3_; have BK293 := n4_; have HB := n5_; clear n0_ n1_ n2_ n3_ n4_ n5_; (try clear hb); (try clear hb2); (try clear hk); (try clear hi)) | ((with_reducible refine gate_callee (f := 10) rfl ?_); refine goesL_ (some 27) rfl rfl Try.func10 (by kernel_rfl) rfl #[.slice Ao7 t279.length co7] rfl gl_ ?_; (with_reducible refine (spec_ProgOk.calls kj4 _ _ t279 t309 _ ?side1 ?side2 A37.out).mono ?_); (case side1 => exact cN (Kd.R_reads' HO_3.out).2.2); (case side2 => exact (Kd.R_reads' HO_3.out).2.1); rintro e w55 ⟨rfl, hb⟩; refine ⟨_, rfl, ?_⟩; have n0_ := m_ (Kd.R_below (rN HO_3.out) hb); have n1_ := m_ (Kd.R_below (rN HO_294000.out) hb); have n2_ := m_ (Kd.R_below (rN HO_294001.out) hb); have n3_ := m_ (Kd.R_below (rN HO_294004.out) hb); have n4_ := m_ (blk_below (kN BK293.out) hb); have n5_ := m_ (below_step (bN HB.out) hb); clear HO_3; clear HO_294000; clear HO_294001; clear HO_294004; clear BK293; clear HB; have HO_3 := n0_; have HO_294000 := n1_; have HO_294001 := n2_; have HO_294004 := n3_; have BK293 := n4_; have HB := n5_; clear n0_ n1_ n2_ n3_ n4_ n5_; (try clear hb); (try clear hb2); (try clear hk); (try clear hi)))
      go_ret
      exact ⟨by first | rfl | (simp [errW_none, errW_some] <;> rfl) | (simp [*, errW_none, errW_some] <;> rfl), by repeat (first | (with_reducible first | exact HB.out | apply below_alloc | apply pw_below_drewN | apply below_drew1 | refine below_set ?_ GE293.out) | exact HB.out)⟩

/-- THE ONE PURE STATEMENT of laws_FnPartNew: yours. -/
def laws_FnPartNew.Pure : Prop := ∀ (l0 : List Int), l0.length ≤ maxLen → l0.length * 1 ≤ 140737488351232 → (∀ x ∈ l0, (Lit.int .u8 x).wf = true) → ∃ k, laws_FnPartNew.f k l0 = some true
theorem laws_FnPartNew.walk (P : laws_FnPartNew.Pure) (a0 : Option Addr) (len0 cap0 : Nat) (z0 : List Int) (w : World) (w0 : (a0 = none ∧ len0 = 0 ∧ cap0 = 0 ∧ z0 = []) ∨ ∃ x, a0 = some x ∧ len0 ≤ cap0 ∧ cap0 ≤ maxLen ∧ z0.length = cap0 ∧ (∀ i, i < z0.length → w.cell? (x.add i) = some (.int .u8 (z0.getD i 0))) ∧ ∀ n ∈ z0, (Lit.int .u8 n).wf = true) (y0 : len0 * 1 ≤ 140737488351232) :
  Calls Try.prog 4 #[.slice a0 len0 cap0] w fun e w' => e = .returned (.bool true) ∧ Below w.heap.size w w' := by
 obtain ⟨l0, rfl, hr0, hm0, hw0, hc0⟩ := ReadsInt.ofRowC w0
 obtain ⟨k, h⟩ := P l0 hm0 y0 hw0
 refine (laws_FnPartNew.calls k _ _ l0 true w (Kd.C_of_reads (d := (0 : Int)) (h1 := fun _ => rfl) hr0) hc0 h).mono ?_
 rintro e w' ⟨rfl, hd⟩
 exact ⟨rfl, hd⟩

end Go.Proofs.Ytmhdphohhheoaaa.P
