/- The machine side of these statements, function by function: what each Go function answers (as a Lean function), and that it does. Written by a program (mp.py) for this claim. -/
import Derived.Test.YtcenmlpfbpogoaaDoorPx0
import Derived.Test.YtcenmlpfbpogoaaDoorPx8
namespace Go.Proofs.YtcenmlpfbpogoaaDoor.P
open Go.RowKit Go.Proofs.YtcenmlpfbpogoaaDoorW.PrintWords Go.Proofs.YtcenmlpfbpogoaaDoorW.PrintLast Go.Proofs.YtcenmlpfbpogoaaDoorW.PrintMore
attribute [local go_sem] max2_int min2_int max_two min_two max_three min_three max_four min_four   -- for this text's walks alone
set_option linter.unusedVariables false
set_option linter.unusedSimpArgs false

/-! ### spec_l10Ok: function 74 -/
mutual
def spec_l10Ok.j0 : Nat → Int → Int → Bool → Int → Int → Int → Option (Bool)
 | 0, _, _, _, _, _, _ => none
 | k + 1, x1, x6, x7, x240000, x240001, x240002 => if x7 = true then ((spec_l10Cell.f x240001).bind fun t240 => (if t240 = true then ((spec_l1In.f x240002 0 9999).bind fun t241 => (some t241)) else (some false))) else (if x6 = 2 then (spec_l10Ok.j1 k x1 x6 (x6 == 2) x240000 x240001 x240002) else (spec_l10Ok.j1 k x1 x6 (x6 == 13) x240000 x240001 x240002))
def spec_l10Ok.j1 : Nat → Int → Int → Bool → Int → Int → Int → Option (Bool)
 | 0, _, _, _, _, _, _ => none
 | k + 1, x1, x6, x18, x240000, x240001, x240002 => if x18 = true then ((spec_l10Cell.f x240001).bind fun t242 => (if t242 = true then ((spec_l10Cell.f x240002).bind fun t243 => (some t243)) else (some false))) else (if x6 = 5 then ((spec_l10Cell.f x240001).bind fun t244 => (if t244 = true then ((spec_l1In.f x240002 0 (wrap64 (x1 - 1))).bind fun t245 => (some t245)) else (some false))) else (if x6 = 9 then (spec_l10Ok.j2 k x6 (x6 == 9) x240000 x240001 x240002) else (spec_l10Ok.j2 k x6 (x6 == 10) x240000 x240001 x240002)))
def spec_l10Ok.j2 : Nat → Int → Bool → Int → Int → Int → Option (Bool)
 | 0, _, _, _, _, _ => none
 | k + 1, x6, x41, x240000, x240001, x240002 => if x41 = true then ((spec_l10Cell.f x240001).bind fun t246 => (if t246 = true then ((spec_l1In.f x240002 0 3).bind fun t247 => (some t247)) else (some false))) else (if x6 = 4 then (spec_l10Ok.j3 k x6 (x6 == 4) x240000 x240001 x240002) else (if x6 = 6 then (spec_l10Ok.j3 k x6 (x6 == 6) x240000 x240001 x240002) else (if x6 = 7 then (spec_l10Ok.j3 k x6 (x6 == 7) x240000 x240001 x240002) else (if x6 = 8 then (spec_l10Ok.j3 k x6 (x6 == 8) x240000 x240001 x240002) else (spec_l10Ok.j3 k x6 (x6 == 12) x240000 x240001 x240002)))))
def spec_l10Ok.j3 : Nat → Int → Bool → Int → Int → Int → Option (Bool)
 | 0, _, _, _, _, _ => none
 | k + 1, x6, x52, x240000, x240001, x240002 => if x52 = true then ((spec_l10Cell.f x240001).bind fun t248 => (if t248 = true then (some (x240002 == 0)) else (some false))) else (if x6 = 11 then (if x240001 = 0 then (some (x240002 == 0)) else (some false)) else (some false))
end
def spec_l10Ok.f (k : Nat) (a0_0 : Int) (a0_1 : Int) (a0_2 : Int) (a1 : Int) : Option (Bool) := if a0_0 = 1 then (spec_l10Ok.j0 k a1 a0_0 (a0_0 == 1) a0_0 a0_1 a0_2) else (spec_l10Ok.j0 k a1 a0_0 (a0_0 == 3) a0_0 a0_1 a0_2)
theorem spec_l10Ok.mono_l : ∀ k, (∀ y0 y1 y2 y3 y4 y5, LeO (spec_l10Ok.j0 k y0 y1 y2 y3 y4 y5) (spec_l10Ok.j0 (k + 1) y0 y1 y2 y3 y4 y5)) ∧ (∀ y0 y1 y2 y3 y4 y5, LeO (spec_l10Ok.j1 k y0 y1 y2 y3 y4 y5) (spec_l10Ok.j1 (k + 1) y0 y1 y2 y3 y4 y5)) ∧ (∀ y0 y1 y2 y3 y4, LeO (spec_l10Ok.j2 k y0 y1 y2 y3 y4) (spec_l10Ok.j2 (k + 1) y0 y1 y2 y3 y4)) ∧ (∀ y0 y1 y2 y3 y4, LeO (spec_l10Ok.j3 k y0 y1 y2 y3 y4) (spec_l10Ok.j3 (k + 1) y0 y1 y2 y3 y4))
 | 0 => ⟨fun _ _ _ _ _ _ r h => by simp [spec_l10Ok.j0] at h, fun _ _ _ _ _ _ r h => by simp [spec_l10Ok.j1] at h, fun _ _ _ _ _ r h => by simp [spec_l10Ok.j2] at h, fun _ _ _ _ _ r h => by simp [spec_l10Ok.j3] at h⟩
 | k + 1 => by
  obtain ⟨ih0, ih1, ih2, ih3⟩ := spec_l10Ok.mono_l k
  refine ⟨?_, ?_, ?_, ?_⟩
  ·intro y0 y1 y2 y3 y4 y5
   unfold spec_l10Ok.j0
   repeat' first
   | (with_reducible exact ih0 _ _ _ _ _ _)
   | (with_reducible exact ih1 _ _ _ _ _ _)
   | (with_reducible exact ih2 _ _ _ _ _)
   | (with_reducible exact ih3 _ _ _ _ _)
   | (with_reducible exact LeO.refl _)
   | (with_reducible exact LeO.none _)
   | (with_reducible refine LeO.ite ?_ ?_)
   | (with_reducible refine LeO.bind ?_ (fun _ => ?_))
   | exact ih0 _ _ _ _ _ _
   | exact ih1 _ _ _ _ _ _
   | exact ih2 _ _ _ _ _
   | exact ih3 _ _ _ _ _
   | exact LeO.none _
   | refine LeO.ite ?_ ?_
   | refine LeO.bind ?_ (fun _ => ?_)
  ·intro y0 y1 y2 y3 y4 y5
   unfold spec_l10Ok.j1
   repeat' first
   | (with_reducible exact ih0 _ _ _ _ _ _)
   | (with_reducible exact ih1 _ _ _ _ _ _)
   | (with_reducible exact ih2 _ _ _ _ _)
   | (with_reducible exact ih3 _ _ _ _ _)
   | (with_reducible exact LeO.refl _)
   | (with_reducible exact LeO.none _)
   | (with_reducible refine LeO.ite ?_ ?_)
   | (with_reducible refine LeO.bind ?_ (fun _ => ?_))
   | exact ih0 _ _ _ _ _ _
   | exact ih1 _ _ _ _ _ _
   | exact ih2 _ _ _ _ _
   | exact ih3 _ _ _ _ _
   | exact LeO.none _
   | refine LeO.ite ?_ ?_
   | refine LeO.bind ?_ (fun _ => ?_)
  ·intro y0 y1 y2 y3 y4
   unfold spec_l10Ok.j2
   repeat' first
   | (with_reducible exact ih0 _ _ _ _ _ _)
   | (with_reducible exact ih1 _ _ _ _ _ _)
   | (with_reducible exact ih2 _ _ _ _ _)
   | (with_reducible exact ih3 _ _ _ _ _)
   | (with_reducible exact LeO.refl _)
   | (with_reducible exact LeO.none _)
   | (with_reducible refine LeO.ite ?_ ?_)
   | (with_reducible refine LeO.bind ?_ (fun _ => ?_))
   | exact ih0 _ _ _ _ _ _
   | exact ih1 _ _ _ _ _ _
   | exact ih2 _ _ _ _ _
   | exact ih3 _ _ _ _ _
   | exact LeO.none _
   | refine LeO.ite ?_ ?_
   | refine LeO.bind ?_ (fun _ => ?_)
  ·intro y0 y1 y2 y3 y4
   unfold spec_l10Ok.j3
   repeat' first
   | (with_reducible exact ih0 _ _ _ _ _ _)
   | (with_reducible exact ih1 _ _ _ _ _ _)
   | (with_reducible exact ih2 _ _ _ _ _)
   | (with_reducible exact ih3 _ _ _ _ _)
   | (with_reducible exact LeO.refl _)
   | (with_reducible exact LeO.none _)
   | (with_reducible refine LeO.ite ?_ ?_)
   | (with_reducible refine LeO.bind ?_ (fun _ => ?_))
   | exact ih0 _ _ _ _ _ _
   | exact ih1 _ _ _ _ _ _
   | exact ih2 _ _ _ _ _
   | exact ih3 _ _ _ _ _
   | exact LeO.none _
   | refine LeO.ite ?_ ?_
   | refine LeO.bind ?_ (fun _ => ?_)
theorem spec_l10Ok.mono : ∀ a0 a1 a2 a3 k, LeO (spec_l10Ok.f k a0 a1 a2 a3) (spec_l10Ok.f (k + 1) a0 a1 a2 a3) := by
 intro a0 a1 a2 a3 k
 obtain ⟨ih0, ih1, ih2, ih3⟩ := spec_l10Ok.mono_l k
 unfold spec_l10Ok.f
 repeat' first
   | (with_reducible exact ih0 _ _ _ _ _ _)
   | (with_reducible exact ih1 _ _ _ _ _ _)
   | (with_reducible exact ih2 _ _ _ _ _)
   | (with_reducible exact ih3 _ _ _ _ _)
   | (with_reducible exact LeO.refl _)
   | (with_reducible exact LeO.none _)
   | (with_reducible refine LeO.ite ?_ ?_)
   | (with_reducible refine LeO.bind ?_ (fun _ => ?_))
   | exact ih0 _ _ _ _ _ _
   | exact ih1 _ _ _ _ _ _
   | exact ih2 _ _ _ _ _
   | exact ih3 _ _ _ _ _
   | exact LeO.none _
   | refine LeO.ite ?_ ?_
   | refine LeO.bind ?_ (fun _ => ?_)
set_option maxHeartbeats 8000000 in
set_option maxRecDepth 100000 in
theorem spec_l10Ok.calls (k : Nat) (a0_0 : Int) (a0_1 : Int) (a0_2 : Int) (a1 : Int) (r : Bool) (w : World) (h : spec_l10Ok.f k a0_0 a0_1 a0_2 a1 = some r) :
  Calls Tryd.prog 74 #[.agg #[.int .i64 a0_0, .int .i64 a0_1, .int .i64 a0_2], .int .i64 a1] w fun e w' => e = .returned (.bool r) ∧ Below w.heap.size w w' := by
 have hu107 := Tryd.underlying107
 have HB := m_ (Below.refl w.heap.size w)
 have H : (if a0_0 = 1 then (spec_l10Ok.j0 k a1 a0_0 (a0_0 == 1) a0_0 a0_1 a0_2) else (spec_l10Ok.j0 k a1 a0_0 (a0_0 == 3) a0_0 a0_1 a0_2)) = some r := h
 clear h
 have HC3 := Aside0.mk H
 clear H
 go_enter Tryd.func74, Tryd.ntmps74
 go_upto_if 7 with (first | ((with_reducible refine gate_dst (N := 2) rfl ?_); refine box_event ?hg (N := 2) ?hd (cs := #[.int .i64 a0_0, .int .i64 a0_1, .int .i64 a0_2]) (t := 107) ?hr ?_; (case hd => rfl); (case hg => rfl); (case hr => first | (go_simp; done) | (go_simp; rfl)); intro gb239 hg w4 hbox hb; have n0_ := m_ (below_step (bN HB.out) hb); have n1_ := m_ (hbox); have n2_ := m_ ((by rw [hg]; exact (below_size (bN HB.out)) : w.heap.size ≤ gb239)); have n3_ := m_ ((by rw [hg]; exact (below_size (bN HB.out)) : w.heap.size ≤ gb239)); clear HB; have HB := n0_; have BK239 := n1_; have GW239 := n2_; have GE239 := n3_; clear n0_ n1_ n2_ n3_; clear hb hbox hg; have hcz5_0 : w4.cell? ⟨gb239, 0, none⟩ = some (.int .i64 a0_0) := bc BK239 0; have hcz5_1 : w4.cell? ⟨gb239, 1, none⟩ = some (.int .i64 a0_1) := bc BK239 1; have hcz5_2 : w4.cell? ⟨gb239, 2, none⟩ = some (.int .i64 a0_2) := bc BK239 2; have hfz5_0 := blk_frozen BK239.out 0; have hfz5_1 := blk_frozen BK239.out 1; have hfz5_2 := blk_frozen BK239.out 2))
 (try simp only [Act.put, List.setIfInBounds_toArray, List.set_cons_zero, List.set_cons_succ])
 go_cut [7] (fun v7 wc => ∃ (kq : Nat) (x7_2 : Bool), v7 = .bool x7_2 ∧ Aside0 (spec_l10Ok.j0 kq a1 a0_0 x7_2 a0_0 a0_1 a0_2 = some r) ∧ Aside0 (kq ≤ k) ∧ Aside0 (wc.heap[gb239]? = some (.cells #[.int .i64 a0_0, .int .i64 a0_1, .int .i64 a0_2] 107 (0, 0))) ∧ Aside0 (Below w.heap.size w wc))
 case first =>
  have H := HC3.out
  clear HC3
  by_cases c6 : a0_0 = 1
  ·rw [if_pos c6] at H
   have c6b0 : (a0_0 == 1) = true := beq_iff_eq.mpr c6
   have c6b1 : (a0_0 != 1) = false := bne_eq_false_iff_eq.mpr c6
   clear c6
   (first | rw [c6b0] | (simp only [i64_w, i32_w]; rw [c6b0]) | skip)
   have H' := Aside0.mk H
   clear H
   go_wp2
   go_meet
   case rel => exact ⟨_, ((a0_0 == 1)), (by first | rfl | (simp; done) | (simp [*]; done)), H', ⟨by first | omega | exact Nat.le_refl _⟩, ⟨kN BK239.out⟩, ⟨by repeat (first | (with_reducible first | exact HB.out | apply below_alloc | apply pw_below_drewN | apply below_drew1 | refine below_set ?_ GE239.out) | exact HB.out)⟩⟩
  ·rw [if_neg c6] at H
   have c6b0 : (a0_0 == 1) = false := beq_eq_false_iff_ne.mpr c6
   have c6b1 : (a0_0 != 1) = true := bne_iff_ne.mpr c6
   (first | rw [c6b0] | (simp only [i64_w, i32_w]; rw [c6b0]) | skip)
   have H' := Aside0.mk H
   clear H
   go_wp2
   go_meet
   case rel => exact ⟨_, ((a0_0 == 3)), (by first | rfl | (simp; done) | (simp [*]; done)), H', ⟨by first | omega | exact Nat.le_refl _⟩, ⟨kN BK239.out⟩, ⟨by repeat (first | (with_reducible first | exact HB.out | apply below_alloc | apply pw_below_drewN | apply below_drew1 | refine below_set ?_ GE239.out) | exact HB.out)⟩⟩
 case rest =>
  clear HC3
  try clear p2
  try clear c6
  try clear c6b0
  try clear c6b1
  try clear hcz5_0
  try clear hcz5_1
  try clear hcz5_2
  try clear hfz5_0
  try clear hfz5_1
  try clear hfz5_2
  obtain ⟨kq, x7_2, rfl, HA, HJ2, BK239, HB⟩ := hcut
  cases kq with
  | zero => exact absurd HA.out (by simp [spec_l10Ok.j0])
  | succ kj2 =>
   have H := HA.out
   clear HA
   simp only [spec_l10Ok.j0] at H
   by_cases c7 : x7_2 = true
   ·subst c7
    have H1 : ((spec_l10Cell.f a0_1).bind fun t240 => (if t240 = true then ((spec_l1In.f a0_2 0 9999).bind fun t241 => (some t241)) else (some false))) = some r := by rw [if_pos rfl] at H; exact H
    clear H
    have H := H1
    clear H1
    replace H := Option.bind_eq_some_iff.mp H
    obtain ⟨t240, A80, H⟩ := H
    replace H : (if t240 = true then ((spec_l1In.f a0_2 0 9999).bind fun t241 => (some t241)) else (some false)) = some r := H
    have A8 := Aside0.mk A80
    clear A80
    by_cases c9 : t240 = true
    ·subst c9
     have H1 : ((spec_l1In.f a0_2 0 9999).bind fun t241 => (some t241)) = some r := by rw [if_pos rfl] at H; exact H
     clear H
     have H := H1
     clear H1
     replace H := Option.bind_eq_some_iff.mp H
     obtain ⟨t241, A100, H⟩ := H
     replace H : (some t241) = some r := H
     have A10 := Aside0.mk A100
     clear A100
     obtain rfl := Option.some.inj H
     have hcz11_0 : wc.cell? ⟨gb239, 0, none⟩ = some (.int .i64 a0_0) := bc BK239 0
     have hcz11_1 : wc.cell? ⟨gb239, 1, none⟩ = some (.int .i64 a0_1) := bc BK239 1
     have hcz11_2 : wc.cell? ⟨gb239, 2, none⟩ = some (.int .i64 a0_2) := bc BK239 2
     have hfz11_0 := blk_frozen BK239.out 0
     have hfz11_1 := blk_frozen BK239.out 1
     have hfz11_2 := blk_frozen BK239.out 2
     go_wp2_with (first | ((with_reducible refine gate_callee (f := 77) rfl ?_); refine goesL_ (some 12) rfl rfl Tryd.func77 (by kernel_rfl) rfl #[.int .i64 a0_1] rfl gl_ ?_; (with_reducible refine (spec_l10Cell.calls a0_1 true _ A8.out).mono ?_); rintro e w' ⟨rfl, ⟨nd, rfl⟩⟩; refine ⟨_, rfl, ?_⟩) | (go_at_call 25; (with_reducible refine (spec_l1In.calls a0_2 0 9999 t241 _ A10.out).mono ?_); rintro e w' ⟨rfl, ⟨nd, rfl⟩⟩))
     go_ret
     exact ⟨by first | rfl | (simp [errW_none, errW_some] <;> rfl) | (simp [*, errW_none, errW_some] <;> rfl), by repeat (first | (with_reducible first | exact HB.out | apply below_alloc | apply pw_below_drewN | apply below_drew1 | refine below_set ?_ GE239.out) | exact HB.out)⟩
    ·replace c9 := Bool.eq_false_iff.mpr c9
     subst c9
     have H1 : (some false) = some r := by rw [if_neg (show ¬ (false = true) by decide)] at H; exact H
     clear H
     have H := H1
     clear H1
     obtain rfl := Option.some.inj H
     have hcz12_0 : wc.cell? ⟨gb239, 0, none⟩ = some (.int .i64 a0_0) := bc BK239 0
     have hcz12_1 : wc.cell? ⟨gb239, 1, none⟩ = some (.int .i64 a0_1) := bc BK239 1
     have hcz12_2 : wc.cell? ⟨gb239, 2, none⟩ = some (.int .i64 a0_2) := bc BK239 2
     have hfz12_0 := blk_frozen BK239.out 0
     have hfz12_1 := blk_frozen BK239.out 1
     have hfz12_2 := blk_frozen BK239.out 2
     go_wp2_with (first | ((with_reducible refine gate_callee (f := 77) rfl ?_); refine goesL_ (some 12) rfl rfl Tryd.func77 (by kernel_rfl) rfl #[.int .i64 a0_1] rfl gl_ ?_; (with_reducible refine (spec_l10Cell.calls a0_1 false _ A8.out).mono ?_); rintro e w' ⟨rfl, ⟨nd, rfl⟩⟩; refine ⟨_, rfl, ?_⟩))
     go_ret
     exact ⟨by first | rfl | (simp [errW_none, errW_some] <;> rfl) | (simp [*, errW_none, errW_some] <;> rfl), by repeat (first | (with_reducible first | exact HB.out | apply below_alloc | apply pw_below_drewN | apply below_drew1 | refine below_set ?_ GE239.out) | exact HB.out)⟩
   ·replace c7 := Bool.eq_false_iff.mpr c7
    subst c7
    have H1 : (if a0_0 = 2 then (spec_l10Ok.j1 kj2 a1 a0_0 (a0_0 == 2) a0_0 a0_1 a0_2) else (spec_l10Ok.j1 kj2 a1 a0_0 (a0_0 == 13) a0_0 a0_1 a0_2)) = some r := by rw [if_neg (show ¬ (false = true) by decide)] at H; exact H
    clear H
    have H := H1
    clear H1
    have HC13 := Aside0.mk H
    clear H
    go_upto_if 18 with (fail)
    go_cut [18] (fun v18 wc => ∃ (kq : Nat) (x18_12 : Bool), v18 = .bool x18_12 ∧ Aside0 (spec_l10Ok.j1 kq a1 a0_0 x18_12 a0_0 a0_1 a0_2 = some r) ∧ Aside0 (kq ≤ kj2) ∧ Aside0 (wc.heap[gb239]? = some (.cells #[.int .i64 a0_0, .int .i64 a0_1, .int .i64 a0_2] 107 (0, 0))) ∧ Aside0 (Below w.heap.size w wc))
    case first =>
     have H := HC13.out
     clear HC13
     by_cases c14 : a0_0 = 2
     ·rw [if_pos c14] at H
      have c14b0 : (a0_0 == 2) = true := beq_iff_eq.mpr c14
      have c14b1 : (a0_0 != 2) = false := bne_eq_false_iff_eq.mpr c14
      clear c14
      (first | rw [c14b0] | (simp only [i64_w, i32_w]; rw [c14b0]) | skip)
      have H' := Aside0.mk H
      clear H
      go_wp2
      go_meet
      case rel => exact ⟨_, ((a0_0 == 2)), (by first | rfl | (simp; done) | (simp [*]; done)), H', ⟨by have := HJ2.out; first | omega | exact Nat.le_refl _⟩, ⟨kN BK239.out⟩, ⟨by repeat (first | (with_reducible first | exact HB.out | apply below_alloc | apply pw_below_drewN | apply below_drew1 | refine below_set ?_ GE239.out) | exact HB.out)⟩⟩
     ·rw [if_neg c14] at H
      have c14b0 : (a0_0 == 2) = false := beq_eq_false_iff_ne.mpr c14
      have c14b1 : (a0_0 != 2) = true := bne_iff_ne.mpr c14
      (first | rw [c14b0] | (simp only [i64_w, i32_w]; rw [c14b0]) | skip)
      have H' := Aside0.mk H
      clear H
      go_wp2
      go_meet
      case rel => exact ⟨_, ((a0_0 == 13)), (by first | rfl | (simp; done) | (simp [*]; done)), H', ⟨by have := HJ2.out; first | omega | exact Nat.le_refl _⟩, ⟨kN BK239.out⟩, ⟨by repeat (first | (with_reducible first | exact HB.out | apply below_alloc | apply pw_below_drewN | apply below_drew1 | refine below_set ?_ GE239.out) | exact HB.out)⟩⟩
    case rest =>
     clear HC13
     try clear c1
     try clear p2
     try clear c6
     try clear c6b0
     try clear c6b1
     try clear c7
     try clear c9
     try clear c14
     try clear c14b0
     try clear c14b1
     try clear hcz11_0
     try clear hcz11_1
     try clear hcz11_2
     try clear hcz12_0
     try clear hcz12_1
     try clear hcz12_2
     try clear hcz5_0
     try clear hcz5_1
     try clear hcz5_2
     try clear hfz11_0
     try clear hfz11_1
     try clear hfz11_2
     try clear hfz12_0
     try clear hfz12_1
     try clear hfz12_2
     try clear hfz5_0
     try clear hfz5_1
     try clear hfz5_2
     try clear p2
     obtain ⟨kq, x18_12, rfl, HA, HJ12, BK239, HB⟩ := hcut
     cases kq with
     | zero => exact absurd HA.out (by simp [spec_l10Ok.j1])
     | succ kj12 =>
      have H := HA.out
      clear HA
      simp only [spec_l10Ok.j1] at H
      by_cases c15 : x18_12 = true
      ·subst c15
       have H1 : ((spec_l10Cell.f a0_1).bind fun t242 => (if t242 = true then ((spec_l10Cell.f a0_2).bind fun t243 => (some t243)) else (some false))) = some r := by rw [if_pos rfl] at H; exact H
       clear H
       have H := H1
       clear H1
       replace H := Option.bind_eq_some_iff.mp H
       obtain ⟨t242, A160, H⟩ := H
       replace H : (if t242 = true then ((spec_l10Cell.f a0_2).bind fun t243 => (some t243)) else (some false)) = some r := H
       have A16 := Aside0.mk A160
       clear A160
       by_cases c17 : t242 = true
       ·subst c17
        have H1 : ((spec_l10Cell.f a0_2).bind fun t243 => (some t243)) = some r := by rw [if_pos rfl] at H; exact H
        clear H
        have H := H1
        clear H1
        replace H := Option.bind_eq_some_iff.mp H
        obtain ⟨t243, A180, H⟩ := H
        replace H : (some t243) = some r := H
        have A18 := Aside0.mk A180
        clear A180
        obtain rfl := Option.some.inj H
        have hcz19_0 : wc.cell? ⟨gb239, 0, none⟩ = some (.int .i64 a0_0) := bc BK239 0
        have hcz19_1 : wc.cell? ⟨gb239, 1, none⟩ = some (.int .i64 a0_1) := bc BK239 1
        have hcz19_2 : wc.cell? ⟨gb239, 2, none⟩ = some (.int .i64 a0_2) := bc BK239 2
        have hfz19_0 := blk_frozen BK239.out 0
        have hfz19_1 := blk_frozen BK239.out 1
        have hfz19_2 := blk_frozen BK239.out 2
        go_wp2_with (first | ((with_reducible refine gate_callee (f := 77) rfl ?_); refine goesL_ (some 23) rfl rfl Tryd.func77 (by kernel_rfl) rfl #[.int .i64 a0_1] rfl gl_ ?_; (with_reducible refine (spec_l10Cell.calls a0_1 true _ A16.out).mono ?_); rintro e w' ⟨rfl, ⟨nd, rfl⟩⟩; refine ⟨_, rfl, ?_⟩) | (go_at_call 77; (with_reducible refine (spec_l10Cell.calls a0_2 t243 _ A18.out).mono ?_); rintro e w' ⟨rfl, ⟨nd, rfl⟩⟩))
        go_ret
        exact ⟨by first | rfl | (simp [errW_none, errW_some] <;> rfl) | (simp [*, errW_none, errW_some] <;> rfl), by repeat (first | (with_reducible first | exact HB.out | apply below_alloc | apply pw_below_drewN | apply below_drew1 | refine below_set ?_ GE239.out) | exact HB.out)⟩
       ·replace c17 := Bool.eq_false_iff.mpr c17
        subst c17
        have H1 : (some false) = some r := by rw [if_neg (show ¬ (false = true) by decide)] at H; exact H
        clear H
        have H := H1
        clear H1
        obtain rfl := Option.some.inj H
        have hcz20_0 : wc.cell? ⟨gb239, 0, none⟩ = some (.int .i64 a0_0) := bc BK239 0
        have hcz20_1 : wc.cell? ⟨gb239, 1, none⟩ = some (.int .i64 a0_1) := bc BK239 1
        have hcz20_2 : wc.cell? ⟨gb239, 2, none⟩ = some (.int .i64 a0_2) := bc BK239 2
        have hfz20_0 := blk_frozen BK239.out 0
        have hfz20_1 := blk_frozen BK239.out 1
        have hfz20_2 := blk_frozen BK239.out 2
        go_wp2_with (first | ((with_reducible refine gate_callee (f := 77) rfl ?_); refine goesL_ (some 23) rfl rfl Tryd.func77 (by kernel_rfl) rfl #[.int .i64 a0_1] rfl gl_ ?_; (with_reducible refine (spec_l10Cell.calls a0_1 false _ A16.out).mono ?_); rintro e w' ⟨rfl, ⟨nd, rfl⟩⟩; refine ⟨_, rfl, ?_⟩))
        go_ret
        exact ⟨by first | rfl | (simp [errW_none, errW_some] <;> rfl) | (simp [*, errW_none, errW_some] <;> rfl), by repeat (first | (with_reducible first | exact HB.out | apply below_alloc | apply pw_below_drewN | apply below_drew1 | refine below_set ?_ GE239.out) | exact HB.out)⟩
      ·replace c15 := Bool.eq_false_iff.mpr c15
       subst c15
       have H1 : (if a0_0 = 5 then ((spec_l10Cell.f a0_1).bind fun t244 => (if t244 = true then ((spec_l1In.f a0_2 0 (wrap64 (a1 - 1))).bind fun t245 => (some t245)) else (some false))) else (if a0_0 = 9 then (spec_l10Ok.j2 kj12 a0_0 (a0_0 == 9) a0_0 a0_1 a0_2) else (spec_l10Ok.j2 kj12 a0_0 (a0_0 == 10) a0_0 a0_1 a0_2))) = some r := by rw [if_neg (show ¬ (false = true) by decide)] at H; exact H
       clear H
       have H := H1
       clear H1
       by_cases c21 : a0_0 = 5
       ·rw [if_pos c21] at H
        have c21b0 : (a0_0 == 5) = true := beq_iff_eq.mpr c21
        have c21b1 : (a0_0 != 5) = false := bne_eq_false_iff_eq.mpr c21
        clear c21
        replace H := Option.bind_eq_some_iff.mp H
        obtain ⟨t244, A220, H⟩ := H
        replace H : (if t244 = true then ((spec_l1In.f a0_2 0 (wrap64 (a1 - 1))).bind fun t245 => (some t245)) else (some false)) = some r := H
        have A22 := Aside0.mk A220
        clear A220
        by_cases c23 : t244 = true
        ·subst c23
         have H1 : ((spec_l1In.f a0_2 0 (wrap64 (a1 - 1))).bind fun t245 => (some t245)) = some r := by rw [if_pos rfl] at H; exact H
         clear H
         have H := H1
         clear H1
         replace H := Option.bind_eq_some_iff.mp H
         obtain ⟨t245, A240, H⟩ := H
         replace H : (some t245) = some r := H
         have A24 := Aside0.mk A240
         clear A240
         obtain rfl := Option.some.inj H
         have hcz25_0 : wc.cell? ⟨gb239, 0, none⟩ = some (.int .i64 a0_0) := bc BK239 0
         have hcz25_1 : wc.cell? ⟨gb239, 1, none⟩ = some (.int .i64 a0_1) := bc BK239 1
         have hcz25_2 : wc.cell? ⟨gb239, 2, none⟩ = some (.int .i64 a0_2) := bc BK239 2
         have hfz25_0 := blk_frozen BK239.out 0
         have hfz25_1 := blk_frozen BK239.out 1
         have hfz25_2 := blk_frozen BK239.out 2
         go_wp2_with (first | ((with_reducible refine gate_callee (f := 77) rfl ?_); refine goesL_ (some 33) rfl rfl Tryd.func77 (by kernel_rfl) rfl #[.int .i64 a0_1] rfl gl_ ?_; (with_reducible refine (spec_l10Cell.calls a0_1 true _ A22.out).mono ?_); rintro e w' ⟨rfl, ⟨nd, rfl⟩⟩; refine ⟨_, rfl, ?_⟩) | (go_at_call 25; (with_reducible refine (spec_l1In.calls a0_2 0 (wrap64 (a1 - 1)) t245 _ A24.out).mono ?_); rintro e w' ⟨rfl, ⟨nd, rfl⟩⟩))
         go_ret
         exact ⟨by first | rfl | (simp [errW_none, errW_some] <;> rfl) | (simp [*, errW_none, errW_some] <;> rfl), by repeat (first | (with_reducible first | exact HB.out | apply below_alloc | apply pw_below_drewN | apply below_drew1 | refine below_set ?_ GE239.out) | exact HB.out)⟩
        ·replace c23 := Bool.eq_false_iff.mpr c23
         subst c23
         have H1 : (some false) = some r := by rw [if_neg (show ¬ (false = true) by decide)] at H; exact H
         clear H
         have H := H1
         clear H1
         obtain rfl := Option.some.inj H
         have hcz26_0 : wc.cell? ⟨gb239, 0, none⟩ = some (.int .i64 a0_0) := bc BK239 0
         have hcz26_1 : wc.cell? ⟨gb239, 1, none⟩ = some (.int .i64 a0_1) := bc BK239 1
         have hcz26_2 : wc.cell? ⟨gb239, 2, none⟩ = some (.int .i64 a0_2) := bc BK239 2
         have hfz26_0 := blk_frozen BK239.out 0
         have hfz26_1 := blk_frozen BK239.out 1
         have hfz26_2 := blk_frozen BK239.out 2
         go_wp2_with (first | ((with_reducible refine gate_callee (f := 77) rfl ?_); refine goesL_ (some 33) rfl rfl Tryd.func77 (by kernel_rfl) rfl #[.int .i64 a0_1] rfl gl_ ?_; (with_reducible refine (spec_l10Cell.calls a0_1 false _ A22.out).mono ?_); rintro e w' ⟨rfl, ⟨nd, rfl⟩⟩; refine ⟨_, rfl, ?_⟩))
         go_ret
         exact ⟨by first | rfl | (simp [errW_none, errW_some] <;> rfl) | (simp [*, errW_none, errW_some] <;> rfl), by repeat (first | (with_reducible first | exact HB.out | apply below_alloc | apply pw_below_drewN | apply below_drew1 | refine below_set ?_ GE239.out) | exact HB.out)⟩
       ·rw [if_neg c21] at H
        have c21b0 : (a0_0 == 5) = false := beq_eq_false_iff_ne.mpr c21
        have c21b1 : (a0_0 != 5) = true := bne_iff_ne.mpr c21
        have HC27 := Aside0.mk H
        clear H
        go_upto_if 41 with (fail)
        go_cut [41] (fun v41 wc => ∃ (kq : Nat) (x41_26 : Bool), v41 = .bool x41_26 ∧ Aside0 (spec_l10Ok.j2 kq a0_0 x41_26 a0_0 a0_1 a0_2 = some r) ∧ Aside0 (kq ≤ kj12) ∧ Aside0 (wc.heap[gb239]? = some (.cells #[.int .i64 a0_0, .int .i64 a0_1, .int .i64 a0_2] 107 (0, 0))) ∧ Aside0 (Below w.heap.size w wc))
        case first =>
         have H := HC27.out
         clear HC27
         by_cases c28 : a0_0 = 9
         ·rw [if_pos c28] at H
          have c28b0 : (a0_0 == 9) = true := beq_iff_eq.mpr c28
          have c28b1 : (a0_0 != 9) = false := bne_eq_false_iff_eq.mpr c28
          clear c28
          (first | rw [c28b0] | (simp only [i64_w, i32_w]; rw [c28b0]) | skip)
          have H' := Aside0.mk H
          clear H
          go_wp2
          go_meet
          case rel => exact ⟨_, ((a0_0 == 9)), (by first | rfl | (simp; done) | (simp [*]; done)), H', ⟨by have := HJ2.out; have := HJ12.out; first | omega | exact Nat.le_refl _⟩, ⟨kN BK239.out⟩, ⟨by repeat (first | (with_reducible first | exact HB.out | apply below_alloc | apply pw_below_drewN | apply below_drew1 | refine below_set ?_ GE239.out) | exact HB.out)⟩⟩
         ·rw [if_neg c28] at H
          have c28b0 : (a0_0 == 9) = false := beq_eq_false_iff_ne.mpr c28
          have c28b1 : (a0_0 != 9) = true := bne_iff_ne.mpr c28
          (first | rw [c28b0] | (simp only [i64_w, i32_w]; rw [c28b0]) | skip)
          have H' := Aside0.mk H
          clear H
          go_wp2
          go_meet
          case rel => exact ⟨_, ((a0_0 == 10)), (by first | rfl | (simp; done) | (simp [*]; done)), H', ⟨by have := HJ2.out; have := HJ12.out; first | omega | exact Nat.le_refl _⟩, ⟨kN BK239.out⟩, ⟨by repeat (first | (with_reducible first | exact HB.out | apply below_alloc | apply pw_below_drewN | apply below_drew1 | refine below_set ?_ GE239.out) | exact HB.out)⟩⟩
        case rest =>
         clear HC27
         try clear c1
         try clear c2
         try clear p2
         try clear c6
         try clear c6b0
         try clear c6b1
         try clear p6
         try clear c7
         try clear c9
         try clear c14
         try clear c14b0
         try clear c14b1
         try clear c15
         try clear c17
         try clear c21
         try clear c21b0
         try clear c21b1
         try clear c23
         try clear c28
         try clear c28b0
         try clear c28b1
         try clear hcz11_0
         try clear hcz11_1
         try clear hcz11_2
         try clear hcz12_0
         try clear hcz12_1
         try clear hcz12_2
         try clear hcz19_0
         try clear hcz19_1
         try clear hcz19_2
         try clear hcz20_0
         try clear hcz20_1
         try clear hcz20_2
         try clear hcz25_0
         try clear hcz25_1
         try clear hcz25_2
         try clear hcz26_0
         try clear hcz26_1
         try clear hcz26_2
         try clear hcz5_0
         try clear hcz5_1
         try clear hcz5_2
         try clear hfz11_0
         try clear hfz11_1
         try clear hfz11_2
         try clear hfz12_0
         try clear hfz12_1
         try clear hfz12_2
         try clear hfz19_0
         try clear hfz19_1
         try clear hfz19_2
         try clear hfz20_0
         try clear hfz20_1
         try clear hfz20_2
         try clear hfz25_0
         try clear hfz25_1
         try clear hfz25_2
         try clear hfz26_0
         try clear hfz26_1
         try clear hfz26_2
         try clear hfz5_0
         try clear hfz5_1
         try clear hfz5_2
         try clear p2
         obtain ⟨kq, x41_26, rfl, HA, HJ26, BK239, HB⟩ := hcut
         cases kq with
         | zero => exact absurd HA.out (by simp [spec_l10Ok.j2])
         | succ kj26 =>
          have H := HA.out
          clear HA
          simp only [spec_l10Ok.j2] at H
          by_cases c29 : x41_26 = true
          ·subst c29
           have H1 : ((spec_l10Cell.f a0_1).bind fun t246 => (if t246 = true then ((spec_l1In.f a0_2 0 3).bind fun t247 => (some t247)) else (some false))) = some r := by rw [if_pos rfl] at H; exact H
           clear H
           have H := H1
           clear H1
           replace H := Option.bind_eq_some_iff.mp H
           obtain ⟨t246, A300, H⟩ := H
           replace H : (if t246 = true then ((spec_l1In.f a0_2 0 3).bind fun t247 => (some t247)) else (some false)) = some r := H
           have A30 := Aside0.mk A300
           clear A300
           by_cases c31 : t246 = true
           ·subst c31
            have H1 : ((spec_l1In.f a0_2 0 3).bind fun t247 => (some t247)) = some r := by rw [if_pos rfl] at H; exact H
            clear H
            have H := H1
            clear H1
            replace H := Option.bind_eq_some_iff.mp H
            obtain ⟨t247, A320, H⟩ := H
            replace H : (some t247) = some r := H
            have A32 := Aside0.mk A320
            clear A320
            obtain rfl := Option.some.inj H
            have hcz33_0 : wc.cell? ⟨gb239, 0, none⟩ = some (.int .i64 a0_0) := bc BK239 0
            have hcz33_1 : wc.cell? ⟨gb239, 1, none⟩ = some (.int .i64 a0_1) := bc BK239 1
            have hcz33_2 : wc.cell? ⟨gb239, 2, none⟩ = some (.int .i64 a0_2) := bc BK239 2
            have hfz33_0 := blk_frozen BK239.out 0
            have hfz33_1 := blk_frozen BK239.out 1
            have hfz33_2 := blk_frozen BK239.out 2
            go_wp2_with (first | ((with_reducible refine gate_callee (f := 77) rfl ?_); refine goesL_ (some 46) rfl rfl Tryd.func77 (by kernel_rfl) rfl #[.int .i64 a0_1] rfl gl_ ?_; (with_reducible refine (spec_l10Cell.calls a0_1 true _ A30.out).mono ?_); rintro e w' ⟨rfl, ⟨nd, rfl⟩⟩; refine ⟨_, rfl, ?_⟩) | (go_at_call 25; (with_reducible refine (spec_l1In.calls a0_2 0 3 t247 _ A32.out).mono ?_); rintro e w' ⟨rfl, ⟨nd, rfl⟩⟩))
            go_ret
            exact ⟨by first | rfl | (simp [errW_none, errW_some] <;> rfl) | (simp [*, errW_none, errW_some] <;> rfl), by repeat (first | (with_reducible first | exact HB.out | apply below_alloc | apply pw_below_drewN | apply below_drew1 | refine below_set ?_ GE239.out) | exact HB.out)⟩
           ·replace c31 := Bool.eq_false_iff.mpr c31
            subst c31
            have H1 : (some false) = some r := by rw [if_neg (show ¬ (false = true) by decide)] at H; exact H
            clear H
            have H := H1
            clear H1
            obtain rfl := Option.some.inj H
            have hcz34_0 : wc.cell? ⟨gb239, 0, none⟩ = some (.int .i64 a0_0) := bc BK239 0
            have hcz34_1 : wc.cell? ⟨gb239, 1, none⟩ = some (.int .i64 a0_1) := bc BK239 1
            have hcz34_2 : wc.cell? ⟨gb239, 2, none⟩ = some (.int .i64 a0_2) := bc BK239 2
            have hfz34_0 := blk_frozen BK239.out 0
            have hfz34_1 := blk_frozen BK239.out 1
            have hfz34_2 := blk_frozen BK239.out 2
            go_wp2_with (first | ((with_reducible refine gate_callee (f := 77) rfl ?_); refine goesL_ (some 46) rfl rfl Tryd.func77 (by kernel_rfl) rfl #[.int .i64 a0_1] rfl gl_ ?_; (with_reducible refine (spec_l10Cell.calls a0_1 false _ A30.out).mono ?_); rintro e w' ⟨rfl, ⟨nd, rfl⟩⟩; refine ⟨_, rfl, ?_⟩))
            go_ret
            exact ⟨by first | rfl | (simp [errW_none, errW_some] <;> rfl) | (simp [*, errW_none, errW_some] <;> rfl), by repeat (first | (with_reducible first | exact HB.out | apply below_alloc | apply pw_below_drewN | apply below_drew1 | refine below_set ?_ GE239.out) | exact HB.out)⟩
          ·replace c29 := Bool.eq_false_iff.mpr c29
           subst c29
           have H1 : (if a0_0 = 4 then (spec_l10Ok.j3 kj26 a0_0 (a0_0 == 4) a0_0 a0_1 a0_2) else (if a0_0 = 6 then (spec_l10Ok.j3 kj26 a0_0 (a0_0 == 6) a0_0 a0_1 a0_2) else (if a0_0 = 7 then (spec_l10Ok.j3 kj26 a0_0 (a0_0 == 7) a0_0 a0_1 a0_2) else (if a0_0 = 8 then (spec_l10Ok.j3 kj26 a0_0 (a0_0 == 8) a0_0 a0_1 a0_2) else (spec_l10Ok.j3 kj26 a0_0 (a0_0 == 12) a0_0 a0_1 a0_2))))) = some r := by rw [if_neg (show ¬ (false = true) by decide)] at H; exact H
           clear H
           have H := H1
           clear H1
           have HC35 := Aside0.mk H
           clear H
           go_upto_if 52 with (fail)
           go_cut [52] (fun v52 wc => ∃ (kq : Nat) (x52_34 : Bool), v52 = .bool x52_34 ∧ Aside0 (spec_l10Ok.j3 kq a0_0 x52_34 a0_0 a0_1 a0_2 = some r) ∧ Aside0 (kq ≤ kj26) ∧ Aside0 (wc.heap[gb239]? = some (.cells #[.int .i64 a0_0, .int .i64 a0_1, .int .i64 a0_2] 107 (0, 0))) ∧ Aside0 (Below w.heap.size w wc))
           case first =>
            have H := HC35.out
            clear HC35
            by_cases c36 : a0_0 = 4
            ·rw [if_pos c36] at H
             have c36b0 : (a0_0 == 4) = true := beq_iff_eq.mpr c36
             have c36b1 : (a0_0 != 4) = false := bne_eq_false_iff_eq.mpr c36
             clear c36
             (first | rw [c36b0] | (simp only [i64_w, i32_w]; rw [c36b0]) | skip)
             have H' := Aside0.mk H
             clear H
             go_wp2
             go_meet
             case rel => exact ⟨_, ((a0_0 == 4)), (by first | rfl | (simp; done) | (simp [*]; done)), H', ⟨by have := HJ2.out; have := HJ12.out; have := HJ26.out; first | omega | exact Nat.le_refl _⟩, ⟨kN BK239.out⟩, ⟨by repeat (first | (with_reducible first | exact HB.out | apply below_alloc | apply pw_below_drewN | apply below_drew1 | refine below_set ?_ GE239.out) | exact HB.out)⟩⟩
            ·rw [if_neg c36] at H
             have c36b0 : (a0_0 == 4) = false := beq_eq_false_iff_ne.mpr c36
             have c36b1 : (a0_0 != 4) = true := bne_iff_ne.mpr c36
             (first | rw [c36b0] | (simp only [i64_w, i32_w]; rw [c36b0]) | skip)
             by_cases c37 : a0_0 = 6
             ·rw [if_pos c37] at H
              have c37b0 : (a0_0 == 6) = true := beq_iff_eq.mpr c37
              have c37b1 : (a0_0 != 6) = false := bne_eq_false_iff_eq.mpr c37
              clear c37
              have H' := Aside0.mk H
              clear H
              go_wp2
              go_meet
              case rel => exact ⟨_, ((a0_0 == 6)), (by first | rfl | (simp; done) | (simp [*]; done)), H', ⟨by have := HJ2.out; have := HJ12.out; have := HJ26.out; first | omega | exact Nat.le_refl _⟩, ⟨kN BK239.out⟩, ⟨by repeat (first | (with_reducible first | exact HB.out | apply below_alloc | apply pw_below_drewN | apply below_drew1 | refine below_set ?_ GE239.out) | exact HB.out)⟩⟩
             ·rw [if_neg c37] at H
              have c37b0 : (a0_0 == 6) = false := beq_eq_false_iff_ne.mpr c37
              have c37b1 : (a0_0 != 6) = true := bne_iff_ne.mpr c37
              by_cases c38 : a0_0 = 7
              ·rw [if_pos c38] at H
               have c38b0 : (a0_0 == 7) = true := beq_iff_eq.mpr c38
               have c38b1 : (a0_0 != 7) = false := bne_eq_false_iff_eq.mpr c38
               clear c38
               have H' := Aside0.mk H
               clear H
               go_wp2
               go_meet
               case rel => exact ⟨_, ((a0_0 == 7)), (by first | rfl | (simp; done) | (simp [*]; done)), H', ⟨by have := HJ2.out; have := HJ12.out; have := HJ26.out; first | omega | exact Nat.le_refl _⟩, ⟨kN BK239.out⟩, ⟨by repeat (first | (with_reducible first | exact HB.out | apply below_alloc | apply pw_below_drewN | apply below_drew1 | refine below_set ?_ GE239.out) | exact HB.out)⟩⟩
              ·rw [if_neg c38] at H
               have c38b0 : (a0_0 == 7) = false := beq_eq_false_iff_ne.mpr c38
               have c38b1 : (a0_0 != 7) = true := bne_iff_ne.mpr c38
               by_cases c39 : a0_0 = 8
               ·rw [if_pos c39] at H
                have c39b0 : (a0_0 == 8) = true := beq_iff_eq.mpr c39
                have c39b1 : (a0_0 != 8) = false := bne_eq_false_iff_eq.mpr c39
                clear c39
                have H' := Aside0.mk H
                clear H
                go_wp2
                go_meet
                case rel => exact ⟨_, ((a0_0 == 8)), (by first | rfl | (simp; done) | (simp [*]; done)), H', ⟨by have := HJ2.out; have := HJ12.out; have := HJ26.out; first | omega | exact Nat.le_refl _⟩, ⟨kN BK239.out⟩, ⟨by repeat (first | (with_reducible first | exact HB.out | apply below_alloc | apply pw_below_drewN | apply below_drew1 | refine below_set ?_ GE239.out) | exact HB.out)⟩⟩
               ·rw [if_neg c39] at H
                have c39b0 : (a0_0 == 8) = false := beq_eq_false_iff_ne.mpr c39
                have c39b1 : (a0_0 != 8) = true := bne_iff_ne.mpr c39
                have H' := Aside0.mk H
                clear H
                go_wp2
                go_meet
                case rel => exact ⟨_, ((a0_0 == 12)), (by first | rfl | (simp; done) | (simp [*]; done)), H', ⟨by have := HJ2.out; have := HJ12.out; have := HJ26.out; first | omega | exact Nat.le_refl _⟩, ⟨kN BK239.out⟩, ⟨by repeat (first | (with_reducible first | exact HB.out | apply below_alloc | apply pw_below_drewN | apply below_drew1 | refine below_set ?_ GE239.out) | exact HB.out)⟩⟩
           case rest =>
            clear HC35
            try clear c1
            try clear c2
            try clear p2
            try clear c3
            try clear c6
            try clear c6b0
            try clear c6b1
            try clear p6
            try clear c7
            try clear c9
            try clear c14
            try clear c14b0
            try clear c14b1
            try clear c15
            try clear c17
            try clear c21
            try clear c21b0
            try clear c21b1
            try clear c23
            try clear c28
            try clear c28b0
            try clear c28b1
            try clear c29
            try clear c31
            try clear c36
            try clear c36b0
            try clear c36b1
            try clear c37
            try clear c37b0
            try clear c37b1
            try clear c38
            try clear c38b0
            try clear c38b1
            try clear c39
            try clear c39b0
            try clear c39b1
            try clear hcz11_0
            try clear hcz11_1
            try clear hcz11_2
            try clear hcz12_0
            try clear hcz12_1
            try clear hcz12_2
            try clear hcz19_0
            try clear hcz19_1
            try clear hcz19_2
            try clear hcz20_0
            try clear hcz20_1
            try clear hcz20_2
            try clear hcz25_0
            try clear hcz25_1
            try clear hcz25_2
            try clear hcz26_0
            try clear hcz26_1
            try clear hcz26_2
            try clear hcz33_0
            try clear hcz33_1
            try clear hcz33_2
            try clear hcz34_0
            try clear hcz34_1
            try clear hcz34_2
            try clear hcz5_0
            try clear hcz5_1
            try clear hcz5_2
            try clear hfz11_0
            try clear hfz11_1
            try clear hfz11_2
            try clear hfz12_0
            try clear hfz12_1
            try clear hfz12_2
            try clear hfz19_0
            try clear hfz19_1
            try clear hfz19_2
            try clear hfz20_0
            try clear hfz20_1
            try clear hfz20_2
            try clear hfz25_0
            try clear hfz25_1
            try clear hfz25_2
            try clear hfz26_0
            try clear hfz26_1
            try clear hfz26_2
            try clear hfz33_0
            try clear hfz33_1
            try clear hfz33_2
            try clear hfz34_0
            try clear hfz34_1
            try clear hfz34_2
            try clear hfz5_0
            try clear hfz5_1
            try clear hfz5_2
            try clear p2
            try clear p6
            obtain ⟨kq, x52_34, rfl, HA, HJ34, BK239, HB⟩ := hcut
            cases kq with
            | zero => exact absurd HA.out (by simp [spec_l10Ok.j3])
            | succ kj34 =>
             have H := HA.out
             clear HA
             simp only [spec_l10Ok.j3] at H
             by_cases c40 : x52_34 = true
             ·subst c40
              have H1 : ((spec_l10Cell.f a0_1).bind fun t248 => (if t248 = true then (some (a0_2 == 0)) else (some false))) = some r := by rw [if_pos rfl] at H; exact H
              clear H
              have H := H1
              clear H1
              replace H := Option.bind_eq_some_iff.mp H
              obtain ⟨t248, A410, H⟩ := H
              replace H : (if t248 = true then (some (a0_2 == 0)) else (some false)) = some r := H
              have A41 := Aside0.mk A410
              clear A410
              by_cases c42 : t248 = true
              ·subst c42
               have H1 : (some (a0_2 == 0)) = some r := by rw [if_pos rfl] at H; exact H
               clear H
               have H := H1
               clear H1
               obtain rfl := Option.some.inj H
               have hcz43_0 : wc.cell? ⟨gb239, 0, none⟩ = some (.int .i64 a0_0) := bc BK239 0
               have hcz43_1 : wc.cell? ⟨gb239, 1, none⟩ = some (.int .i64 a0_1) := bc BK239 1
               have hcz43_2 : wc.cell? ⟨gb239, 2, none⟩ = some (.int .i64 a0_2) := bc BK239 2
               have hfz43_0 := blk_frozen BK239.out 0
               have hfz43_1 := blk_frozen BK239.out 1
               have hfz43_2 := blk_frozen BK239.out 2
               go_wp2_with (first | ((with_reducible refine gate_callee (f := 77) rfl ?_); refine goesL_ (some 60) rfl rfl Tryd.func77 (by kernel_rfl) rfl #[.int .i64 a0_1] rfl gl_ ?_; (with_reducible refine (spec_l10Cell.calls a0_1 true _ A41.out).mono ?_); rintro e w' ⟨rfl, ⟨nd, rfl⟩⟩; refine ⟨_, rfl, ?_⟩))
               go_ret
               exact ⟨by first | rfl | (simp [errW_none, errW_some] <;> rfl) | (simp [*, errW_none, errW_some] <;> rfl), by repeat (first | (with_reducible first | exact HB.out | apply below_alloc | apply pw_below_drewN | apply below_drew1 | refine below_set ?_ GE239.out) | exact HB.out)⟩
              ·replace c42 := Bool.eq_false_iff.mpr c42
               subst c42
               have H1 : (some false) = some r := by rw [if_neg (show ¬ (false = true) by decide)] at H; exact H
               clear H
               have H := H1
               clear H1
               obtain rfl := Option.some.inj H
               have hcz44_0 : wc.cell? ⟨gb239, 0, none⟩ = some (.int .i64 a0_0) := bc BK239 0
               have hcz44_1 : wc.cell? ⟨gb239, 1, none⟩ = some (.int .i64 a0_1) := bc BK239 1
               have hcz44_2 : wc.cell? ⟨gb239, 2, none⟩ = some (.int .i64 a0_2) := bc BK239 2
               have hfz44_0 := blk_frozen BK239.out 0
               have hfz44_1 := blk_frozen BK239.out 1
               have hfz44_2 := blk_frozen BK239.out 2
               go_wp2_with (first | ((with_reducible refine gate_callee (f := 77) rfl ?_); refine goesL_ (some 60) rfl rfl Tryd.func77 (by kernel_rfl) rfl #[.int .i64 a0_1] rfl gl_ ?_; (with_reducible refine (spec_l10Cell.calls a0_1 false _ A41.out).mono ?_); rintro e w' ⟨rfl, ⟨nd, rfl⟩⟩; refine ⟨_, rfl, ?_⟩))
               go_ret
               exact ⟨by first | rfl | (simp [errW_none, errW_some] <;> rfl) | (simp [*, errW_none, errW_some] <;> rfl), by repeat (first | (with_reducible first | exact HB.out | apply below_alloc | apply pw_below_drewN | apply below_drew1 | refine below_set ?_ GE239.out) | exact HB.out)⟩
             ·replace c40 := Bool.eq_false_iff.mpr c40
              subst c40
              have H1 : (if a0_0 = 11 then (if a0_1 = 0 then (some (a0_2 == 0)) else (some false)) else (some false)) = some r := by rw [if_neg (show ¬ (false = true) by decide)] at H; exact H
              clear H
              have H := H1
              clear H1
              by_cases c45 : a0_0 = 11
              ·rw [if_pos c45] at H
               have c45b0 : (a0_0 == 11) = true := beq_iff_eq.mpr c45
               have c45b1 : (a0_0 != 11) = false := bne_eq_false_iff_eq.mpr c45
               clear c45
               by_cases c46 : a0_1 = 0
               ·rw [if_pos c46] at H
                have c46b0 : (a0_1 == 0) = true := beq_iff_eq.mpr c46
                have c46b1 : (a0_1 != 0) = false := bne_eq_false_iff_eq.mpr c46
                clear c46
                obtain rfl := Option.some.inj H
                have hcz47_0 : wc.cell? ⟨gb239, 0, none⟩ = some (.int .i64 a0_0) := bc BK239 0
                have hcz47_1 : wc.cell? ⟨gb239, 1, none⟩ = some (.int .i64 a0_1) := bc BK239 1
                have hcz47_2 : wc.cell? ⟨gb239, 2, none⟩ = some (.int .i64 a0_2) := bc BK239 2
                have hfz47_0 := blk_frozen BK239.out 0
                have hfz47_1 := blk_frozen BK239.out 1
                have hfz47_2 := blk_frozen BK239.out 2
                go_wp2
                go_ret
                exact ⟨by first | rfl | (simp [errW_none, errW_some] <;> rfl) | (simp [*, errW_none, errW_some] <;> rfl), by repeat (first | (with_reducible first | exact HB.out | apply below_alloc | apply pw_below_drewN | apply below_drew1 | refine below_set ?_ GE239.out) | exact HB.out)⟩
               ·rw [if_neg c46] at H
                have c46b0 : (a0_1 == 0) = false := beq_eq_false_iff_ne.mpr c46
                have c46b1 : (a0_1 != 0) = true := bne_iff_ne.mpr c46
                obtain rfl := Option.some.inj H
                have hcz48_0 : wc.cell? ⟨gb239, 0, none⟩ = some (.int .i64 a0_0) := bc BK239 0
                have hcz48_1 : wc.cell? ⟨gb239, 1, none⟩ = some (.int .i64 a0_1) := bc BK239 1
                have hcz48_2 : wc.cell? ⟨gb239, 2, none⟩ = some (.int .i64 a0_2) := bc BK239 2
                have hfz48_0 := blk_frozen BK239.out 0
                have hfz48_1 := blk_frozen BK239.out 1
                have hfz48_2 := blk_frozen BK239.out 2
                go_wp2
                go_ret
                exact ⟨by first | rfl | (simp [errW_none, errW_some] <;> rfl) | (simp [*, errW_none, errW_some] <;> rfl), by repeat (first | (with_reducible first | exact HB.out | apply below_alloc | apply pw_below_drewN | apply below_drew1 | refine below_set ?_ GE239.out) | exact HB.out)⟩
              ·rw [if_neg c45] at H
               have c45b0 : (a0_0 == 11) = false := beq_eq_false_iff_ne.mpr c45
               have c45b1 : (a0_0 != 11) = true := bne_iff_ne.mpr c45
               obtain rfl := Option.some.inj H
               go_wp2
               go_ret
               exact ⟨by first | rfl | (simp [errW_none, errW_some] <;> rfl) | (simp [*, errW_none, errW_some] <;> rfl), by repeat (first | (with_reducible first | exact HB.out | apply below_alloc | apply pw_below_drewN | apply below_drew1 | refine below_set ?_ GE239.out) | exact HB.out)⟩

end Go.Proofs.YtcenmlpfbpogoaaDoor.P
