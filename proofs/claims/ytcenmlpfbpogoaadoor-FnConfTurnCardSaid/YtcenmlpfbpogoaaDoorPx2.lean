/- The machine side of these statements, function by function: what each Go function answers (as a Lean function), and that it does. Written by a program (mp.py) for this claim. -/
import Derived.Test.YtcenmlpfbpogoaaDoorPx0
import Derived.Test.YtcenmlpfbpogoaaDoorPx1
namespace Go.Proofs.YtcenmlpfbpogoaaDoor.P
open Go.RowKit Go.Proofs.YtcenmlpfbpogoaaDoorW.PrintWords Go.Proofs.YtcenmlpfbpogoaaDoorW.PrintLast Go.Proofs.YtcenmlpfbpogoaaDoorW.PrintMore
attribute [local go_sem] max2_int min2_int max_two min_two max_three min_three max_four min_four   -- for this text's walks alone
set_option linter.unusedVariables false
set_option linter.unusedSimpArgs false

/-! ### impl_within: function 30 -/
def impl_within.f (a0 : Int) (a1 : Int) : Option (Bool) := if a0 ≥ 0 then (some (decide (a0 ≤ a1))) else (some false)
set_option maxHeartbeats 8000000 in
set_option maxRecDepth 100000 in
theorem impl_within.calls (a0 : Int) (a1 : Int) (r : Bool) (w : World) (h : impl_within.f a0 a1 = some r) :
  Calls Tryd.prog 30 #[.int .i64 a0, .int .i64 a1] w fun e w' => e = .returned (.bool r) ∧ Drawn0 w w' := by
 have H : (if a0 ≥ 0 then (some (decide (a0 ≤ a1))) else (some false)) = some r := h
 clear h
 by_cases c3 : a0 ≥ 0
 ·rw [if_pos c3] at H
  have c3b0 : decide (0 ≤ a0) = true := decide_eq_true c3
  clear c3
  obtain rfl := Option.some.inj H
  go_enter Tryd.func30, Tryd.ntmps30
  go_wp2
  go_ret
  exact ⟨by first | rfl | (simp; done) | (simp [*]; done), by repeat (first | exact Drawn0.refl _ | apply Drawn0.step)⟩
 ·rw [if_neg c3] at H
  have c3b0 : decide (0 ≤ a0) = false := decide_eq_false c3
  clear c3
  obtain rfl := Option.some.inj H
  go_enter Tryd.func30, Tryd.ntmps30
  go_wp2
  go_ret
  exact ⟨by first | rfl | (simp; done) | (simp [*]; done), by repeat (first | exact Drawn0.refl _ | apply Drawn0.step)⟩

/-! ### impl_opOk: function 76 -/
mutual
def impl_opOk.j0 : Nat → Int → Int → Int → Bool → Int → Int → Int → Option (Bool)
 | 0, _, _, _, _, _, _, _ => none
 | k + 1, x1, x5, x7, x8, x102000, x102001, x102002 => if x8 = true then ((impl_within.f x102001 7).bind fun t102 => (if t102 = true then ((impl_within.f x102002 9999).bind fun t103 => (some t103)) else (some false))) else (if x7 = 2 then (impl_opOk.j1 k x1 x5 x7 (x7 == 2) x102000 x102001 x102002) else (impl_opOk.j1 k x1 x5 x7 (x7 == 13) x102000 x102001 x102002))
def impl_opOk.j1 : Nat → Int → Int → Int → Bool → Int → Int → Int → Option (Bool)
 | 0, _, _, _, _, _, _, _ => none
 | k + 1, x1, x5, x7, x11, x102000, x102001, x102002 => if x11 = true then ((impl_within.f x102001 7).bind fun t104 => (if t104 = true then ((impl_within.f x102002 7).bind fun t105 => (some t105)) else (some false))) else (if x7 = 5 then ((impl_within.f x102001 7).bind fun t106 => (if t106 = true then ((impl_within.f x102002 (wrap64 (x1 - 1))).bind fun t107 => (some t107)) else (some false))) else (if x7 = 9 then (impl_opOk.j2 k x5 x7 (x7 == 9) x102000 x102001 x102002) else (impl_opOk.j2 k x5 x7 (x7 == 10) x102000 x102001 x102002)))
def impl_opOk.j2 : Nat → Int → Int → Bool → Int → Int → Int → Option (Bool)
 | 0, _, _, _, _, _, _ => none
 | k + 1, x5, x7, x18, x102000, x102001, x102002 => if x18 = true then ((impl_within.f x102001 7).bind fun t108 => (if t108 = true then ((impl_within.f x102002 3).bind fun t109 => (some t109)) else (some false))) else (if x7 = 11 then (if x102001 = 0 then (some (x102002 == 0)) else (some false)) else (if x7 = 4 then (impl_opOk.j3 k x5 (x7 == 4) x102000 x102001 x102002) else (if x7 = 6 then (impl_opOk.j3 k x5 (x7 == 6) x102000 x102001 x102002) else (if x7 = 7 then (impl_opOk.j3 k x5 (x7 == 7) x102000 x102001 x102002) else (if x7 = 8 then (impl_opOk.j3 k x5 (x7 == 8) x102000 x102001 x102002) else (impl_opOk.j3 k x5 (x7 == 12) x102000 x102001 x102002))))))
def impl_opOk.j3 : Nat → Int → Bool → Int → Int → Int → Option (Bool)
 | 0, _, _, _, _, _ => none
 | k + 1, x5, x31, x102000, x102001, x102002 => if x31 = true then ((impl_within.f x102001 7).bind fun t110 => (if t110 = true then ((impl_within.f x102002 x5).bind fun t111 => (some t111)) else (some false))) else (some false)
end
def impl_opOk.f (k : Nat) (a0_0 : Int) (a0_1 : Int) (a0_2 : Int) (a1 : Int) : Option (Bool) := if a0_0 = 1 then (impl_opOk.j0 k a1 0 a0_0 (a0_0 == 1) a0_0 a0_1 a0_2) else (impl_opOk.j0 k a1 0 a0_0 (a0_0 == 3) a0_0 a0_1 a0_2)
theorem impl_opOk.mono_l : ∀ k, (∀ y0 y1 y2 y3 y4 y5 y6, LeO (impl_opOk.j0 k y0 y1 y2 y3 y4 y5 y6) (impl_opOk.j0 (k + 1) y0 y1 y2 y3 y4 y5 y6)) ∧ (∀ y0 y1 y2 y3 y4 y5 y6, LeO (impl_opOk.j1 k y0 y1 y2 y3 y4 y5 y6) (impl_opOk.j1 (k + 1) y0 y1 y2 y3 y4 y5 y6)) ∧ (∀ y0 y1 y2 y3 y4 y5, LeO (impl_opOk.j2 k y0 y1 y2 y3 y4 y5) (impl_opOk.j2 (k + 1) y0 y1 y2 y3 y4 y5)) ∧ (∀ y0 y1 y2 y3 y4, LeO (impl_opOk.j3 k y0 y1 y2 y3 y4) (impl_opOk.j3 (k + 1) y0 y1 y2 y3 y4))
 | 0 => ⟨fun _ _ _ _ _ _ _ r h => by simp [impl_opOk.j0] at h, fun _ _ _ _ _ _ _ r h => by simp [impl_opOk.j1] at h, fun _ _ _ _ _ _ r h => by simp [impl_opOk.j2] at h, fun _ _ _ _ _ r h => by simp [impl_opOk.j3] at h⟩
 | k + 1 => by
  obtain ⟨ih0, ih1, ih2, ih3⟩ := impl_opOk.mono_l k
  refine ⟨?_, ?_, ?_, ?_⟩
  ·intro y0 y1 y2 y3 y4 y5 y6
   unfold impl_opOk.j0
   repeat' first
   | (with_reducible exact ih0 _ _ _ _ _ _ _)
   | (with_reducible exact ih1 _ _ _ _ _ _ _)
   | (with_reducible exact ih2 _ _ _ _ _ _)
   | (with_reducible exact ih3 _ _ _ _ _)
   | (with_reducible exact LeO.refl _)
   | (with_reducible exact LeO.none _)
   | (with_reducible refine LeO.ite ?_ ?_)
   | (with_reducible refine LeO.bind ?_ (fun _ => ?_))
   | exact ih0 _ _ _ _ _ _ _
   | exact ih1 _ _ _ _ _ _ _
   | exact ih2 _ _ _ _ _ _
   | exact ih3 _ _ _ _ _
   | exact LeO.none _
   | refine LeO.ite ?_ ?_
   | refine LeO.bind ?_ (fun _ => ?_)
  ·intro y0 y1 y2 y3 y4 y5 y6
   unfold impl_opOk.j1
   repeat' first
   | (with_reducible exact ih0 _ _ _ _ _ _ _)
   | (with_reducible exact ih1 _ _ _ _ _ _ _)
   | (with_reducible exact ih2 _ _ _ _ _ _)
   | (with_reducible exact ih3 _ _ _ _ _)
   | (with_reducible exact LeO.refl _)
   | (with_reducible exact LeO.none _)
   | (with_reducible refine LeO.ite ?_ ?_)
   | (with_reducible refine LeO.bind ?_ (fun _ => ?_))
   | exact ih0 _ _ _ _ _ _ _
   | exact ih1 _ _ _ _ _ _ _
   | exact ih2 _ _ _ _ _ _
   | exact ih3 _ _ _ _ _
   | exact LeO.none _
   | refine LeO.ite ?_ ?_
   | refine LeO.bind ?_ (fun _ => ?_)
  ·intro y0 y1 y2 y3 y4 y5
   unfold impl_opOk.j2
   repeat' first
   | (with_reducible exact ih0 _ _ _ _ _ _ _)
   | (with_reducible exact ih1 _ _ _ _ _ _ _)
   | (with_reducible exact ih2 _ _ _ _ _ _)
   | (with_reducible exact ih3 _ _ _ _ _)
   | (with_reducible exact LeO.refl _)
   | (with_reducible exact LeO.none _)
   | (with_reducible refine LeO.ite ?_ ?_)
   | (with_reducible refine LeO.bind ?_ (fun _ => ?_))
   | exact ih0 _ _ _ _ _ _ _
   | exact ih1 _ _ _ _ _ _ _
   | exact ih2 _ _ _ _ _ _
   | exact ih3 _ _ _ _ _
   | exact LeO.none _
   | refine LeO.ite ?_ ?_
   | refine LeO.bind ?_ (fun _ => ?_)
  ·intro y0 y1 y2 y3 y4
   unfold impl_opOk.j3
   repeat' first
   | (with_reducible exact ih0 _ _ _ _ _ _ _)
   | (with_reducible exact ih1 _ _ _ _ _ _ _)
   | (with_reducible exact ih2 _ _ _ _ _ _)
   | (with_reducible exact ih3 _ _ _ _ _)
   | (with_reducible exact LeO.refl _)
   | (with_reducible exact LeO.none _)
   | (with_reducible refine LeO.ite ?_ ?_)
   | (with_reducible refine LeO.bind ?_ (fun _ => ?_))
   | exact ih0 _ _ _ _ _ _ _
   | exact ih1 _ _ _ _ _ _ _
   | exact ih2 _ _ _ _ _ _
   | exact ih3 _ _ _ _ _
   | exact LeO.none _
   | refine LeO.ite ?_ ?_
   | refine LeO.bind ?_ (fun _ => ?_)
theorem impl_opOk.mono : ∀ a0 a1 a2 a3 k, LeO (impl_opOk.f k a0 a1 a2 a3) (impl_opOk.f (k + 1) a0 a1 a2 a3) := by
 intro a0 a1 a2 a3 k
 obtain ⟨ih0, ih1, ih2, ih3⟩ := impl_opOk.mono_l k
 unfold impl_opOk.f
 repeat' first
   | (with_reducible exact ih0 _ _ _ _ _ _ _)
   | (with_reducible exact ih1 _ _ _ _ _ _ _)
   | (with_reducible exact ih2 _ _ _ _ _ _)
   | (with_reducible exact ih3 _ _ _ _ _)
   | (with_reducible exact LeO.refl _)
   | (with_reducible exact LeO.none _)
   | (with_reducible refine LeO.ite ?_ ?_)
   | (with_reducible refine LeO.bind ?_ (fun _ => ?_))
   | exact ih0 _ _ _ _ _ _ _
   | exact ih1 _ _ _ _ _ _ _
   | exact ih2 _ _ _ _ _ _
   | exact ih3 _ _ _ _ _
   | exact LeO.none _
   | refine LeO.ite ?_ ?_
   | refine LeO.bind ?_ (fun _ => ?_)
set_option maxHeartbeats 8000000 in
set_option maxRecDepth 100000 in
theorem impl_opOk.calls (k : Nat) (a0_0 : Int) (a0_1 : Int) (a0_2 : Int) (a1 : Int) (r : Bool) (w : World) (h : impl_opOk.f k a0_0 a0_1 a0_2 a1 = some r) :
  Calls Tryd.prog 76 #[.agg #[.int .i64 a0_0, .int .i64 a0_1, .int .i64 a0_2], .int .i64 a1] w fun e w' => e = .returned (.bool r) ∧ Below w.heap.size w w' := by
 have hu107 := Tryd.underlying107
 have HB := m_ (Below.refl w.heap.size w)
 have H : (if a0_0 = 1 then (impl_opOk.j0 k a1 0 a0_0 (a0_0 == 1) a0_0 a0_1 a0_2) else (impl_opOk.j0 k a1 0 a0_0 (a0_0 == 3) a0_0 a0_1 a0_2)) = some r := h
 clear h
 have HC3 := Aside0.mk H
 clear H
 go_enter Tryd.func76, Tryd.ntmps76
 go_upto_if 8 with (first | ((with_reducible refine gate_dst (N := 2) rfl ?_); refine box_event ?hg (N := 2) ?hd (cs := #[.int .i64 a0_0, .int .i64 a0_1, .int .i64 a0_2]) (t := 107) ?hr ?_; (case hd => rfl); (case hg => rfl); (case hr => first | (go_simp; done) | (go_simp; rfl)); intro gb101 hg w4 hbox hb; have n0_ := m_ (below_step (bN HB.out) hb); have n1_ := m_ (hbox); have n2_ := m_ ((by rw [hg]; exact (below_size (bN HB.out)) : w.heap.size ≤ gb101)); have n3_ := m_ ((by rw [hg]; exact (below_size (bN HB.out)) : w.heap.size ≤ gb101)); clear HB; have HB := n0_; have BK101 := n1_; have GW101 := n2_; have GE101 := n3_; clear n0_ n1_ n2_ n3_ hb hbox hg; have hcz5_0 : w4.cell? ⟨gb101, 0, none⟩ = some (.int .i64 a0_0) := bc BK101 0; have hcz5_1 : w4.cell? ⟨gb101, 1, none⟩ = some (.int .i64 a0_1) := bc BK101 1; have hcz5_2 : w4.cell? ⟨gb101, 2, none⟩ = some (.int .i64 a0_2) := bc BK101 2; have hfz5_0 := blk_frozen BK101.out 0; have hfz5_1 := blk_frozen BK101.out 1; have hfz5_2 := blk_frozen BK101.out 2))
 (try simp only [Act.put, List.setIfInBounds_toArray, List.set_cons_zero, List.set_cons_succ])
 go_cut [8] (fun v8 wc => ∃ (kq : Nat) (x8_2 : Bool), v8 = .bool x8_2 ∧ Aside0 (impl_opOk.j0 kq a1 0 a0_0 x8_2 a0_0 a0_1 a0_2 = some r) ∧ Aside0 (kq ≤ k) ∧ Aside0 (wc.heap[gb101]? = some (.cells #[.int .i64 a0_0, .int .i64 a0_1, .int .i64 a0_2] 107 (0, 0))) ∧ Aside0 (Below w.heap.size w wc))
 case first =>
  have H := HC3.out
  clear HC3
  by_cases c6 : a0_0 = 1
  ·rw [if_pos c6] at H
   have c6b0 : (a0_0 == 1) = true := beq_iff_eq.mpr c6
   have c6b1 : (a0_0 != 1) = false := bne_eq_false_iff_eq.mpr c6
   clear c6
   (first | rw [c6b0] | (simp only [i64_w, i32_w]; rw [c6b0]) | skip)
   have H' := Aside0.mk H
   clear H
   go_wp2
   go_meet
   case rel => exact ⟨_, ((a0_0 == 1)), (by first | rfl | (simp; done) | (simp [*]; done)), H', ⟨by first | omega | exact Nat.le_refl _⟩, ⟨kN BK101.out⟩, ⟨(hB1 HB.out GE101.out)⟩⟩
  ·rw [if_neg c6] at H
   have c6b0 : (a0_0 == 1) = false := beq_eq_false_iff_ne.mpr c6
   have c6b1 : (a0_0 != 1) = true := bne_iff_ne.mpr c6
   (first | rw [c6b0] | (simp only [i64_w, i32_w]; rw [c6b0]) | skip)
   have H' := Aside0.mk H
   clear H
   go_wp2
   go_meet
   case rel => exact ⟨_, ((a0_0 == 3)), (by first | rfl | (simp; done) | (simp [*]; done)), H', ⟨by first | omega | exact Nat.le_refl _⟩, ⟨kN BK101.out⟩, ⟨(hB1 HB.out GE101.out)⟩⟩
 case rest =>
  clear HC3
  try clear p2
  try clear c6
  try clear c6b0
  try clear c6b1
  obtain ⟨kq, x8_2, rfl, HA, HJ2, BK101, HB⟩ := hcut
  cases kq with
  | zero => exact absurd HA.out (by simp [impl_opOk.j0])
  | succ kj2 =>
   have H := HA.out
   clear HA
   simp only [impl_opOk.j0] at H
   by_cases c7 : x8_2 = true
   ·subst c7
    have H1 : ((impl_within.f a0_1 7).bind fun t102 => (if t102 = true then ((impl_within.f a0_2 9999).bind fun t103 => (some t103)) else (some false))) = some r := by rw [if_pos rfl] at H; exact H
    clear H
    have H := H1
    clear H1
    replace H := Option.bind_eq_some_iff.mp H
    obtain ⟨t102, A80, H⟩ := H
    replace H : (if t102 = true then ((impl_within.f a0_2 9999).bind fun t103 => (some t103)) else (some false)) = some r := H
    have A8 := Aside0.mk A80
    clear A80
    by_cases c9 : t102 = true
    ·subst c9
     have H1 : ((impl_within.f a0_2 9999).bind fun t103 => (some t103)) = some r := by rw [if_pos rfl] at H; exact H
     clear H
     have H := H1
     clear H1
     replace H := Option.bind_eq_some_iff.mp H
     obtain ⟨t103, A100, H⟩ := H
     replace H : (some t103) = some r := H
     have A10 := Aside0.mk A100
     clear A100
     obtain rfl := Option.some.inj H
     have hcz11_0 : wc.cell? ⟨gb101, 0, none⟩ = some (.int .i64 a0_0) := bc BK101 0
     have hcz11_1 : wc.cell? ⟨gb101, 1, none⟩ = some (.int .i64 a0_1) := bc BK101 1
     have hcz11_2 : wc.cell? ⟨gb101, 2, none⟩ = some (.int .i64 a0_2) := bc BK101 2
     have hfz11_0 := blk_frozen BK101.out 0
     have hfz11_1 := blk_frozen BK101.out 1
     have hfz11_2 := blk_frozen BK101.out 2
     go_wp2_with (first | ((with_reducible refine gate_callee (f := 30) rfl ?_); refine goesL_ (some 39) rfl rfl Tryd.func30 (by kernel_rfl) rfl #[.int .i64 a0_1, .int .i64 7] rfl gl_ ?_; (with_reducible refine (impl_within.calls a0_1 7 true _ A8.out).mono ?_); rintro e w' ⟨rfl, ⟨nd, rfl⟩⟩; refine ⟨_, rfl, ?_⟩) | (go_at_call 30; (with_reducible refine (impl_within.calls a0_2 9999 t103 _ A10.out).mono ?_); rintro e w' ⟨rfl, ⟨nd, rfl⟩⟩))
     go_ret
     exact ⟨rf_, (hB1 HB.out GE101.out)⟩
    ·replace c9 := Bool.eq_false_iff.mpr c9
     subst c9
     have H1 : (some false) = some r := by rw [if_neg (show ¬ (false = true) by decide)] at H; exact H
     clear H
     have H := H1
     clear H1
     obtain rfl := Option.some.inj H
     have hcz12_0 : wc.cell? ⟨gb101, 0, none⟩ = some (.int .i64 a0_0) := bc BK101 0
     have hcz12_1 : wc.cell? ⟨gb101, 1, none⟩ = some (.int .i64 a0_1) := bc BK101 1
     have hcz12_2 : wc.cell? ⟨gb101, 2, none⟩ = some (.int .i64 a0_2) := bc BK101 2
     have hfz12_0 := blk_frozen BK101.out 0
     have hfz12_1 := blk_frozen BK101.out 1
     have hfz12_2 := blk_frozen BK101.out 2
     go_wp2_with (first | ((with_reducible refine gate_callee (f := 30) rfl ?_); refine goesL_ (some 39) rfl rfl Tryd.func30 (by kernel_rfl) rfl #[.int .i64 a0_1, .int .i64 7] rfl gl_ ?_; (with_reducible refine (impl_within.calls a0_1 7 false _ A8.out).mono ?_); rintro e w' ⟨rfl, ⟨nd, rfl⟩⟩; refine ⟨_, rfl, ?_⟩))
     go_ret
     exact ⟨rf_, (hB1 HB.out GE101.out)⟩
   ·replace c7 := Bool.eq_false_iff.mpr c7
    subst c7
    have H1 : (if a0_0 = 2 then (impl_opOk.j1 kj2 a1 0 a0_0 (a0_0 == 2) a0_0 a0_1 a0_2) else (impl_opOk.j1 kj2 a1 0 a0_0 (a0_0 == 13) a0_0 a0_1 a0_2)) = some r := by rw [if_neg (show ¬ (false = true) by decide)] at H; exact H
    clear H
    have H := H1
    clear H1
    have HC13 := Aside0.mk H
    clear H
    go_upto_if 11 with (fail)
    go_cut [11] (fun v11 wc => ∃ (kq : Nat) (x11_12 : Bool), v11 = .bool x11_12 ∧ Aside0 (impl_opOk.j1 kq a1 0 a0_0 x11_12 a0_0 a0_1 a0_2 = some r) ∧ Aside0 (kq ≤ kj2) ∧ Aside0 (wc.heap[gb101]? = some (.cells #[.int .i64 a0_0, .int .i64 a0_1, .int .i64 a0_2] 107 (0, 0))) ∧ Aside0 (Below w.heap.size w wc))
    case first =>
     have H := HC13.out
     clear HC13
     by_cases c14 : a0_0 = 2
     ·rw [if_pos c14] at H
      have c14b0 : (a0_0 == 2) = true := beq_iff_eq.mpr c14
      have c14b1 : (a0_0 != 2) = false := bne_eq_false_iff_eq.mpr c14
      clear c14
      (first | rw [c14b0] | (simp only [i64_w, i32_w]; rw [c14b0]) | skip)
      have H' := Aside0.mk H
      clear H
      go_wp2
      go_meet
      case rel => exact ⟨_, ((a0_0 == 2)), (by first | rfl | (simp; done) | (simp [*]; done)), H', ⟨by have := HJ2.out; first | omega | exact Nat.le_refl _⟩, ⟨kN BK101.out⟩, ⟨(hB1 HB.out GE101.out)⟩⟩
     ·rw [if_neg c14] at H
      have c14b0 : (a0_0 == 2) = false := beq_eq_false_iff_ne.mpr c14
      have c14b1 : (a0_0 != 2) = true := bne_iff_ne.mpr c14
      (first | rw [c14b0] | (simp only [i64_w, i32_w]; rw [c14b0]) | skip)
      have H' := Aside0.mk H
      clear H
      go_wp2
      go_meet
      case rel => exact ⟨_, ((a0_0 == 13)), (by first | rfl | (simp; done) | (simp [*]; done)), H', ⟨by have := HJ2.out; first | omega | exact Nat.le_refl _⟩, ⟨kN BK101.out⟩, ⟨(hB1 HB.out GE101.out)⟩⟩
    case rest =>
     clear HC13
     try clear c1
     try clear p2
     try clear c3
     try clear c6
     try clear c6b0
     try clear c6b1
     try clear c7
     try clear c9
     try clear c14
     try clear c14b0
     try clear c14b1
     try clear p2
     obtain ⟨kq, x11_12, rfl, HA, HJ12, BK101, HB⟩ := hcut
     cases kq with
     | zero => exact absurd HA.out (by simp [impl_opOk.j1])
     | succ kj12 =>
      have H := HA.out
      clear HA
      simp only [impl_opOk.j1] at H
      by_cases c15 : x11_12 = true
      ·subst c15
       have H1 : ((impl_within.f a0_1 7).bind fun t104 => (if t104 = true then ((impl_within.f a0_2 7).bind fun t105 => (some t105)) else (some false))) = some r := by rw [if_pos rfl] at H; exact H
       clear H
       have H := H1
       clear H1
       replace H := Option.bind_eq_some_iff.mp H
       obtain ⟨t104, A160, H⟩ := H
       replace H : (if t104 = true then ((impl_within.f a0_2 7).bind fun t105 => (some t105)) else (some false)) = some r := H
       have A16 := Aside0.mk A160
       clear A160
       by_cases c17 : t104 = true
       ·subst c17
        have H1 : ((impl_within.f a0_2 7).bind fun t105 => (some t105)) = some r := by rw [if_pos rfl] at H; exact H
        clear H
        have H := H1
        clear H1
        replace H := Option.bind_eq_some_iff.mp H
        obtain ⟨t105, A180, H⟩ := H
        replace H : (some t105) = some r := H
        have A18 := Aside0.mk A180
        clear A180
        obtain rfl := Option.some.inj H
        have hcz19_0 : wc.cell? ⟨gb101, 0, none⟩ = some (.int .i64 a0_0) := bc BK101 0
        have hcz19_1 : wc.cell? ⟨gb101, 1, none⟩ = some (.int .i64 a0_1) := bc BK101 1
        have hcz19_2 : wc.cell? ⟨gb101, 2, none⟩ = some (.int .i64 a0_2) := bc BK101 2
        have hfz19_0 := blk_frozen BK101.out 0
        have hfz19_1 := blk_frozen BK101.out 1
        have hfz19_2 := blk_frozen BK101.out 2
        go_wp2_with (first | ((with_reducible refine gate_callee (f := 30) rfl ?_); refine goesL_ (some 39) rfl rfl Tryd.func30 (by kernel_rfl) rfl #[.int .i64 a0_1, .int .i64 7] rfl gl_ ?_; (with_reducible refine (impl_within.calls a0_1 7 true _ A16.out).mono ?_); rintro e w' ⟨rfl, ⟨nd, rfl⟩⟩; refine ⟨_, rfl, ?_⟩) | (go_at_call 30; (with_reducible refine (impl_within.calls a0_2 7 t105 _ A18.out).mono ?_); rintro e w' ⟨rfl, ⟨nd, rfl⟩⟩))
        go_ret
        exact ⟨rf_, (hB1 HB.out GE101.out)⟩
       ·replace c17 := Bool.eq_false_iff.mpr c17
        subst c17
        have H1 : (some false) = some r := by rw [if_neg (show ¬ (false = true) by decide)] at H; exact H
        clear H
        have H := H1
        clear H1
        obtain rfl := Option.some.inj H
        have hcz20_0 : wc.cell? ⟨gb101, 0, none⟩ = some (.int .i64 a0_0) := bc BK101 0
        have hcz20_1 : wc.cell? ⟨gb101, 1, none⟩ = some (.int .i64 a0_1) := bc BK101 1
        have hcz20_2 : wc.cell? ⟨gb101, 2, none⟩ = some (.int .i64 a0_2) := bc BK101 2
        have hfz20_0 := blk_frozen BK101.out 0
        have hfz20_1 := blk_frozen BK101.out 1
        have hfz20_2 := blk_frozen BK101.out 2
        go_wp2_with (first | ((with_reducible refine gate_callee (f := 30) rfl ?_); refine goesL_ (some 39) rfl rfl Tryd.func30 (by kernel_rfl) rfl #[.int .i64 a0_1, .int .i64 7] rfl gl_ ?_; (with_reducible refine (impl_within.calls a0_1 7 false _ A16.out).mono ?_); rintro e w' ⟨rfl, ⟨nd, rfl⟩⟩; refine ⟨_, rfl, ?_⟩))
        go_ret
        exact ⟨rf_, (hB1 HB.out GE101.out)⟩
      ·replace c15 := Bool.eq_false_iff.mpr c15
       subst c15
       have H1 : (if a0_0 = 5 then ((impl_within.f a0_1 7).bind fun t106 => (if t106 = true then ((impl_within.f a0_2 (wrap64 (a1 - 1))).bind fun t107 => (some t107)) else (some false))) else (if a0_0 = 9 then (impl_opOk.j2 kj12 0 a0_0 (a0_0 == 9) a0_0 a0_1 a0_2) else (impl_opOk.j2 kj12 0 a0_0 (a0_0 == 10) a0_0 a0_1 a0_2))) = some r := by rw [if_neg (show ¬ (false = true) by decide)] at H; exact H
       clear H
       have H := H1
       clear H1
       by_cases c21 : a0_0 = 5
       ·rw [if_pos c21] at H
        have c21b0 : (a0_0 == 5) = true := beq_iff_eq.mpr c21
        have c21b1 : (a0_0 != 5) = false := bne_eq_false_iff_eq.mpr c21
        clear c21
        replace H := Option.bind_eq_some_iff.mp H
        obtain ⟨t106, A220, H⟩ := H
        replace H : (if t106 = true then ((impl_within.f a0_2 (wrap64 (a1 - 1))).bind fun t107 => (some t107)) else (some false)) = some r := H
        have A22 := Aside0.mk A220
        clear A220
        by_cases c23 : t106 = true
        ·subst c23
         have H1 : ((impl_within.f a0_2 (wrap64 (a1 - 1))).bind fun t107 => (some t107)) = some r := by rw [if_pos rfl] at H; exact H
         clear H
         have H := H1
         clear H1
         replace H := Option.bind_eq_some_iff.mp H
         obtain ⟨t107, A240, H⟩ := H
         replace H : (some t107) = some r := H
         have A24 := Aside0.mk A240
         clear A240
         obtain rfl := Option.some.inj H
         have hcz25_0 : wc.cell? ⟨gb101, 0, none⟩ = some (.int .i64 a0_0) := bc BK101 0
         have hcz25_1 : wc.cell? ⟨gb101, 1, none⟩ = some (.int .i64 a0_1) := bc BK101 1
         have hcz25_2 : wc.cell? ⟨gb101, 2, none⟩ = some (.int .i64 a0_2) := bc BK101 2
         have hfz25_0 := blk_frozen BK101.out 0
         have hfz25_1 := blk_frozen BK101.out 1
         have hfz25_2 := blk_frozen BK101.out 2
         go_wp2_with (first | ((with_reducible refine gate_callee (f := 30) rfl ?_); refine goesL_ (some 39) rfl rfl Tryd.func30 (by kernel_rfl) rfl #[.int .i64 a0_1, .int .i64 7] rfl gl_ ?_; (with_reducible refine (impl_within.calls a0_1 7 true _ A22.out).mono ?_); rintro e w' ⟨rfl, ⟨nd, rfl⟩⟩; refine ⟨_, rfl, ?_⟩) | (go_at_call 30; (with_reducible refine (impl_within.calls a0_2 (wrap64 (a1 - 1)) t107 _ A24.out).mono ?_); rintro e w' ⟨rfl, ⟨nd, rfl⟩⟩))
         go_ret
         exact ⟨rf_, (hB1 HB.out GE101.out)⟩
        ·replace c23 := Bool.eq_false_iff.mpr c23
         subst c23
         have H1 : (some false) = some r := by rw [if_neg (show ¬ (false = true) by decide)] at H; exact H
         clear H
         have H := H1
         clear H1
         obtain rfl := Option.some.inj H
         have hcz26_0 : wc.cell? ⟨gb101, 0, none⟩ = some (.int .i64 a0_0) := bc BK101 0
         have hcz26_1 : wc.cell? ⟨gb101, 1, none⟩ = some (.int .i64 a0_1) := bc BK101 1
         have hcz26_2 : wc.cell? ⟨gb101, 2, none⟩ = some (.int .i64 a0_2) := bc BK101 2
         have hfz26_0 := blk_frozen BK101.out 0
         have hfz26_1 := blk_frozen BK101.out 1
         have hfz26_2 := blk_frozen BK101.out 2
         go_wp2_with (first | ((with_reducible refine gate_callee (f := 30) rfl ?_); refine goesL_ (some 39) rfl rfl Tryd.func30 (by kernel_rfl) rfl #[.int .i64 a0_1, .int .i64 7] rfl gl_ ?_; (with_reducible refine (impl_within.calls a0_1 7 false _ A22.out).mono ?_); rintro e w' ⟨rfl, ⟨nd, rfl⟩⟩; refine ⟨_, rfl, ?_⟩))
         go_ret
         exact ⟨rf_, (hB1 HB.out GE101.out)⟩
       ·rw [if_neg c21] at H
        have c21b0 : (a0_0 == 5) = false := beq_eq_false_iff_ne.mpr c21
        have c21b1 : (a0_0 != 5) = true := bne_iff_ne.mpr c21
        have HC27 := Aside0.mk H
        clear H
        go_upto_if 18 with (fail)
        go_cut [18] (fun v18 wc => ∃ (kq : Nat) (x18_26 : Bool), v18 = .bool x18_26 ∧ Aside0 (impl_opOk.j2 kq 0 a0_0 x18_26 a0_0 a0_1 a0_2 = some r) ∧ Aside0 (kq ≤ kj12) ∧ Aside0 (wc.heap[gb101]? = some (.cells #[.int .i64 a0_0, .int .i64 a0_1, .int .i64 a0_2] 107 (0, 0))) ∧ Aside0 (Below w.heap.size w wc))
        case first =>
         have H := HC27.out
         clear HC27
         by_cases c28 : a0_0 = 9
         ·rw [if_pos c28] at H
          have c28b0 : (a0_0 == 9) = true := beq_iff_eq.mpr c28
          have c28b1 : (a0_0 != 9) = false := bne_eq_false_iff_eq.mpr c28
          clear c28
          (first | rw [c28b0] | (simp only [i64_w, i32_w]; rw [c28b0]) | skip)
          have H' := Aside0.mk H
          clear H
          go_wp2
          go_meet
          case rel => exact ⟨_, ((a0_0 == 9)), (by first | rfl | (simp; done) | (simp [*]; done)), H', ⟨by have := HJ2.out; have := HJ12.out; first | omega | exact Nat.le_refl _⟩, ⟨kN BK101.out⟩, ⟨(hB1 HB.out GE101.out)⟩⟩
         ·rw [if_neg c28] at H
          have c28b0 : (a0_0 == 9) = false := beq_eq_false_iff_ne.mpr c28
          have c28b1 : (a0_0 != 9) = true := bne_iff_ne.mpr c28
          (first | rw [c28b0] | (simp only [i64_w, i32_w]; rw [c28b0]) | skip)
          have H' := Aside0.mk H
          clear H
          go_wp2
          go_meet
          case rel => exact ⟨_, ((a0_0 == 10)), (by first | rfl | (simp; done) | (simp [*]; done)), H', ⟨by have := HJ2.out; have := HJ12.out; first | omega | exact Nat.le_refl _⟩, ⟨kN BK101.out⟩, ⟨(hB1 HB.out GE101.out)⟩⟩
        case rest =>
         clear HC27
         try clear c1
         try clear c2
         try clear p2
         try clear c3
         try clear c6
         try clear c6b0
         try clear c6b1
         try clear p6
         try clear c7
         try clear c9
         try clear c14
         try clear c14b0
         try clear c14b1
         try clear c15
         try clear c17
         try clear c21
         try clear c21b0
         try clear c21b1
         try clear c23
         try clear c28
         try clear c28b0
         try clear c28b1
         try clear p2
         obtain ⟨kq, x18_26, rfl, HA, HJ26, BK101, HB⟩ := hcut
         cases kq with
         | zero => exact absurd HA.out (by simp [impl_opOk.j2])
         | succ kj26 =>
          have H := HA.out
          clear HA
          simp only [impl_opOk.j2] at H
          by_cases c29 : x18_26 = true
          ·subst c29
           have H1 : ((impl_within.f a0_1 7).bind fun t108 => (if t108 = true then ((impl_within.f a0_2 3).bind fun t109 => (some t109)) else (some false))) = some r := by rw [if_pos rfl] at H; exact H
           clear H
           have H := H1
           clear H1
           replace H := Option.bind_eq_some_iff.mp H
           obtain ⟨t108, A300, H⟩ := H
           replace H : (if t108 = true then ((impl_within.f a0_2 3).bind fun t109 => (some t109)) else (some false)) = some r := H
           have A30 := Aside0.mk A300
           clear A300
           by_cases c31 : t108 = true
           ·subst c31
            have H1 : ((impl_within.f a0_2 3).bind fun t109 => (some t109)) = some r := by rw [if_pos rfl] at H; exact H
            clear H
            have H := H1
            clear H1
            replace H := Option.bind_eq_some_iff.mp H
            obtain ⟨t109, A320, H⟩ := H
            replace H : (some t109) = some r := H
            have A32 := Aside0.mk A320
            clear A320
            obtain rfl := Option.some.inj H
            have hcz33_0 : wc.cell? ⟨gb101, 0, none⟩ = some (.int .i64 a0_0) := bc BK101 0
            have hcz33_1 : wc.cell? ⟨gb101, 1, none⟩ = some (.int .i64 a0_1) := bc BK101 1
            have hcz33_2 : wc.cell? ⟨gb101, 2, none⟩ = some (.int .i64 a0_2) := bc BK101 2
            have hfz33_0 := blk_frozen BK101.out 0
            have hfz33_1 := blk_frozen BK101.out 1
            have hfz33_2 := blk_frozen BK101.out 2
            go_wp2_with (first | ((with_reducible refine gate_callee (f := 30) rfl ?_); refine goesL_ (some 39) rfl rfl Tryd.func30 (by kernel_rfl) rfl #[.int .i64 a0_1, .int .i64 7] rfl gl_ ?_; (with_reducible refine (impl_within.calls a0_1 7 true _ A30.out).mono ?_); rintro e w' ⟨rfl, ⟨nd, rfl⟩⟩; refine ⟨_, rfl, ?_⟩) | (go_at_call 30; (with_reducible refine (impl_within.calls a0_2 3 t109 _ A32.out).mono ?_); rintro e w' ⟨rfl, ⟨nd, rfl⟩⟩))
            go_ret
            exact ⟨rf_, (hB1 HB.out GE101.out)⟩
           ·replace c31 := Bool.eq_false_iff.mpr c31
            subst c31
            have H1 : (some false) = some r := by rw [if_neg (show ¬ (false = true) by decide)] at H; exact H
            clear H
            have H := H1
            clear H1
            obtain rfl := Option.some.inj H
            have hcz34_0 : wc.cell? ⟨gb101, 0, none⟩ = some (.int .i64 a0_0) := bc BK101 0
            have hcz34_1 : wc.cell? ⟨gb101, 1, none⟩ = some (.int .i64 a0_1) := bc BK101 1
            have hcz34_2 : wc.cell? ⟨gb101, 2, none⟩ = some (.int .i64 a0_2) := bc BK101 2
            have hfz34_0 := blk_frozen BK101.out 0
            have hfz34_1 := blk_frozen BK101.out 1
            have hfz34_2 := blk_frozen BK101.out 2
            go_wp2_with (first | ((with_reducible refine gate_callee (f := 30) rfl ?_); refine goesL_ (some 39) rfl rfl Tryd.func30 (by kernel_rfl) rfl #[.int .i64 a0_1, .int .i64 7] rfl gl_ ?_; (with_reducible refine (impl_within.calls a0_1 7 false _ A30.out).mono ?_); rintro e w' ⟨rfl, ⟨nd, rfl⟩⟩; refine ⟨_, rfl, ?_⟩))
            go_ret
            exact ⟨rf_, (hB1 HB.out GE101.out)⟩
          ·replace c29 := Bool.eq_false_iff.mpr c29
           subst c29
           have H1 : (if a0_0 = 11 then (if a0_1 = 0 then (some (a0_2 == 0)) else (some false)) else (if a0_0 = 4 then (impl_opOk.j3 kj26 0 (a0_0 == 4) a0_0 a0_1 a0_2) else (if a0_0 = 6 then (impl_opOk.j3 kj26 0 (a0_0 == 6) a0_0 a0_1 a0_2) else (if a0_0 = 7 then (impl_opOk.j3 kj26 0 (a0_0 == 7) a0_0 a0_1 a0_2) else (if a0_0 = 8 then (impl_opOk.j3 kj26 0 (a0_0 == 8) a0_0 a0_1 a0_2) else (impl_opOk.j3 kj26 0 (a0_0 == 12) a0_0 a0_1 a0_2)))))) = some r := by rw [if_neg (show ¬ (false = true) by decide)] at H; exact H
           clear H
           have H := H1
           clear H1
           by_cases c35 : a0_0 = 11
           ·rw [if_pos c35] at H
            have c35b0 : (a0_0 == 11) = true := beq_iff_eq.mpr c35
            have c35b1 : (a0_0 != 11) = false := bne_eq_false_iff_eq.mpr c35
            clear c35
            by_cases c36 : a0_1 = 0
            ·rw [if_pos c36] at H
             have c36b0 : (a0_1 == 0) = true := beq_iff_eq.mpr c36
             have c36b1 : (a0_1 != 0) = false := bne_eq_false_iff_eq.mpr c36
             clear c36
             obtain rfl := Option.some.inj H
             have hcz37_0 : wc.cell? ⟨gb101, 0, none⟩ = some (.int .i64 a0_0) := bc BK101 0
             have hcz37_1 : wc.cell? ⟨gb101, 1, none⟩ = some (.int .i64 a0_1) := bc BK101 1
             have hcz37_2 : wc.cell? ⟨gb101, 2, none⟩ = some (.int .i64 a0_2) := bc BK101 2
             have hfz37_0 := blk_frozen BK101.out 0
             have hfz37_1 := blk_frozen BK101.out 1
             have hfz37_2 := blk_frozen BK101.out 2
             go_wp2
             go_ret
             exact ⟨rf_, (hB1 HB.out GE101.out)⟩
            ·rw [if_neg c36] at H
             have c36b0 : (a0_1 == 0) = false := beq_eq_false_iff_ne.mpr c36
             have c36b1 : (a0_1 != 0) = true := bne_iff_ne.mpr c36
             obtain rfl := Option.some.inj H
             have hcz38_0 : wc.cell? ⟨gb101, 0, none⟩ = some (.int .i64 a0_0) := bc BK101 0
             have hcz38_1 : wc.cell? ⟨gb101, 1, none⟩ = some (.int .i64 a0_1) := bc BK101 1
             have hcz38_2 : wc.cell? ⟨gb101, 2, none⟩ = some (.int .i64 a0_2) := bc BK101 2
             have hfz38_0 := blk_frozen BK101.out 0
             have hfz38_1 := blk_frozen BK101.out 1
             have hfz38_2 := blk_frozen BK101.out 2
             go_wp2
             go_ret
             exact ⟨rf_, (hB1 HB.out GE101.out)⟩
           ·rw [if_neg c35] at H
            have c35b0 : (a0_0 == 11) = false := beq_eq_false_iff_ne.mpr c35
            have c35b1 : (a0_0 != 11) = true := bne_iff_ne.mpr c35
            have HC39 := Aside0.mk H
            clear H
            go_upto_if 31 with (fail)
            go_cut [31] (fun v31 wc => ∃ (kq : Nat) (x31_38 : Bool), v31 = .bool x31_38 ∧ Aside0 (impl_opOk.j3 kq 0 x31_38 a0_0 a0_1 a0_2 = some r) ∧ Aside0 (kq ≤ kj26) ∧ Aside0 (wc.heap[gb101]? = some (.cells #[.int .i64 a0_0, .int .i64 a0_1, .int .i64 a0_2] 107 (0, 0))) ∧ Aside0 (Below w.heap.size w wc))
            case first =>
             have H := HC39.out
             clear HC39
             by_cases c40 : a0_0 = 4
             ·rw [if_pos c40] at H
              have c40b0 : (a0_0 == 4) = true := beq_iff_eq.mpr c40
              have c40b1 : (a0_0 != 4) = false := bne_eq_false_iff_eq.mpr c40
              clear c40
              (first | rw [c40b0] | (simp only [i64_w, i32_w]; rw [c40b0]) | skip)
              have H' := Aside0.mk H
              clear H
              go_wp2
              go_meet
              case rel => exact ⟨_, ((a0_0 == 4)), (by first | rfl | (simp; done) | (simp [*]; done)), H', ⟨by have := HJ2.out; have := HJ12.out; have := HJ26.out; first | omega | exact Nat.le_refl _⟩, ⟨kN BK101.out⟩, ⟨(hB1 HB.out GE101.out)⟩⟩
             ·rw [if_neg c40] at H
              have c40b0 : (a0_0 == 4) = false := beq_eq_false_iff_ne.mpr c40
              have c40b1 : (a0_0 != 4) = true := bne_iff_ne.mpr c40
              (first | rw [c40b0] | (simp only [i64_w, i32_w]; rw [c40b0]) | skip)
              by_cases c41 : a0_0 = 6
              ·rw [if_pos c41] at H
               have c41b0 : (a0_0 == 6) = true := beq_iff_eq.mpr c41
               have c41b1 : (a0_0 != 6) = false := bne_eq_false_iff_eq.mpr c41
               clear c41
               have H' := Aside0.mk H
               clear H
               go_wp2
               go_meet
               case rel => exact ⟨_, ((a0_0 == 6)), (by first | rfl | (simp; done) | (simp [*]; done)), H', ⟨by have := HJ2.out; have := HJ12.out; have := HJ26.out; first | omega | exact Nat.le_refl _⟩, ⟨kN BK101.out⟩, ⟨(hB1 HB.out GE101.out)⟩⟩
              ·rw [if_neg c41] at H
               have c41b0 : (a0_0 == 6) = false := beq_eq_false_iff_ne.mpr c41
               have c41b1 : (a0_0 != 6) = true := bne_iff_ne.mpr c41
               by_cases c42 : a0_0 = 7
               ·rw [if_pos c42] at H
                have c42b0 : (a0_0 == 7) = true := beq_iff_eq.mpr c42
                have c42b1 : (a0_0 != 7) = false := bne_eq_false_iff_eq.mpr c42
                clear c42
                have H' := Aside0.mk H
                clear H
                go_wp2
                go_meet
                case rel => exact ⟨_, ((a0_0 == 7)), (by first | rfl | (simp; done) | (simp [*]; done)), H', ⟨by have := HJ2.out; have := HJ12.out; have := HJ26.out; first | omega | exact Nat.le_refl _⟩, ⟨kN BK101.out⟩, ⟨(hB1 HB.out GE101.out)⟩⟩
               ·rw [if_neg c42] at H
                have c42b0 : (a0_0 == 7) = false := beq_eq_false_iff_ne.mpr c42
                have c42b1 : (a0_0 != 7) = true := bne_iff_ne.mpr c42
                by_cases c43 : a0_0 = 8
                ·rw [if_pos c43] at H
                 have c43b0 : (a0_0 == 8) = true := beq_iff_eq.mpr c43
                 have c43b1 : (a0_0 != 8) = false := bne_eq_false_iff_eq.mpr c43
                 clear c43
                 have H' := Aside0.mk H
                 clear H
                 go_wp2
                 go_meet
                 case rel => exact ⟨_, ((a0_0 == 8)), (by first | rfl | (simp; done) | (simp [*]; done)), H', ⟨by have := HJ2.out; have := HJ12.out; have := HJ26.out; first | omega | exact Nat.le_refl _⟩, ⟨kN BK101.out⟩, ⟨(hB1 HB.out GE101.out)⟩⟩
                ·rw [if_neg c43] at H
                 have c43b0 : (a0_0 == 8) = false := beq_eq_false_iff_ne.mpr c43
                 have c43b1 : (a0_0 != 8) = true := bne_iff_ne.mpr c43
                 have H' := Aside0.mk H
                 clear H
                 go_wp2
                 go_meet
                 case rel => exact ⟨_, ((a0_0 == 12)), (by first | rfl | (simp; done) | (simp [*]; done)), H', ⟨by have := HJ2.out; have := HJ12.out; have := HJ26.out; first | omega | exact Nat.le_refl _⟩, ⟨kN BK101.out⟩, ⟨(hB1 HB.out GE101.out)⟩⟩
            case rest =>
             clear HC39
             try clear c1
             try clear c2
             try clear p2
             try clear c3
             try clear c4
             try clear c6
             try clear c6b0
             try clear c6b1
             try clear p6
             try clear c7
             try clear c9
             try clear c14
             try clear c14b0
             try clear c14b1
             try clear c15
             try clear c17
             try clear c21
             try clear c21b0
             try clear c21b1
             try clear c23
             try clear c28
             try clear c28b0
             try clear c28b1
             try clear c29
             try clear c30
             try clear c31
             try clear c35
             try clear c35b0
             try clear c35b1
             try clear c36
             try clear c36b0
             try clear c36b1
             try clear c40
             try clear c40b0
             try clear c40b1
             try clear c41
             try clear c41b0
             try clear c41b1
             try clear c42
             try clear c42b0
             try clear c42b1
             try clear c43
             try clear c43b0
             try clear c43b1
             try clear p2
             try clear p6
             obtain ⟨kq, x31_38, rfl, HA, HJ38, BK101, HB⟩ := hcut
             cases kq with
             | zero => exact absurd HA.out (by simp [impl_opOk.j3])
             | succ kj38 =>
              have H := HA.out
              clear HA
              simp only [impl_opOk.j3] at H
              by_cases c44 : x31_38 = true
              ·subst c44
               have H1 : ((impl_within.f a0_1 7).bind fun t110 => (if t110 = true then ((impl_within.f a0_2 0).bind fun t111 => (some t111)) else (some false))) = some r := by rw [if_pos rfl] at H; exact H
               clear H
               have H := H1
               clear H1
               replace H := Option.bind_eq_some_iff.mp H
               obtain ⟨t110, A450, H⟩ := H
               replace H : (if t110 = true then ((impl_within.f a0_2 0).bind fun t111 => (some t111)) else (some false)) = some r := H
               have A45 := Aside0.mk A450
               clear A450
               by_cases c46 : t110 = true
               ·subst c46
                have H1 : ((impl_within.f a0_2 0).bind fun t111 => (some t111)) = some r := by rw [if_pos rfl] at H; exact H
                clear H
                have H := H1
                clear H1
                replace H := Option.bind_eq_some_iff.mp H
                obtain ⟨t111, A470, H⟩ := H
                replace H : (some t111) = some r := H
                have A47 := Aside0.mk A470
                clear A470
                obtain rfl := Option.some.inj H
                have hcz48_0 : wc.cell? ⟨gb101, 0, none⟩ = some (.int .i64 a0_0) := bc BK101 0
                have hcz48_1 : wc.cell? ⟨gb101, 1, none⟩ = some (.int .i64 a0_1) := bc BK101 1
                have hcz48_2 : wc.cell? ⟨gb101, 2, none⟩ = some (.int .i64 a0_2) := bc BK101 2
                have hfz48_0 := blk_frozen BK101.out 0
                have hfz48_1 := blk_frozen BK101.out 1
                have hfz48_2 := blk_frozen BK101.out 2
                go_wp2_with (first | ((with_reducible refine gate_callee (f := 30) rfl ?_); refine goesL_ (some 39) rfl rfl Tryd.func30 (by kernel_rfl) rfl #[.int .i64 a0_1, .int .i64 7] rfl gl_ ?_; (with_reducible refine (impl_within.calls a0_1 7 true _ A45.out).mono ?_); rintro e w' ⟨rfl, ⟨nd, rfl⟩⟩; refine ⟨_, rfl, ?_⟩) | (go_at_call 30; (with_reducible refine (impl_within.calls a0_2 0 t111 _ A47.out).mono ?_); rintro e w' ⟨rfl, ⟨nd, rfl⟩⟩))
                go_ret
                exact ⟨rf_, (hB1 HB.out GE101.out)⟩
               ·replace c46 := Bool.eq_false_iff.mpr c46
                subst c46
                have H1 : (some false) = some r := by rw [if_neg (show ¬ (false = true) by decide)] at H; exact H
                clear H
                have H := H1
                clear H1
                obtain rfl := Option.some.inj H
                have hcz49_0 : wc.cell? ⟨gb101, 0, none⟩ = some (.int .i64 a0_0) := bc BK101 0
                have hcz49_1 : wc.cell? ⟨gb101, 1, none⟩ = some (.int .i64 a0_1) := bc BK101 1
                have hcz49_2 : wc.cell? ⟨gb101, 2, none⟩ = some (.int .i64 a0_2) := bc BK101 2
                have hfz49_0 := blk_frozen BK101.out 0
                have hfz49_1 := blk_frozen BK101.out 1
                have hfz49_2 := blk_frozen BK101.out 2
                go_wp2_with (first | ((with_reducible refine gate_callee (f := 30) rfl ?_); refine goesL_ (some 39) rfl rfl Tryd.func30 (by kernel_rfl) rfl #[.int .i64 a0_1, .int .i64 7] rfl gl_ ?_; (with_reducible refine (impl_within.calls a0_1 7 false _ A45.out).mono ?_); rintro e w' ⟨rfl, ⟨nd, rfl⟩⟩; refine ⟨_, rfl, ?_⟩))
                go_ret
                exact ⟨rf_, (hB1 HB.out GE101.out)⟩
              ·replace c44 := Bool.eq_false_iff.mpr c44
               subst c44
               have H1 : (some false) = some r := by rw [if_neg (show ¬ (false = true) by decide)] at H; exact H
               clear H
               have H := H1
               clear H1
               obtain rfl := Option.some.inj H
               go_wp2
               go_ret
               exact ⟨rf_, (hB1 HB.out GE101.out)⟩

end Go.Proofs.YtcenmlpfbpogoaaDoor.P
