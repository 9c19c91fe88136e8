/- The machine side of these statements, function by function: what each Go function answers (as a Lean function), and that it does. Written by a program (mp.py) for this claim. -/
import Derived.Test.YtnlhaiihbcdmoaaPx0
namespace Go.Proofs.Ytnlhaiihbcdmoaa.P
open Go.RowKit Go.Proofs.YtnlhaiihbcdmoaaW.PrintWords Go.Proofs.YtnlhaiihbcdmoaaW.PrintLast Go.Proofs.YtnlhaiihbcdmoaaW.PrintMore
attribute [local go_sem] max2_int min2_int max_two min_two max_three min_three max_four min_four   -- for this text's walks alone
set_option linter.unusedVariables false
set_option linter.unusedSimpArgs false

/-! ### impl_frameDataOk: function 33 -/
def impl_frameDataOk.f (a0 : ByteArray) : Option (Bool) := if (a0.size : Int) ≥ 1 then (some (decide ((a0.size : Int) ≤ 53))) else (some false)
set_option maxHeartbeats 8000000 in
set_option maxRecDepth 100000 in
theorem impl_frameDataOk.calls (a0 : ByteArray) (r : Bool) (w : World) (h : impl_frameDataOk.f a0 = some r) :
  Calls Try.prog 33 #[.string a0] w fun e w' => e = .returned (.bool r) ∧ Drawn0 w w' := by
 have H : (if (a0.size : Int) ≥ 1 then (some (decide ((a0.size : Int) ≤ 53))) else (some false)) = some r := h
 clear h
 by_cases c2 : (a0.size : Int) ≥ 1
 ·rw [if_pos c2] at H
  have c2b0 : decide (1 ≤ (a0.size : Int)) = true := decide_eq_true c2
  have c2b1 : decide (1 ≤ a0.size) = true := decide_eq_true (by omega)
  clear c2
  obtain rfl := Option.some.inj H
  go_enter Try.func33, Try.ntmps33
  go_wp2
  go_ret
  exact ⟨by first | rfl | (simp; done) | (simp [*]; done), by repeat (first | exact Drawn0.refl _ | apply Drawn0.step)⟩
 ·rw [if_neg c2] at H
  have c2b0 : decide (1 ≤ (a0.size : Int)) = false := decide_eq_false c2
  have c2b1 : decide (1 ≤ a0.size) = false := decide_eq_false (by omega)
  clear c2
  obtain rfl := Option.some.inj H
  go_enter Try.func33, Try.ntmps33
  go_wp2
  go_ret
  exact ⟨by first | rfl | (simp; done) | (simp [*]; done), by repeat (first | exact Drawn0.refl _ | apply Drawn0.step)⟩

/-! ### impl_within: function 43 -/
def impl_within.f (a0 : Int) (a1 : Int) : Option (Bool) := if a0 ≥ 0 then (some (decide (a0 ≤ a1))) else (some false)
set_option maxHeartbeats 8000000 in
set_option maxRecDepth 100000 in
theorem impl_within.calls (a0 : Int) (a1 : Int) (r : Bool) (w : World) (h : impl_within.f a0 a1 = some r) :
  Calls Try.prog 43 #[.int .i64 a0, .int .i64 a1] w fun e w' => e = .returned (.bool r) ∧ Drawn0 w w' := by
 have H : (if a0 ≥ 0 then (some (decide (a0 ≤ a1))) else (some false)) = some r := h
 clear h
 by_cases c3 : a0 ≥ 0
 ·rw [if_pos c3] at H
  have c3b0 : decide (0 ≤ a0) = true := decide_eq_true c3
  clear c3
  obtain rfl := Option.some.inj H
  go_enter Try.func43, Try.ntmps43
  go_wp2
  go_ret
  exact ⟨by first | rfl | (simp; done) | (simp [*]; done), by repeat (first | exact Drawn0.refl _ | apply Drawn0.step)⟩
 ·rw [if_neg c3] at H
  have c3b0 : decide (0 ≤ a0) = false := decide_eq_false c3
  clear c3
  obtain rfl := Option.some.inj H
  go_enter Try.func43, Try.ntmps43
  go_wp2
  go_ret
  exact ⟨by first | rfl | (simp; done) | (simp [*]; done), by repeat (first | exact Drawn0.refl _ | apply Drawn0.step)⟩

/-! ### impl_FopOk: function 12 -/
mutual
def impl_FopOk.j0 : Nat → Bool → Int → Int → Int → List ByteArray → Bool → Option (Bool)
 | 0, _, _, _, _, _, _ => none
 | k + 1, x26, x195000, x195001, x195002, x195003, x195004 => if x26 = true then (some false) else (impl_FopOk.l0 k x195003 (x195003.length : Int) 0)
def impl_FopOk.l0 : Nat → List ByteArray → Int → Int → Option (Bool)
 | 0, _, _, _ => none
 | k + 1, x28, x29, x30 => if x30 < x29 then (if 0 ≤ x30 then (if x30 < (x28.length : Int) then ((impl_frameDataOk.f (rdOf ByteArray.empty x28 x30)).bind fun t199 => (if t199 = true then (impl_FopOk.l0 k x28 x29 (wrap64 (x30 + 1))) else (some false))) else (none)) else (none)) else (some true)
end
def impl_FopOk.f (k : Nat) (a0_0 : Int) (a0_1 : Int) (a0_2 : Int) (l0_3 : List ByteArray) (a0_4 : Bool) : Option (Bool) := (impl_within.f a0_0 1023).bind fun t195 => (if t195 = true then ((impl_within.f a0_1 63).bind fun t196 => (if t196 = true then ((impl_within.f a0_2 255).bind fun t197 => (if t197 = true then (impl_FopOk.j0 k (decide ((l0_3.length : Int) > 4)) a0_0 a0_1 a0_2 l0_3 a0_4) else (impl_FopOk.j0 k true a0_0 a0_1 a0_2 l0_3 a0_4))) else (impl_FopOk.j0 k true a0_0 a0_1 a0_2 l0_3 a0_4))) else (impl_FopOk.j0 k true a0_0 a0_1 a0_2 l0_3 a0_4))
theorem impl_FopOk.mono_l : ∀ k, (∀ y0 y1 y2 y3 y4 y5, LeO (impl_FopOk.j0 k y0 y1 y2 y3 y4 y5) (impl_FopOk.j0 (k + 1) y0 y1 y2 y3 y4 y5)) ∧ (∀ y0 y1 y2, LeO (impl_FopOk.l0 k y0 y1 y2) (impl_FopOk.l0 (k + 1) y0 y1 y2))
 | 0 => ⟨fun _ _ _ _ _ _ r h => by simp [impl_FopOk.j0] at h, fun _ _ _ r h => by simp [impl_FopOk.l0] at h⟩
 | k + 1 => by
  obtain ⟨ih0, ih1⟩ := impl_FopOk.mono_l k
  refine ⟨?_, ?_⟩
  ·intro y0 y1 y2 y3 y4 y5
   unfold impl_FopOk.j0
   repeat' first
   | (with_reducible exact ih0 _ _ _ _ _ _)
   | (with_reducible exact ih1 _ _ _)
   | (with_reducible exact LeO.refl _)
   | (with_reducible exact LeO.none _)
   | (with_reducible refine LeO.ite ?_ ?_)
   | (with_reducible refine LeO.bind ?_ (fun _ => ?_))
   | exact ih0 _ _ _ _ _ _
   | exact ih1 _ _ _
   | exact LeO.none _
   | refine LeO.ite ?_ ?_
   | refine LeO.bind ?_ (fun _ => ?_)
  ·intro y0 y1 y2
   unfold impl_FopOk.l0
   repeat' first
   | (with_reducible exact ih0 _ _ _ _ _ _)
   | (with_reducible exact ih1 _ _ _)
   | (with_reducible exact LeO.refl _)
   | (with_reducible exact LeO.none _)
   | (with_reducible refine LeO.ite ?_ ?_)
   | (with_reducible refine LeO.bind ?_ (fun _ => ?_))
   | exact ih0 _ _ _ _ _ _
   | exact ih1 _ _ _
   | exact LeO.none _
   | refine LeO.ite ?_ ?_
   | refine LeO.bind ?_ (fun _ => ?_)
theorem impl_FopOk.mono : ∀ a0 a1 a2 a3 a4 k, LeO (impl_FopOk.f k a0 a1 a2 a3 a4) (impl_FopOk.f (k + 1) a0 a1 a2 a3 a4) := by
 intro a0 a1 a2 a3 a4 k
 obtain ⟨ih0, ih1⟩ := impl_FopOk.mono_l k
 unfold impl_FopOk.f
 repeat' first
   | (with_reducible exact ih0 _ _ _ _ _ _)
   | (with_reducible exact ih1 _ _ _)
   | (with_reducible exact LeO.refl _)
   | (with_reducible exact LeO.none _)
   | (with_reducible refine LeO.ite ?_ ?_)
   | (with_reducible refine LeO.bind ?_ (fun _ => ?_))
   | exact ih0 _ _ _ _ _ _
   | exact ih1 _ _ _
   | exact LeO.none _
   | refine LeO.ite ?_ ?_
   | refine LeO.bind ?_ (fun _ => ?_)
set_option maxHeartbeats 8000000 in
set_option maxRecDepth 100000 in
theorem impl_FopOk.calls (k : Nat) (a0_0 : Int) (a0_1 : Int) (a0_2 : Int) (A0_3 : Option Addr) (c0_3 : Nat) (l0_3 : List ByteArray) (a0_4 : Bool) (r : Bool) (w : World) (hr0_3 : Kd.C Kd.string w A0_3 l0_3.length l0_3) (hc0_3 : l0_3.length ≤ c0_3) (h : impl_FopOk.f k a0_0 a0_1 a0_2 l0_3 a0_4 = some r) :
  Calls Try.prog 12 #[.agg #[.int .i64 a0_0, .int .i64 a0_1, .int .i64 a0_2, .slice A0_3 l0_3.length c0_3, .bool a0_4]] w fun e w' => e = .returned (.bool r) ∧ Below w.heap.size w w' := by
 have hu25 := Try.underlying25
 have HR0_3 := Aside0.mk hr0_3
 have HC0_3 := Aside0.mk hc0_3
 clear hr0_3 hc0_3
 have HB := m_ (Below.refl w.heap.size w)
 have H : ((impl_within.f a0_0 1023).bind fun t195 => (if t195 = true then ((impl_within.f a0_1 63).bind fun t196 => (if t196 = true then ((impl_within.f a0_2 255).bind fun t197 => (if t197 = true then (impl_FopOk.j0 k (decide ((l0_3.length : Int) > 4)) a0_0 a0_1 a0_2 l0_3 a0_4) else (impl_FopOk.j0 k true a0_0 a0_1 a0_2 l0_3 a0_4))) else (impl_FopOk.j0 k true a0_0 a0_1 a0_2 l0_3 a0_4))) else (impl_FopOk.j0 k true a0_0 a0_1 a0_2 l0_3 a0_4))) = some r := h
 clear h
 have HC2 := Aside0.mk H
 clear H
 go_enter Try.func12, Try.ntmps12
 go_upto_region 1 with (first | ((with_reducible refine gate_dst (N := 1) rfl ?_); (try (refine gate_guard (by rfl) ?_; dsimp only)); refine box_event ?hg (N := 1) ?hd (cs := #[.int .i64 a0_0, .int .i64 a0_1, .int .i64 a0_2, .slice A0_3 l0_3.length c0_3, .bool a0_4]) (t := 25) ?hr ?_; (case hd => rfl); (case hg => rfl); (case hr => first | (go_simp; done) | (go_simp; rfl)); intro gb194 hg w3 hbox hb; have n0_ := m_ (below_step (bN HB.out) hb); have n1_ := m_ (hbox); have n2_ := m_ ((by rw [hg]; exact (below_size (bN HB.out)) : w.heap.size ≤ gb194)); have n3_ := m_ ((by rw [hg]; exact (below_size (bN HB.out)) : w.heap.size ≤ gb194)); clear HB; have HB := n0_; have BK194 := n1_; have GW194 := n2_; have GE194 := n3_; clear n0_ n1_ n2_ n3_; clear hb hbox hg))
 (try simp only [Act.put, List.setIfInBounds_toArray, List.set_cons_zero, List.set_cons_succ])
 go_cut [26] (fun v26 wc => ∃ (kq : Nat) (x26_1 : Bool), v26 = .bool x26_1 ∧ Aside0 (impl_FopOk.j0 kq x26_1 a0_0 a0_1 a0_2 l0_3 a0_4 = some r) ∧ Aside0 (kq ≤ k) ∧ Aside0 (wc.heap[gb194]? = some (.cells #[.int .i64 a0_0, .int .i64 a0_1, .int .i64 a0_2, (.slice A0_3 l0_3.length c0_3), .bool a0_4] 25 (0, 0))) ∧ Aside0 (Below w.heap.size w wc))
 case first =>
  have H := HC2.out
  clear HC2
  replace H := Option.bind_eq_some_iff.mp H
  obtain ⟨t195, A40, H⟩ := H
  replace H : (if t195 = true then ((impl_within.f a0_1 63).bind fun t196 => (if t196 = true then ((impl_within.f a0_2 255).bind fun t197 => (if t197 = true then (impl_FopOk.j0 k (decide ((l0_3.length : Int) > 4)) a0_0 a0_1 a0_2 l0_3 a0_4) else (impl_FopOk.j0 k true a0_0 a0_1 a0_2 l0_3 a0_4))) else (impl_FopOk.j0 k true a0_0 a0_1 a0_2 l0_3 a0_4))) else (impl_FopOk.j0 k true a0_0 a0_1 a0_2 l0_3 a0_4)) = some r := H
  have A4 := Aside0.mk A40
  clear A40
  by_cases c5 : t195 = true
  ·subst c5
   have H1 : ((impl_within.f a0_1 63).bind fun t196 => (if t196 = true then ((impl_within.f a0_2 255).bind fun t197 => (if t197 = true then (impl_FopOk.j0 k (decide ((l0_3.length : Int) > 4)) a0_0 a0_1 a0_2 l0_3 a0_4) else (impl_FopOk.j0 k true a0_0 a0_1 a0_2 l0_3 a0_4))) else (impl_FopOk.j0 k true a0_0 a0_1 a0_2 l0_3 a0_4))) = some r := by rw [if_pos rfl] at H; exact H
   clear H
   have H := H1
   clear H1
   replace H := Option.bind_eq_some_iff.mp H
   obtain ⟨t196, A60, H⟩ := H
   replace H : (if t196 = true then ((impl_within.f a0_2 255).bind fun t197 => (if t197 = true then (impl_FopOk.j0 k (decide ((l0_3.length : Int) > 4)) a0_0 a0_1 a0_2 l0_3 a0_4) else (impl_FopOk.j0 k true a0_0 a0_1 a0_2 l0_3 a0_4))) else (impl_FopOk.j0 k true a0_0 a0_1 a0_2 l0_3 a0_4)) = some r := H
   have A6 := Aside0.mk A60
   clear A60
   by_cases c7 : t196 = true
   ·subst c7
    have H1 : ((impl_within.f a0_2 255).bind fun t197 => (if t197 = true then (impl_FopOk.j0 k (decide ((l0_3.length : Int) > 4)) a0_0 a0_1 a0_2 l0_3 a0_4) else (impl_FopOk.j0 k true a0_0 a0_1 a0_2 l0_3 a0_4))) = some r := by rw [if_pos rfl] at H; exact H
    clear H
    have H := H1
    clear H1
    replace H := Option.bind_eq_some_iff.mp H
    obtain ⟨t197, A80, H⟩ := H
    replace H : (if t197 = true then (impl_FopOk.j0 k (decide ((l0_3.length : Int) > 4)) a0_0 a0_1 a0_2 l0_3 a0_4) else (impl_FopOk.j0 k true a0_0 a0_1 a0_2 l0_3 a0_4)) = some r := H
    have A8 := Aside0.mk A80
    clear A80
    by_cases c9 : t197 = true
    ·subst c9
     have H1 : (impl_FopOk.j0 k (decide ((l0_3.length : Int) > 4)) a0_0 a0_1 a0_2 l0_3 a0_4) = some r := by rw [if_pos rfl] at H; exact H
     clear H
     have H := H1
     clear H1
     have H' := Aside0.mk H
     clear H
     have hcz10_0 : w3.cell? ⟨gb194, 0, none⟩ = some (.int .i64 a0_0) := bc BK194 0
     have hcz10_1 : w3.cell? ⟨gb194, 1, none⟩ = some (.int .i64 a0_1) := bc BK194 1
     have hcz10_2 : w3.cell? ⟨gb194, 2, none⟩ = some (.int .i64 a0_2) := bc BK194 2
     have hcz10_3 : w3.cell? ⟨gb194, 3, none⟩ = some (.slice A0_3 l0_3.length c0_3) := bc BK194 3
     have hcz10_4 : w3.cell? ⟨gb194, 4, none⟩ = some (.bool a0_4) := bc BK194 4
     have hfz10_0 := blk_frozen BK194.out 0
     have hfz10_1 := blk_frozen BK194.out 1
     have hfz10_2 := blk_frozen BK194.out 2
     have hfz10_3 := blk_frozen BK194.out 3
     have hfz10_4 := blk_frozen BK194.out 4
     go_wp2_with (first | ((with_reducible refine gate_callee (f := 43) rfl ?_); refine goesL_ (some 7) rfl rfl Try.func43 (by kernel_rfl) rfl #[.int .i64 a0_0, .int .i64 1023] rfl gl_ ?_; (with_reducible refine (impl_within.calls a0_0 1023 true _ A4.out).mono ?_); rintro e w' ⟨rfl, ⟨nd, rfl⟩⟩; refine ⟨_, rfl, ?_⟩) | (go_at_call 43; (with_reducible refine (impl_within.calls a0_1 63 true _ A6.out).mono ?_); rintro e w' ⟨rfl, ⟨nd, rfl⟩⟩) | (go_at_call 43; (with_reducible refine (impl_within.calls a0_2 255 true _ A8.out).mono ?_); rintro e w' ⟨rfl, ⟨nd, rfl⟩⟩))
     go_meet
     case rel => exact ⟨_, (decide ((l0_3.length : Int) > 4)), (by first | rfl | (simp; done) | (simp [*]; done)), H', ⟨by first | omega | exact Nat.le_refl _⟩, ⟨kN BK194.out⟩, ⟨by repeat (first | (with_reducible first | exact HB.out | apply below_alloc | apply pw_below_drewN | apply below_drew1 | refine below_set ?_ GE194.out) | exact HB.out)⟩⟩
    ·replace c9 := Bool.eq_false_iff.mpr c9
     subst c9
     have H1 : (impl_FopOk.j0 k true a0_0 a0_1 a0_2 l0_3 a0_4) = some r := by rw [if_neg (show ¬ (false = true) by decide)] at H; exact H
     clear H
     have H := H1
     clear H1
     have H' := Aside0.mk H
     clear H
     have hcz11_0 : w3.cell? ⟨gb194, 0, none⟩ = some (.int .i64 a0_0) := bc BK194 0
     have hcz11_1 : w3.cell? ⟨gb194, 1, none⟩ = some (.int .i64 a0_1) := bc BK194 1
     have hcz11_2 : w3.cell? ⟨gb194, 2, none⟩ = some (.int .i64 a0_2) := bc BK194 2
     have hcz11_3 : w3.cell? ⟨gb194, 3, none⟩ = some (.slice A0_3 l0_3.length c0_3) := bc BK194 3
     have hcz11_4 : w3.cell? ⟨gb194, 4, none⟩ = some (.bool a0_4) := bc BK194 4
     have hfz11_0 := blk_frozen BK194.out 0
     have hfz11_1 := blk_frozen BK194.out 1
     have hfz11_2 := blk_frozen BK194.out 2
     have hfz11_3 := blk_frozen BK194.out 3
     have hfz11_4 := blk_frozen BK194.out 4
     go_wp2_with (first | ((with_reducible refine gate_callee (f := 43) rfl ?_); refine goesL_ (some 7) rfl rfl Try.func43 (by kernel_rfl) rfl #[.int .i64 a0_0, .int .i64 1023] rfl gl_ ?_; (with_reducible refine (impl_within.calls a0_0 1023 true _ A4.out).mono ?_); rintro e w' ⟨rfl, ⟨nd, rfl⟩⟩; refine ⟨_, rfl, ?_⟩) | (go_at_call 43; (with_reducible refine (impl_within.calls a0_1 63 true _ A6.out).mono ?_); rintro e w' ⟨rfl, ⟨nd, rfl⟩⟩) | (go_at_call 43; (with_reducible refine (impl_within.calls a0_2 255 false _ A8.out).mono ?_); rintro e w' ⟨rfl, ⟨nd, rfl⟩⟩))
     go_meet
     case rel => exact ⟨_, (true), (by first | rfl | (simp; done) | (simp [*]; done)), H', ⟨by first | omega | exact Nat.le_refl _⟩, ⟨kN BK194.out⟩, ⟨by repeat (first | (with_reducible first | exact HB.out | apply below_alloc | apply pw_below_drewN | apply below_drew1 | refine below_set ?_ GE194.out) | exact HB.out)⟩⟩
   ·replace c7 := Bool.eq_false_iff.mpr c7
    subst c7
    have H1 : (impl_FopOk.j0 k true a0_0 a0_1 a0_2 l0_3 a0_4) = some r := by rw [if_neg (show ¬ (false = true) by decide)] at H; exact H
    clear H
    have H := H1
    clear H1
    have H' := Aside0.mk H
    clear H
    have hcz12_0 : w3.cell? ⟨gb194, 0, none⟩ = some (.int .i64 a0_0) := bc BK194 0
    have hcz12_1 : w3.cell? ⟨gb194, 1, none⟩ = some (.int .i64 a0_1) := bc BK194 1
    have hcz12_2 : w3.cell? ⟨gb194, 2, none⟩ = some (.int .i64 a0_2) := bc BK194 2
    have hcz12_3 : w3.cell? ⟨gb194, 3, none⟩ = some (.slice A0_3 l0_3.length c0_3) := bc BK194 3
    have hcz12_4 : w3.cell? ⟨gb194, 4, none⟩ = some (.bool a0_4) := bc BK194 4
    have hfz12_0 := blk_frozen BK194.out 0
    have hfz12_1 := blk_frozen BK194.out 1
    have hfz12_2 := blk_frozen BK194.out 2
    have hfz12_3 := blk_frozen BK194.out 3
    have hfz12_4 := blk_frozen BK194.out 4
    go_wp2_with (first | ((with_reducible refine gate_callee (f := 43) rfl ?_); refine goesL_ (some 7) rfl rfl Try.func43 (by kernel_rfl) rfl #[.int .i64 a0_0, .int .i64 1023] rfl gl_ ?_; (with_reducible refine (impl_within.calls a0_0 1023 true _ A4.out).mono ?_); rintro e w' ⟨rfl, ⟨nd, rfl⟩⟩; refine ⟨_, rfl, ?_⟩) | (go_at_call 43; (with_reducible refine (impl_within.calls a0_1 63 false _ A6.out).mono ?_); rintro e w' ⟨rfl, ⟨nd, rfl⟩⟩))
    go_meet
    case rel => exact ⟨_, (true), (by first | rfl | (simp; done) | (simp [*]; done)), H', ⟨by first | omega | exact Nat.le_refl _⟩, ⟨kN BK194.out⟩, ⟨by repeat (first | (with_reducible first | exact HB.out | apply below_alloc | apply pw_below_drewN | apply below_drew1 | refine below_set ?_ GE194.out) | exact HB.out)⟩⟩
  ·replace c5 := Bool.eq_false_iff.mpr c5
   subst c5
   have H1 : (impl_FopOk.j0 k true a0_0 a0_1 a0_2 l0_3 a0_4) = some r := by rw [if_neg (show ¬ (false = true) by decide)] at H; exact H
   clear H
   have H := H1
   clear H1
   have H' := Aside0.mk H
   clear H
   have hcz13_0 : w3.cell? ⟨gb194, 0, none⟩ = some (.int .i64 a0_0) := bc BK194 0
   have hcz13_1 : w3.cell? ⟨gb194, 1, none⟩ = some (.int .i64 a0_1) := bc BK194 1
   have hcz13_2 : w3.cell? ⟨gb194, 2, none⟩ = some (.int .i64 a0_2) := bc BK194 2
   have hcz13_3 : w3.cell? ⟨gb194, 3, none⟩ = some (.slice A0_3 l0_3.length c0_3) := bc BK194 3
   have hcz13_4 : w3.cell? ⟨gb194, 4, none⟩ = some (.bool a0_4) := bc BK194 4
   have hfz13_0 := blk_frozen BK194.out 0
   have hfz13_1 := blk_frozen BK194.out 1
   have hfz13_2 := blk_frozen BK194.out 2
   have hfz13_3 := blk_frozen BK194.out 3
   have hfz13_4 := blk_frozen BK194.out 4
   go_wp2_with (first | ((with_reducible refine gate_callee (f := 43) rfl ?_); refine goesL_ (some 7) rfl rfl Try.func43 (by kernel_rfl) rfl #[.int .i64 a0_0, .int .i64 1023] rfl gl_ ?_; (with_reducible refine (impl_within.calls a0_0 1023 false _ A4.out).mono ?_); rintro e w' ⟨rfl, ⟨nd, rfl⟩⟩; refine ⟨_, rfl, ?_⟩))
   go_meet
   case rel => exact ⟨_, (true), (by first | rfl | (simp; done) | (simp [*]; done)), H', ⟨by first | omega | exact Nat.le_refl _⟩, ⟨kN BK194.out⟩, ⟨by repeat (first | (with_reducible first | exact HB.out | apply below_alloc | apply pw_below_drewN | apply below_drew1 | refine below_set ?_ GE194.out) | exact HB.out)⟩⟩
 case rest =>
  clear HC2
  try clear c1
  try clear p2
  try clear c4
  try clear c5
  try clear c7
  try clear c9
  try clear c12
  try clear hcz10_0
  try clear hcz10_1
  try clear hcz10_2
  try clear hcz10_3
  try clear hcz10_4
  try clear hcz11_0
  try clear hcz11_1
  try clear hcz11_2
  try clear hcz11_3
  try clear hcz11_4
  try clear hcz12_0
  try clear hcz12_1
  try clear hcz12_2
  try clear hcz12_3
  try clear hcz12_4
  try clear hcz13_0
  try clear hcz13_1
  try clear hcz13_2
  try clear hcz13_3
  try clear hcz13_4
  try clear hfz10_0
  try clear hfz10_1
  try clear hfz10_2
  try clear hfz10_3
  try clear hfz10_4
  try clear hfz11_0
  try clear hfz11_1
  try clear hfz11_2
  try clear hfz11_3
  try clear hfz11_4
  try clear hfz12_0
  try clear hfz12_1
  try clear hfz12_2
  try clear hfz12_3
  try clear hfz12_4
  try clear hfz13_0
  try clear hfz13_1
  try clear hfz13_2
  try clear hfz13_3
  try clear hfz13_4
  obtain ⟨kq, x26_1, rfl, HA, HJ1, BK194, HB⟩ := hcut
  cases kq with
  | zero => exact absurd HA.out (by simp [impl_FopOk.j0])
  | succ kj1 =>
   have H := HA.out
   clear HA
   simp only [impl_FopOk.j0] at H
   by_cases c14 : x26_1 = true
   ·subst c14
    have H1 : (some false) = some r := by rw [if_pos rfl] at H; exact H
    clear H
    have H := H1
    clear H1
    obtain rfl := Option.some.inj H
    go_wp2
    go_ret
    exact ⟨by first | rfl | (simp [errW_none, errW_some] <;> rfl) | (simp [*, errW_none, errW_some] <;> rfl), by repeat (first | (with_reducible first | exact HB.out | apply below_alloc | apply pw_below_drewN | apply below_drew1 | refine below_set ?_ GE194.out) | exact HB.out)⟩
   ·replace c14 := Bool.eq_false_iff.mpr c14
    subst c14
    have H1 : (impl_FopOk.l0 kj1 l0_3 (l0_3.length : Int) 0) = some r := by rw [if_neg (show ¬ (false = true) by decide)] at H; exact H
    clear H
    have H := H1
    clear H1
    have H' := Aside0.mk H
    clear H
    have hcz15_0 : wc.cell? ⟨gb194, 0, none⟩ = some (.int .i64 a0_0) := bc BK194 0
    have hcz15_1 : wc.cell? ⟨gb194, 1, none⟩ = some (.int .i64 a0_1) := bc BK194 1
    have hcz15_2 : wc.cell? ⟨gb194, 2, none⟩ = some (.int .i64 a0_2) := bc BK194 2
    have hcz15_3 : wc.cell? ⟨gb194, 3, none⟩ = some (.slice A0_3 l0_3.length c0_3) := bc BK194 3
    have hcz15_4 : wc.cell? ⟨gb194, 4, none⟩ = some (.bool a0_4) := bc BK194 4
    have hfz15_0 := blk_frozen BK194.out 0
    have hfz15_1 := blk_frozen BK194.out 1
    have hfz15_2 := blk_frozen BK194.out 2
    have hfz15_3 := blk_frozen BK194.out 3
    have hfz15_4 := blk_frozen BK194.out 4
    go_wp2
    go_loopg [30] kj1 (fun kq v30 w' => ∃ (x30_2 : Int), v30 = .int .i64 x30_2 ∧ Aside0 (impl_FopOk.l0 kq l0_3 (l0_3.length : Int) x30_2 = some r) ∧ Aside0 (kq ≤ kj1) ∧ Aside0 (w'.heap[gb194]? = some (.cells #[.int .i64 a0_0, .int .i64 a0_1, .int .i64 a0_2, (.slice A0_3 l0_3.length c0_3), .bool a0_4] 25 (0, 0))) ∧ Aside0 (Below w.heap.size w w'))
    case atStart => exact ⟨(0), (by first | rfl | (simp; done) | (simp [*]; done)), H', ⟨Nat.le_refl _⟩, ⟨kN BK194.out⟩, ⟨by repeat (first | (with_reducible first | exact HB.out | apply below_alloc | apply pw_below_drewN | apply below_drew1 | refine below_set ?_ GE194.out) | exact HB.out)⟩⟩
    case round =>
     clear H'
     try clear c1
     try clear p2
     try clear c4
     try clear c5
     try clear c7
     try clear c9
     try clear c12
     try clear c14
     try clear hcz10_0
     try clear hcz10_1
     try clear hcz10_2
     try clear hcz10_3
     try clear hcz10_4
     try clear hcz11_0
     try clear hcz11_1
     try clear hcz11_2
     try clear hcz11_3
     try clear hcz11_4
     try clear hcz12_0
     try clear hcz12_1
     try clear hcz12_2
     try clear hcz12_3
     try clear hcz12_4
     try clear hcz13_0
     try clear hcz13_1
     try clear hcz13_2
     try clear hcz13_3
     try clear hcz13_4
     try clear hcz15_0
     try clear hcz15_1
     try clear hcz15_2
     try clear hcz15_3
     try clear hcz15_4
     try clear hfz10_0
     try clear hfz10_1
     try clear hfz10_2
     try clear hfz10_3
     try clear hfz10_4
     try clear hfz11_0
     try clear hfz11_1
     try clear hfz11_2
     try clear hfz11_3
     try clear hfz11_4
     try clear hfz12_0
     try clear hfz12_1
     try clear hfz12_2
     try clear hfz12_3
     try clear hfz12_4
     try clear hfz13_0
     try clear hfz13_1
     try clear hfz13_2
     try clear hfz13_3
     try clear hfz13_4
     try clear hfz15_0
     try clear hfz15_1
     try clear hfz15_2
     try clear hfz15_3
     try clear hfz15_4
     try clear p2
     obtain ⟨x30_2, rfl, HA, HK2, BK194, HB⟩ := hrel
     cases gk with
     | zero => exact absurd HA.out (by simp [impl_FopOk.l0])
     | succ k2 =>
      have H := HA.out
      clear HA
      simp only [impl_FopOk.l0] at H
      by_cases c16 : x30_2 < (l0_3.length : Int)
      ·rw [if_pos c16] at H
       have c16b0 : decide (x30_2 < (l0_3.length : Int)) = true := decide_eq_true c16
       clear c16
       by_cases c17 : 0 ≤ x30_2
       ·rw [if_pos c17] at H
        have c17b0 : decide (0 ≤ x30_2) = true := decide_eq_true c17
        clear c17
        by_cases c18 : x30_2 < (l0_3.length : Int)
        ·rw [if_pos c18] at H
         have c18b0 : decide (x30_2 < (l0_3.length : Int)) = true := decide_eq_true c18
         clear c18
         replace H := Option.bind_eq_some_iff.mp H
         obtain ⟨t199, A190, H⟩ := H
         replace H : (if t199 = true then (impl_FopOk.l0 k2 l0_3 (l0_3.length : Int) (wrap64 (x30_2 + 1))) else (some false)) = some r := H
         have A19 := Aside0.mk A190
         clear A190
         by_cases c20 : t199 = true
         ·subst c20
          have H1 : (impl_FopOk.l0 k2 l0_3 (l0_3.length : Int) (wrap64 (x30_2 + 1))) = some r := by rw [if_pos rfl] at H; exact H
          clear H
          have H := H1
          clear H1
          have H' := Aside0.mk H
          clear H
          have p198 : 0 ≤ (x30_2 : Int) := of_decide_eq_true (by first | (with_reducible assumption) | assumption)
          have q198 : x30_2 < (l0_3.length : Int) := of_decide_eq_true (by first | (with_reducible assumption) | assumption)
          obtain ⟨ad198, e198, hx198_0⟩ := Kd.at_string HR0_3.out x30_2 p198 q198
          cases e198
          replace hx198_0 := (HB.out.cell (World.block_lt_of_cell? w _ hx198_0)).trans hx198_0
          replace p198 := eq_true p198
          replace q198 := eq_true q198
          go_wp2_with (first | ((with_reducible refine gate_callee (f := 33) rfl ?_); refine goesL_ (some 35) rfl rfl Try.func33 (by kernel_rfl) rfl #[.string (rdOf ByteArray.empty l0_3 x30_2)] rfl gl_ ?_; (with_reducible refine (impl_frameDataOk.calls (rdOf ByteArray.empty l0_3 x30_2) true _ A19.out).mono ?_); rintro e w' ⟨rfl, ⟨nd, rfl⟩⟩; refine ⟨_, rfl, ?_⟩))
          go_roundg k2
          case measure => have := HJ1.out; have := HK2.out; omega
          case rel => exact ⟨(wrap64 (x30_2 + 1)), (by first | rfl | (simp; done) | (simp [*]; done)), H', ⟨by have := HJ1.out; have := HK2.out; omega⟩, ⟨kN BK194.out⟩, ⟨by repeat (first | (with_reducible first | exact HB.out | apply below_alloc | apply pw_below_drewN | apply below_drew1 | refine below_set ?_ GE194.out) | exact HB.out)⟩⟩
         ·replace c20 := Bool.eq_false_iff.mpr c20
          subst c20
          have H1 : (some false) = some r := by rw [if_neg (show ¬ (false = true) by decide)] at H; exact H
          clear H
          have H := H1
          clear H1
          obtain rfl := Option.some.inj H
          have p198 : 0 ≤ (x30_2 : Int) := of_decide_eq_true (by first | (with_reducible assumption) | assumption)
          have q198 : x30_2 < (l0_3.length : Int) := of_decide_eq_true (by first | (with_reducible assumption) | assumption)
          obtain ⟨ad198, e198, hx198_0⟩ := Kd.at_string HR0_3.out x30_2 p198 q198
          cases e198
          replace hx198_0 := (HB.out.cell (World.block_lt_of_cell? w _ hx198_0)).trans hx198_0
          replace p198 := eq_true p198
          replace q198 := eq_true q198
          go_wp2_with (first | ((with_reducible refine gate_callee (f := 33) rfl ?_); refine goesL_ (some 35) rfl rfl Try.func33 (by kernel_rfl) rfl #[.string (rdOf ByteArray.empty l0_3 x30_2)] rfl gl_ ?_; (with_reducible refine (impl_frameDataOk.calls (rdOf ByteArray.empty l0_3 x30_2) false _ A19.out).mono ?_); rintro e w' ⟨rfl, ⟨nd, rfl⟩⟩; refine ⟨_, rfl, ?_⟩))
          go_ret
          exact ⟨by first | rfl | (simp [errW_none, errW_some] <;> rfl) | (simp [*, errW_none, errW_some] <;> rfl), by repeat (first | (with_reducible first | exact HB.out | apply below_alloc | apply pw_below_drewN | apply below_drew1 | refine below_set ?_ GE194.out) | exact HB.out)⟩
        ·rw [if_neg c18] at H
         exact absurd H (by simp)
       ·rw [if_neg c17] at H
        exact absurd H (by simp)
      ·rw [if_neg c16] at H
       have c16b0 : decide (x30_2 < (l0_3.length : Int)) = false := decide_eq_false c16
       clear c16
       obtain rfl := Option.some.inj H
       go_wp2
       go_ret
       exact ⟨by first | rfl | (simp [errW_none, errW_some] <;> rfl) | (simp [*, errW_none, errW_some] <;> rfl), by repeat (first | (with_reducible first | exact HB.out | apply below_alloc | apply pw_below_drewN | apply below_drew1 | refine below_set ?_ GE194.out) | exact HB.out)⟩

end Go.Proofs.Ytnlhaiihbcdmoaa.P
