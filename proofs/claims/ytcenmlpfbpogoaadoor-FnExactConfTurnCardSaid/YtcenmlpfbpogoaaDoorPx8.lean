/- The machine side of these statements, function by function: what each Go function answers (as a Lean function), and that it does. Written by a program (mp.py) for this claim. -/
import Derived.Test.YtcenmlpfbpogoaaDoorPx0
import Derived.Test.YtcenmlpfbpogoaaDoorPx7
namespace Go.Proofs.YtcenmlpfbpogoaaDoor.P
open Go.RowKit Go.Proofs.YtcenmlpfbpogoaaDoorW.PrintWords Go.Proofs.YtcenmlpfbpogoaaDoorW.PrintLast Go.Proofs.YtcenmlpfbpogoaaDoorW.PrintMore
attribute [local go_sem] max2_int min2_int max_two min_two max_three min_three max_four min_four   -- for this text's walks alone
set_option linter.unusedVariables false
set_option linter.unusedSimpArgs false

/-! ### impl_ConfCheck: function 15 -/
def impl_ConfCheck.f (k : Nat) (a0_0 : Int) (a0_1 : Int) (l0_2 : List (List (S107))) (l0_3 : List Int) (l0_4 : List Int) (l0_5 : List Int) (l0_6 : List Int) (l0_7 : List Int) (l0_8 : List (S78)) (a0_9 : Int) : Option Int := (impl_Conf_fault.f k a0_0 a0_1 l0_2 l0_3 l0_4 l0_5 l0_6 l0_7 l0_8 a0_9).bind fun o => some (o.getD 0)
theorem impl_ConfCheck.mono : ∀ a0 a1 a2 a3 a4 a5 a6 a7 a8 a9 k, LeO (impl_ConfCheck.f k a0 a1 a2 a3 a4 a5 a6 a7 a8 a9) (impl_ConfCheck.f (k + 1) a0 a1 a2 a3 a4 a5 a6 a7 a8 a9) := by
  intro a0 a1 a2 a3 a4 a5 a6 a7 a8 a9 k
  unfold impl_ConfCheck.f
  exact LeO.bind (impl_Conf_fault.mono _ _ _ _ _ _ _ _ _ _ _) (fun _ => LeO.refl _)
def GErr (w : World) : Prop := w.cell? ⟨0, 0, none⟩ = some (.iface 114 (.agg #[.pointer (some ⟨1, 64, none⟩)]))
theorem GErr.below {w W : World} (h : Below w.heap.size w W) (g : GErr w) : GErr W := pw_cell_below h g
theorem as_int (c : Int) (g : Nat) (w : World) (hG : w.cell? ⟨0, 0, none⟩ = some (.iface 114 (.agg #[.pointer (some ⟨1, 64, none⟩)]))) (hb : w.heap[g]? = some (.cells #[.int .i64 0] 61 (0, 0))) :
  Calls Tryd.prog 36 #[.iface 101 (.agg #[.int .i64 c]), .iface 66 (.pointer (some ⟨g, 0, none⟩))] w fun e w' => e = .returned (.bool true) ∧ w'.heap[g]? = some (.cells #[.int .i64 c] 61 (0, 0)) ∧ ∀ B, B ≤ g → B ≤ w.heap.size → Below B w w' := by
  refine (As.as_hit c ⟨g, 0, none⟩ (.int .i64 0) w hG ((blk_cell hb 0).trans rfl) (blk_frozen hb 0)).mono ?_
  rintro e w' ⟨rfl, rfl⟩
  have hl := blk_lt hb
  refine ⟨rfl, blk_put (blk_alloc (blk_alloc (blk_alloc (blk_alloc (blk_alloc hb _) _) _) _) _) 0 _ rfl, fun B h1 h2 => ?_⟩
  exact (((((((Below.refl B w).alloc h2 _).alloc (by simp; omega) _).alloc (by simp; omega) _).alloc (by simp; omega) _).alloc (by simp; omega) _).setCell h1 _)
set_option maxHeartbeats 8000000 in
set_option maxRecDepth 100000 in
theorem impl_ConfCheck.calls (k : Nat) (a0_0 : Int) (a0_1 : Int) (A0_2 : Option Addr) (c0_2 : Nat) (l0_2 : List (List (S107))) (A0_3 : Option Addr) (c0_3 : Nat) (l0_3 : List Int) (A0_4 : Option Addr) (c0_4 : Nat) (l0_4 : List Int) (A0_5 : Option Addr) (c0_5 : Nat) (l0_5 : List Int) (A0_6 : Option Addr) (c0_6 : Nat) (l0_6 : List Int) (A0_7 : Option Addr) (c0_7 : Nat) (l0_7 : List Int) (A0_8 : Option Addr) (c0_8 : Nat) (l0_8 : List (S78)) (a0_9 : Int) (r : Int) (w : World) (hr0_2 : Kd.C (Kd.slice 107 k107) w A0_2 l0_2.length l0_2) (hc0_2 : l0_2.length ≤ c0_2) (hr0_3 : Kd.C (Kd.int .i64) w A0_3 l0_3.length l0_3) (hc0_3 : l0_3.length ≤ c0_3) (hr0_4 : Kd.C (Kd.int .i64) w A0_4 l0_4.length l0_4) (hc0_4 : l0_4.length ≤ c0_4) (hr0_5 : Kd.C (Kd.int .i64) w A0_5 l0_5.length l0_5) (hc0_5 : l0_5.length ≤ c0_5) (hr0_6 : Kd.C (Kd.int .i64) w A0_6 l0_6.length l0_6) (hc0_6 : l0_6.length ≤ c0_6) (hr0_7 : Kd.C (Kd.int .i64) w A0_7 l0_7.length l0_7) (hc0_7 : l0_7.length ≤ c0_7) (hr0_8 : Kd.C k78 w A0_8 l0_8.length l0_8) (hc0_8 : l0_8.length ≤ c0_8) (h : impl_ConfCheck.f k a0_0 a0_1 l0_2 l0_3 l0_4 l0_5 l0_6 l0_7 l0_8 a0_9 = some r) (hG : GErr w) :
  Calls Tryd.prog 15 #[.agg #[.int .i64 a0_0, .int .i64 a0_1, .slice A0_2 l0_2.length c0_2, .slice A0_3 l0_3.length c0_3, .slice A0_4 l0_4.length c0_4, .slice A0_5 l0_5.length c0_5, .slice A0_6 l0_6.length c0_6, .slice A0_7 l0_7.length c0_7, .slice A0_8 l0_8.length c0_8, .int .i64 a0_9]] w fun e w' => e = .returned (.int .i64 r) ∧ Below w.heap.size w w' := by
  have HH := h
  clear h
  unfold impl_ConfCheck.f at HH
  obtain ⟨o, A1, HH⟩ := Option.bind_eq_some_iff.mp HH
  replace A1 := Aside0.mk A1
  obtain rfl := (Option.some.inj HH)
  clear HH
  have hu := Tryd.underlying61
  replace hG := Aside0.mk hG
  replace hr0_2 := Aside0.mk hr0_2
  replace hc0_2 := Aside0.mk hc0_2
  replace hr0_3 := Aside0.mk hr0_3
  replace hc0_3 := Aside0.mk hc0_3
  replace hr0_4 := Aside0.mk hr0_4
  replace hc0_4 := Aside0.mk hc0_4
  replace hr0_5 := Aside0.mk hr0_5
  replace hc0_5 := Aside0.mk hc0_5
  replace hr0_6 := Aside0.mk hr0_6
  replace hc0_6 := Aside0.mk hc0_6
  replace hr0_7 := Aside0.mk hr0_7
  replace hc0_7 := Aside0.mk hc0_7
  replace hr0_8 := Aside0.mk hr0_8
  replace hc0_8 := Aside0.mk hc0_8
  have T0 : Aside0 (((w.alloc (.cells #[.int .i64 a0_0, .int .i64 a0_1, .slice A0_2 l0_2.length c0_2, .slice A0_3 l0_3.length c0_3, .slice A0_4 l0_4.length c0_4, .slice A0_5 l0_5.length c0_5, .slice A0_6 l0_6.length c0_6, .slice A0_7 l0_7.length c0_7, .slice A0_8 l0_8.length c0_8, .int .i64 a0_9] 32)).alloc (.cells #[.int .i64 0] 61)).heap[w.heap.size + 1]? = some (.cells #[.int .i64 0] 61 (0, 0))) := ⟨heap_alloc2_new _ _ _⟩
  have G0 : Aside0 (Below w.heap.size w ((w.alloc (.cells #[.int .i64 a0_0, .int .i64 a0_1, .slice A0_2 l0_2.length c0_2, .slice A0_3 l0_3.length c0_3, .slice A0_4 l0_4.length c0_4, .slice A0_5 l0_5.length c0_5, .slice A0_6 l0_6.length c0_6, .slice A0_7 l0_7.length c0_7, .slice A0_8 l0_8.length c0_8, .int .i64 a0_9] 32)).alloc (.cells #[.int .i64 0] 61))) := ⟨((Below.refl _ _).alloc (Nat.le_refl _) _).alloc (by simp) _⟩
  go_enter Tryd.func15, Tryd.ntmps15
  go_wp2_with fail
  refine (impl_Conf_fault.calls k a0_0 a0_1 A0_2 c0_2 l0_2 A0_3 c0_3 l0_3 A0_4 c0_4 l0_4 A0_5 c0_5 l0_5 A0_6 c0_6 l0_6 A0_7 c0_7 l0_7 A0_8 c0_8 l0_8 a0_9 _ _ (Kd.C_below hr0_2.out G0.out) hc0_2.out (Kd.C_below hr0_3.out G0.out) hc0_3.out (Kd.C_below hr0_4.out G0.out) hc0_4.out (Kd.C_below hr0_5.out G0.out) hc0_5.out (Kd.C_below hr0_6.out G0.out) hc0_6.out (Kd.C_below hr0_7.out G0.out) hc0_7.out (Kd.C_below hr0_8.out G0.out) hc0_8.out A1.out).mono ?_
  rintro e w1 ⟨rfl, B1⟩
  have T1 := Aside0.mk (blk_below T0.out B1)
  have G1 := Aside0.mk (below_then G0.out G0.out.size B1)
  clear T0 G0 B1
  cases o with
  | none =>
    rw [errW_none]
    go_wp2_with fail
    refine (As.as_nil _ _).mono ?_
    rintro e w2 ⟨rfl, rfl⟩
    go_wp2
    go_ret
    exact ⟨rfl, G1.out⟩
  | some c =>
    rw [errW_some]
    go_wp2_with fail
    refine (as_int c (w.heap.size + 1) w1 (pw_cell_below G1.out hG.out) T1.out).mono ?_
    rintro e w2 ⟨rfl, T2, B2⟩
    have G2 := Aside0.mk (G1.out.trans (B2 _ (Nat.le_succ _) G1.out.size))
    have c2 := (blk_cell T2 0).trans rfl
    replace T2 := Aside0.mk T2
    clear B2
    go_wp2
    go_ret
    exact ⟨rfl, G2.out⟩

/-! ### spec_l1In: function 25 -/
def spec_l1In.f (a0 : Int) (a1 : Int) (a2 : Int) : Option (Bool) := if a0 ≥ a1 then (some (decide (a0 ≤ a2))) else (some false)
set_option maxHeartbeats 8000000 in
set_option maxRecDepth 100000 in
theorem spec_l1In.calls (a0 : Int) (a1 : Int) (a2 : Int) (r : Bool) (w : World) (h : spec_l1In.f a0 a1 a2 = some r) :
  Calls Tryd.prog 25 #[.int .i64 a0, .int .i64 a1, .int .i64 a2] w fun e w' => e = .returned (.bool r) ∧ Drawn0 w w' := by
 have H : (if a0 ≥ a1 then (some (decide (a0 ≤ a2))) else (some false)) = some r := h
 clear h
 by_cases c4 : a0 ≥ a1
 ·rw [if_pos c4] at H
  have c4b0 : decide (a1 ≤ a0) = true := decide_eq_true c4
  clear c4
  obtain rfl := Option.some.inj H
  go_enter Tryd.func25, Tryd.ntmps25
  go_wp2
  go_ret
  exact ⟨by first | rfl | (simp; done) | (simp [*]; done), by repeat (first | exact Drawn0.refl _ | apply Drawn0.step)⟩
 ·rw [if_neg c4] at H
  have c4b0 : decide (a1 ≤ a0) = false := decide_eq_false c4
  clear c4
  obtain rfl := Option.some.inj H
  go_enter Tryd.func25, Tryd.ntmps25
  go_wp2
  go_ret
  exact ⟨by first | rfl | (simp; done) | (simp [*]; done), by repeat (first | exact Drawn0.refl _ | apply Drawn0.step)⟩

/-! ### spec_l10Cell: function 77 -/
def spec_l10Cell.f (a0 : Int) : Option (Bool) := (spec_l1In.f a0 0 7).bind fun t238 => (some t238)
set_option maxHeartbeats 8000000 in
set_option maxRecDepth 100000 in
theorem spec_l10Cell.calls (a0 : Int) (r : Bool) (w : World) (h : spec_l10Cell.f a0 = some r) :
  Calls Tryd.prog 77 #[.int .i64 a0] w fun e w' => e = .returned (.bool r) ∧ Drawn0 w w' := by
 have H : ((spec_l1In.f a0 0 7).bind fun t238 => (some t238)) = some r := h
 clear h
 replace H := Option.bind_eq_some_iff.mp H
 obtain ⟨t238, A20, H⟩ := H
 replace H : (some t238) = some r := H
 have A2 := Aside0.mk A20
 clear A20
 obtain rfl := Option.some.inj H
 go_enter Tryd.func77, Tryd.ntmps77
 go_wp2_with (first | ((with_reducible refine gate_callee (f := 25) rfl ?_); refine goesL_ (some 4) rfl rfl Tryd.func25 (by kernel_rfl) rfl #[.int .i64 a0, .int .i64 0, .int .i64 7] rfl gl_ ?_; (with_reducible refine (spec_l1In.calls a0 0 7 t238 _ A2.out).mono ?_); rintro e w' ⟨rfl, ⟨nd, rfl⟩⟩; refine ⟨_, rfl, ?_⟩))
 go_ret
 exact ⟨by first | rfl | (simp; done) | (simp [*]; done), by repeat (first | exact Drawn0.refl _ | apply Drawn0.step)⟩

end Go.Proofs.YtcenmlpfbpogoaaDoor.P
