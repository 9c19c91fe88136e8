/- The machine side of these statements, function by function: what each Go function answers (as a Lean function), and that it does. Written by a program (mp.py) for this claim. -/
import Derived.Test.YtpehnincnpnggaaDoorPx0
import Derived.Test.YtpehnincnpnggaaDoorPx1
import Derived.Test.YtpehnincnpnggaaDoorPx3
import Derived.Test.YtpehnincnpnggaaDoorPx5
namespace Go.Proofs.YtpehnincnpnggaaDoor.P
open Go.RowKit Go.Proofs.YtpehnincnpnggaaDoorW.PrintWords Go.Proofs.YtpehnincnpnggaaDoorW.PrintLast Go.Proofs.YtpehnincnpnggaaDoorW.PrintMore
attribute [local go_sem] max2_int min2_int max_two min_two max_three min_three max_four min_four   -- for this text's walks alone
set_option linter.unusedVariables false
set_option linter.unusedSimpArgs false

/-! ### impl_NumGet: function 41 -/
mutual
def impl_NumGet.j0 : Nat → ByteArray → Int → Int → Bool → Option (Int × Bool)
 | 0, _, _, _, _ => none
 | k + 1, x0, x1, x2, x27 => if x27 = true then (some (0, false)) else (impl_NumGet.l0 k x0 x1 0 x2 0)
def impl_NumGet.l0 : Nat → ByteArray → Int → Int → Int → Int → Option (Int × Bool)
 | 0, _, _, _, _, _ => none
 | k + 1, x0, x1, x8, x28, x29 => if x29 < x28 then (if 0 ≤ (wrap64 (x1 + x29)) then (if (wrap64 (x1 + x29)) < (x0.size : Int) then (impl_NumGet.l0 k x0 x1 (Go.bits .or .i64 (wrap64 (x8 * 256)) (wrap64 (bt x0 (wrap64 (x1 + x29))))) x28 (wrap64 (x29 + 1))) else (none)) else (none)) else (some (x8, true))
end
def impl_NumGet.f (k : Nat) (a0 : ByteArray) (a1 : Int) (a2 : Int) : Option (Int × Bool) := if a2 < 1 then (impl_NumGet.j0 k a0 a1 a2 true) else (if a2 > 4 then (impl_NumGet.j0 k a0 a1 a2 true) else (if a1 < 0 then (impl_NumGet.j0 k a0 a1 a2 true) else (impl_NumGet.j0 k a0 a1 a2 (decide (a1 > (wrap64 ((a0.size : Int) - a2)))))))
theorem impl_NumGet.mono_l : ∀ k, (∀ y0 y1 y2 y3, LeO (impl_NumGet.j0 k y0 y1 y2 y3) (impl_NumGet.j0 (k + 1) y0 y1 y2 y3)) ∧ (∀ y0 y1 y2 y3 y4, LeO (impl_NumGet.l0 k y0 y1 y2 y3 y4) (impl_NumGet.l0 (k + 1) y0 y1 y2 y3 y4))
 | 0 => ⟨fun _ _ _ _ r h => by simp [impl_NumGet.j0] at h, fun _ _ _ _ _ r h => by simp [impl_NumGet.l0] at h⟩
 | k + 1 => by
  obtain ⟨ih0, ih1⟩ := impl_NumGet.mono_l k
  refine ⟨?_, ?_⟩
  ·intro y0 y1 y2 y3
   unfold impl_NumGet.j0
   repeat' first
   | (with_reducible exact ih0 _ _ _ _)
   | (with_reducible exact ih1 _ _ _ _ _)
   | (with_reducible exact LeO.refl _)
   | (with_reducible exact LeO.none _)
   | (with_reducible refine LeO.ite ?_ ?_)
   | (with_reducible refine LeO.bind ?_ (fun _ => ?_))
   | exact ih0 _ _ _ _
   | exact ih1 _ _ _ _ _
   | exact LeO.none _
   | refine LeO.ite ?_ ?_
   | refine LeO.bind ?_ (fun _ => ?_)
  ·intro y0 y1 y2 y3 y4
   unfold impl_NumGet.l0
   repeat' first
   | (with_reducible exact ih0 _ _ _ _)
   | (with_reducible exact ih1 _ _ _ _ _)
   | (with_reducible exact LeO.refl _)
   | (with_reducible exact LeO.none _)
   | (with_reducible refine LeO.ite ?_ ?_)
   | (with_reducible refine LeO.bind ?_ (fun _ => ?_))
   | exact ih0 _ _ _ _
   | exact ih1 _ _ _ _ _
   | exact LeO.none _
   | refine LeO.ite ?_ ?_
   | refine LeO.bind ?_ (fun _ => ?_)
theorem impl_NumGet.mono : ∀ a0 a1 a2 k, LeO (impl_NumGet.f k a0 a1 a2) (impl_NumGet.f (k + 1) a0 a1 a2) := by
 intro a0 a1 a2 k
 obtain ⟨ih0, ih1⟩ := impl_NumGet.mono_l k
 unfold impl_NumGet.f
 repeat' first
   | (with_reducible exact ih0 _ _ _ _)
   | (with_reducible exact ih1 _ _ _ _ _)
   | (with_reducible exact LeO.refl _)
   | (with_reducible exact LeO.none _)
   | (with_reducible refine LeO.ite ?_ ?_)
   | (with_reducible refine LeO.bind ?_ (fun _ => ?_))
   | exact ih0 _ _ _ _
   | exact ih1 _ _ _ _ _
   | exact LeO.none _
   | refine LeO.ite ?_ ?_
   | refine LeO.bind ?_ (fun _ => ?_)
set_option maxHeartbeats 8000000 in
set_option maxRecDepth 100000 in
theorem impl_NumGet.calls (k : Nat) (a0 : ByteArray) (a1 : Int) (a2 : Int) (r1 : Int) (r2 : Bool) (w : World) (h : impl_NumGet.f k a0 a1 a2 = some (r1, r2)) :
  Calls Tryd.prog 41 #[.string a0, .int .i64 a1, .int .i64 a2] w fun e w' => e = .returned (.tuple #[.int .i64 r1, .bool r2]) ∧ Drawn0 w w' := by
 have H : (if a2 < 1 then (impl_NumGet.j0 k a0 a1 a2 true) else (if a2 > 4 then (impl_NumGet.j0 k a0 a1 a2 true) else (if a1 < 0 then (impl_NumGet.j0 k a0 a1 a2 true) else (impl_NumGet.j0 k a0 a1 a2 (decide (a1 > (wrap64 ((a0.size : Int) - a2)))))))) = some (r1, r2) := h
 clear h
 have HC4 := Aside0.mk H
 clear H
 go_enter Tryd.func41, Tryd.ntmps41
 go_upto_region 1 with (fail)
 go_cut [27] (fun v27 wc => ∃ (kq : Nat) (x27_3 : Bool), v27 = .bool x27_3 ∧ Aside0 (impl_NumGet.j0 kq a0 a1 a2 x27_3 = some (r1, r2)) ∧ Aside0 (kq ≤ k) ∧ Drawn0 w wc)
 case first =>
  have H := HC4.out
  clear HC4
  by_cases c5 : a2 < 1
  ·rw [if_pos c5] at H
   have c5b0 : decide (a2 < 1) = true := decide_eq_true c5
   clear c5
   (first | rw [c5b0] | (simp only [i64_w, i32_w]; rw [c5b0]) | skip)
   have H' := Aside0.mk H
   clear H
   go_wp2
   go_meet
   case rel => exact ⟨_, (true), (by first | rfl | (simp; done) | (simp [*]; done)), H', ⟨by first | omega | exact Nat.le_refl _⟩, by repeat (first | exact Drawn0.refl _ | apply Drawn0.step)⟩
  ·rw [if_neg c5] at H
   have c5b0 : decide (a2 < 1) = false := decide_eq_false c5
   clear c5
   (first | rw [c5b0] | (simp only [i64_w, i32_w]; rw [c5b0]) | skip)
   by_cases c6 : a2 > 4
   ·rw [if_pos c6] at H
    have c6b0 : decide (4 < a2) = true := decide_eq_true c6
    clear c6
    have H' := Aside0.mk H
    clear H
    go_wp2
    go_meet
    case rel => exact ⟨_, (true), (by first | rfl | (simp; done) | (simp [*]; done)), H', ⟨by first | omega | exact Nat.le_refl _⟩, by repeat (first | exact Drawn0.refl _ | apply Drawn0.step)⟩
   ·rw [if_neg c6] at H
    have c6b0 : decide (4 < a2) = false := decide_eq_false c6
    clear c6
    by_cases c7 : a1 < 0
    ·rw [if_pos c7] at H
     have c7b0 : decide (a1 < 0) = true := decide_eq_true c7
     clear c7
     have H' := Aside0.mk H
     clear H
     go_wp2
     go_meet
     case rel => exact ⟨_, (true), (by first | rfl | (simp; done) | (simp [*]; done)), H', ⟨by first | omega | exact Nat.le_refl _⟩, by repeat (first | exact Drawn0.refl _ | apply Drawn0.step)⟩
    ·rw [if_neg c7] at H
     have c7b0 : decide (a1 < 0) = false := decide_eq_false c7
     clear c7
     have H' := Aside0.mk H
     clear H
     go_wp2
     go_meet
     case rel => exact ⟨_, (decide (a1 > (wrap64 ((a0.size : Int) - a2)))), (by first | rfl | (simp; done) | (simp [*]; done)), H', ⟨by first | omega | exact Nat.le_refl _⟩, by repeat (first | exact Drawn0.refl _ | apply Drawn0.step)⟩
 case rest =>
  clear HC4
  try clear p2
  try clear c4
  try clear c5
  try clear c5b0
  try clear c6
  try clear c6b0
  try clear p6
  try clear c7
  try clear c7b0
  obtain ⟨kq, x27_3, rfl, HA, HJ3, ⟨mc3, rfl⟩⟩ := hcut
  cases kq with
  | zero => exact absurd HA.out (by simp [impl_NumGet.j0])
  | succ kj3 =>
   have H := HA.out
   clear HA
   simp only [impl_NumGet.j0] at H
   by_cases c8 : x27_3 = true
   ·subst c8
    have H1 : (some (0, false)) = some (r1, r2) := by rw [if_pos rfl] at H; exact H
    clear H
    have H := H1
    clear H1
    simp only [Option.some.injEq, Prod.mk.injEq] at H
    obtain ⟨rfl, rfl⟩ := H
    go_wp2
    go_ret2
    exact ⟨by first | rfl | (simp; done) | (simp [*]; done), by repeat (first | exact Drawn0.refl _ | apply Drawn0.step)⟩
   ·replace c8 := Bool.eq_false_iff.mpr c8
    subst c8
    have H1 : (impl_NumGet.l0 kj3 a0 a1 0 a2 0) = some (r1, r2) := by rw [if_neg (show ¬ (false = true) by decide)] at H; exact H
    clear H
    have H := H1
    clear H1
    have H' := Aside0.mk H
    clear H
    go_wp2
    go_loopg [8, 29] kj3 (fun kq v8 v29 w' => ∃ (x8_2 : Int) (x29_2 : Int), v8 = .int .i64 x8_2 ∧ v29 = .int .i64 x29_2 ∧ Aside0 (impl_NumGet.l0 kq a0 a1 x8_2 a2 x29_2 = some (r1, r2)) ∧ Aside0 (kq ≤ kj3) ∧ Drawn0 w w')
    case atStart => exact ⟨(0), (0), (by first | rfl | (simp; done) | (simp [*]; done)), (by first | rfl | (simp; done) | (simp [*]; done)), H', ⟨Nat.le_refl _⟩, by repeat (first | exact Drawn0.refl _ | apply Drawn0.step)⟩
    case round =>
     clear H'
     try clear p2
     try clear c3
     try clear c4
     try clear c5
     try clear c5b0
     try clear c6
     try clear c6b0
     try clear p6
     try clear c7
     try clear c7b0
     try clear c8
     try clear p2
     try clear p6
     obtain ⟨x8_2, x29_2, rfl, rfl, HA, HK2, ⟨m2, rfl⟩⟩ := hrel
     cases gk with
     | zero => exact absurd HA.out (by simp [impl_NumGet.l0])
     | succ k2 =>
      have H := HA.out
      clear HA
      simp only [impl_NumGet.l0] at H
      by_cases c9 : x29_2 < a2
      ·rw [if_pos c9] at H
       have c9b0 : decide (x29_2 < a2) = true := decide_eq_true c9
       clear c9
       obtain ⟨ji10, hji10⟩ : ∃ j_ : Int, (wrap64 (a1 + x29_2)) = j_ := ⟨_, rfl⟩
       replace H : (if 0 ≤ (ji10) then (if (ji10) < (a0.size : Int) then (impl_NumGet.l0 k2 a0 a1 (Go.bits .or .i64 (wrap64 (x8_2 * 256)) (wrap64 (bt a0 (ji10)))) a2 (wrap64 (x29_2 + 1))) else (none)) else (none)) = some (r1, r2) := by first | (rw [hji10] at H; exact H) | (simp only [hji10] at H ⊢; exact H)
       have hji10w : (IntKind.i64.wrap (a1 + x29_2)) = ji10 := (i64_w _).trans hji10
       by_cases c11 : 0 ≤ (ji10)
       ·rw [if_pos c11] at H
        have c11b0 : decide (0 ≤ (ji10)) = true := decide_eq_true c11
        clear c11
        by_cases c12 : (ji10) < (a0.size : Int)
        ·rw [if_pos c12] at H
         have c12b0 : decide ((ji10) < (a0.size : Int)) = true := decide_eq_true c12
         clear c12
         have H' := Aside0.mk H
         clear H
         have p13 : 0 ≤ ((ji10) : Int) := of_decide_eq_true (by first | (with_reducible assumption) | assumption)
         have q13 : (ji10) < (a0.size : Int) := of_decide_eq_true (by first | (with_reducible assumption) | assumption)
         have hx13 := bt_at a0 (ji10)
         replace p13 := eq_true p13
         replace q13 := eq_true q13
         go_wp2
         go_roundg k2
         case measure => have := HJ3.out; have := HK2.out; omega
         case rel => exact ⟨(Go.bits .or .i64 (wrap64 (x8_2 * 256)) (wrap64 (bt a0 (ji10)))), (wrap64 (x29_2 + 1)), (by first | rfl | (simp; done) | (simp only [← hji10] <;> (first | rfl | simp)) | (simp [*]; done)), (by first | rfl | (simp; done) | (simp [*]; done)), H', ⟨by have := HJ3.out; have := HK2.out; omega⟩, by repeat (first | exact Drawn0.refl _ | apply Drawn0.step)⟩
        ·rw [if_neg c12] at H
         exact absurd H (by simp)
       ·rw [if_neg c11] at H
        exact absurd H (by simp)
      ·rw [if_neg c9] at H
       have c9b0 : decide (x29_2 < a2) = false := decide_eq_false c9
       clear c9
       simp only [Option.some.injEq, Prod.mk.injEq] at H
       obtain ⟨rfl, rfl⟩ := H
       go_wp2
       go_ret2
       exact ⟨by first | rfl | (simp; done) | (simp [*]; done), by repeat (first | exact Drawn0.refl _ | apply Drawn0.step)⟩

/-! ### impl_reader_number: function 36 -/
def impl_reader_number.f (k : Nat) (s0_0 : ByteArray) (s0_1 : Int) (s0_2 : Int) (s0_3 : Bool) (a1 : Int) : Option (Int × ByteArray × Int × Int × Bool) := (impl_reader_take.f s0_0 s0_1 s0_2 s0_3 a1).bind fun bt238 => ((impl_NumGet.f k bt238.1 0 a1).bind fun bt243 => (if bt243.2 = true then (some (bt243.1, bt238.2.1, bt238.2.2.1, bt238.2.2.2.1, bt238.2.2.2.2)) else (some (bt243.1, bt238.2.1, bt238.2.2.1, bt238.2.2.2.1, true))))
theorem impl_reader_number.mono : ∀ a0 a1 a2 a3 a4 k, LeO (impl_reader_number.f k a0 a1 a2 a3 a4) (impl_reader_number.f (k + 1) a0 a1 a2 a3 a4) := by
 intro a0 a1 a2 a3 a4 k
 unfold impl_reader_number.f
 repeat' first
   | (with_reducible exact impl_NumGet.mono _ _ _ _)
   | (with_reducible exact LeO.refl _)
   | (with_reducible exact LeO.none _)
   | (with_reducible refine LeO.ite ?_ ?_)
   | (with_reducible refine LeO.bind ?_ (fun _ => ?_))
   | exact impl_NumGet.mono _ _ _ _
   | exact LeO.none _
   | refine LeO.ite ?_ ?_
   | refine LeO.bind ?_ (fun _ => ?_)
set_option maxHeartbeats 8000000 in
set_option maxRecDepth 100000 in
theorem impl_reader_number.calls (k : Nat) (g : Nat) (s0_0 : ByteArray) (s0_1 : Int) (s0_2 : Int) (s0_3 : Bool) (a1 : Int) (r1 : Int) (r2 : ByteArray) (r3 : Int) (r4 : Int) (r5 : Bool) (w0 w : World) (hI : IsS73 w0 w g s0_0 s0_1 s0_2 s0_3) (hB : Below w0.heap.size w0 w) (h : impl_reader_number.f k s0_0 s0_1 s0_2 s0_3 a1 = some (r1, r2, r3, r4, r5)) :
  Calls Tryd.prog 36 #[.pointer (some ⟨g, 0, none⟩), .int .i64 a1] w fun e w' => e = .returned (.int .i64 r1) ∧ IsS73 w0 w' g r2 r3 r4 r5 ∧ Below w0.heap.size w0 w' ∧ KeepBut w w' g none := by
 have HI0 := Aside0.mk hI
 have HK := m_ (KeepBut.refl w g none)
 have HL := Aside0.mk hB.size
 clear hI
 have HW0 := Aside0.mk hB.size
 have HB := Aside0.mk hB
 clear hB
 have H : ((impl_reader_take.f s0_0 s0_1 s0_2 s0_3 a1).bind fun bt238 => ((impl_NumGet.f k bt238.1 0 a1).bind fun bt243 => (if bt243.2 = true then (some (bt243.1, bt238.2.1, bt238.2.2.1, bt238.2.2.2.1, bt238.2.2.2.2)) else (some (bt243.1, bt238.2.1, bt238.2.2.1, bt238.2.2.2.1, true))))) = some (r1, r2, r3, r4, r5) := h
 clear h
 replace H := Option.bind_eq_some_iff.mp H
 obtain ⟨⟨t238, t239, t240, t241, t242⟩, A30, H⟩ := H
 replace H : ((impl_NumGet.f k t238 0 a1).bind fun bt243 => (if bt243.2 = true then (some (bt243.1, t239, t240, t241, t242)) else (some (bt243.1, t239, t240, t241, true)))) = some (r1, r2, r3, r4, r5) := H
 have A3 := Aside0.mk A30
 clear A30
 replace H := Option.bind_eq_some_iff.mp H
 obtain ⟨⟨t243, t244⟩, A40, H⟩ := H
 replace H : (if t244 = true then (some (t243, t239, t240, t241, t242)) else (some (t243, t239, t240, t241, true))) = some (r1, r2, r3, r4, r5) := H
 have A4 := Aside0.mk A40
 clear A40
 by_cases c5 : t244 = true
 ·subst c5
  have H1 : (some (t243, t239, t240, t241, t242)) = some (r1, r2, r3, r4, r5) := by rw [if_pos rfl] at H; exact H
  clear H
  have H := H1
  clear H1
  simp only [Option.some.injEq, Prod.mk.injEq] at H
  obtain ⟨rfl, rfl, rfl, rfl, rfl⟩ := H
  go_enter Tryd.func36, Tryd.ntmps36
  go_wp2_with (first | ((with_reducible refine gate_callee (f := 37) rfl ?_); refine goesL_ (some 10) rfl rfl Tryd.func37 (by kernel_rfl) rfl #[.pointer (some ⟨g, 0, none⟩), .int .i64 a1] rfl gl_ ?_; (with_reducible refine (impl_reader_take.calls g s0_0 s0_1 s0_2 s0_3 a1 t238 t239 t240 t241 t242 w0 _ ?side1 ?side2 A3.out).mono ?_); (case side1 => repeat (first | (with_reducible first | exact HI0.out | apply IsS73.alloc | apply IsS73.drewN | apply IsS73.drew | apply IsS73.set_0 | apply IsS73.set_1 | apply IsS73.set_2 | apply IsS73.set_3) | exact HI0.out)); (case side2 => repeat (first | (with_reducible first | exact HB.out | apply below_alloc | apply pw_below_drewN | apply below_drew1 | refine below_set ?_ (IsS73.ge HI0.out)) | exact HB.out)); rintro e w6 ⟨rfl, hi, hb, hk⟩; refine ⟨_, rfl, ?_⟩; have n0_ := m_ (KeepBut.trans (by repeat (first | (with_reducible first | exact HK.out | apply KeepBut.set_ | apply keep_drewN | apply keep_drew | apply keep_alloc) | exact HK.out)) hk (.inl rfl)); have n1_ := m_ (hb); have n2_ := m_ (hi); clear HK; clear HB; clear HI0; have HK := n0_; have HB := n1_; have HI0 := n2_; clear n0_ n1_ n2_; (try clear hb); (try clear hb2); (try clear hk); (try clear hi)) | ((with_reducible refine gate_callee (f := 41) rfl ?_); refine goesL_ (some 12) rfl rfl Tryd.func41 (by kernel_rfl) rfl #[.string t238, .int .i64 0, .int .i64 a1] rfl gl_ ?_; (with_reducible refine (impl_NumGet.calls k t238 0 a1 t243 true _ A4.out).mono ?_); rintro e w' ⟨rfl, ⟨nd, rfl⟩⟩; refine ⟨_, rfl, ?_⟩))
  go_ret
  exact ⟨by first | rfl | (simp [errW_none, errW_some] <;> rfl) | (simp [*, errW_none, errW_some] <;> rfl), by repeat (first | (with_reducible first | exact HI0.out | apply IsS73.alloc | apply IsS73.drewN | apply IsS73.drew | apply IsS73.set_0 | apply IsS73.set_1 | apply IsS73.set_2 | apply IsS73.set_3) | exact HI0.out), by repeat (first | (with_reducible first | exact HB.out | apply below_alloc | apply pw_below_drewN | apply below_drew1 | refine below_set ?_ (IsS73.ge HI0.out)) | exact HB.out), by repeat (first | (with_reducible first | exact HK.out | apply KeepBut.set_ | apply keep_drewN | apply keep_drew | apply keep_alloc) | exact HK.out)⟩
 ·replace c5 := Bool.eq_false_iff.mpr c5
  subst c5
  have H1 : (some (t243, t239, t240, t241, true)) = some (r1, r2, r3, r4, r5) := by rw [if_neg (show ¬ (false = true) by decide)] at H; exact H
  clear H
  have H := H1
  clear H1
  simp only [Option.some.injEq, Prod.mk.injEq] at H
  obtain ⟨rfl, rfl, rfl, rfl, rfl⟩ := H
  go_enter Tryd.func36, Tryd.ntmps36
  go_wp2_with (first | ((with_reducible refine gate_callee (f := 37) rfl ?_); refine goesL_ (some 10) rfl rfl Tryd.func37 (by kernel_rfl) rfl #[.pointer (some ⟨g, 0, none⟩), .int .i64 a1] rfl gl_ ?_; (with_reducible refine (impl_reader_take.calls g s0_0 s0_1 s0_2 s0_3 a1 t238 t239 t240 t241 t242 w0 _ ?side1 ?side2 A3.out).mono ?_); (case side1 => repeat (first | (with_reducible first | exact HI0.out | apply IsS73.alloc | apply IsS73.drewN | apply IsS73.drew | apply IsS73.set_0 | apply IsS73.set_1 | apply IsS73.set_2 | apply IsS73.set_3) | exact HI0.out)); (case side2 => repeat (first | (with_reducible first | exact HB.out | apply below_alloc | apply pw_below_drewN | apply below_drew1 | refine below_set ?_ (IsS73.ge HI0.out)) | exact HB.out)); rintro e w7 ⟨rfl, hi, hb, hk⟩; refine ⟨_, rfl, ?_⟩; have n0_ := m_ (KeepBut.trans (by repeat (first | (with_reducible first | exact HK.out | apply KeepBut.set_ | apply keep_drewN | apply keep_drew | apply keep_alloc) | exact HK.out)) hk (.inl rfl)); have n1_ := m_ (hb); have n2_ := m_ (hi); clear HK; clear HB; clear HI0; have HK := n0_; have HB := n1_; have HI0 := n2_; clear n0_ n1_ n2_; (try clear hb); (try clear hb2); (try clear hk); (try clear hi)) | ((with_reducible refine gate_callee (f := 41) rfl ?_); refine goesL_ (some 12) rfl rfl Tryd.func41 (by kernel_rfl) rfl #[.string t238, .int .i64 0, .int .i64 a1] rfl gl_ ?_; (with_reducible refine (impl_NumGet.calls k t238 0 a1 t243 false _ A4.out).mono ?_); rintro e w' ⟨rfl, ⟨nd, rfl⟩⟩; refine ⟨_, rfl, ?_⟩; (try (rw [drewN_self w7]; generalize hq_ : World.drewN w7 _ = w7; have n0_ : Aside0 (IsS73 w0 w7 g t239 t240 t241 t242) := ⟨by rw [← hq_]; exact (by repeat (first | (with_reducible first | exact HI0.out | apply IsS73.alloc | apply IsS73.drewN | apply IsS73.drew | apply IsS73.set_0 | apply IsS73.set_1 | apply IsS73.set_2 | apply IsS73.set_3) | exact HI0.out))⟩; have n1_ : Aside0 (KeepBut w w7 g none) := ⟨by rw [← hq_]; exact (by repeat (first | (with_reducible first | exact HK.out | apply KeepBut.set_ | apply keep_drewN | apply keep_drew | apply keep_alloc) | exact HK.out))⟩; have n2_ : Aside0 (Below w0.heap.size w0 w7) := ⟨by rw [← hq_]; exact (by repeat (first | (with_reducible first | exact HB.out | apply below_alloc | apply pw_below_drewN | apply below_drew1 | refine below_set ?_ (IsS73.ge HI0.out)) | exact HB.out))⟩; clear HI0 HK HB hq_; have HI0 := n0_; have HK := n1_; have HB := n2_; clear n0_ n1_ n2_)); obtain ⟨HGz8, hgz8⟩ := HI0.out; have hcz8_0 := cellS73_0 HGz8; have hcz8_1 := cellS73_1 HGz8; have hcz8_2 := cellS73_2 HGz8; have hcz8_3 := cellS73_3 HGz8; have hfz8_0 := blk_frozen HGz8 0; have hfz8_1 := blk_frozen HGz8 1; have hfz8_2 := blk_frozen HGz8 2; have hfz8_3 := blk_frozen HGz8 3; clear HGz8 hgz8))
  go_ret
  exact ⟨by first | rfl | (simp [errW_none, errW_some] <;> rfl) | (simp [*, errW_none, errW_some] <;> rfl), by repeat (first | (with_reducible first | exact HI0.out | apply IsS73.alloc | apply IsS73.drewN | apply IsS73.drew | apply IsS73.set_0 | apply IsS73.set_1 | apply IsS73.set_2 | apply IsS73.set_3) | exact HI0.out), by repeat (first | (with_reducible first | exact HB.out | apply below_alloc | apply pw_below_drewN | apply below_drew1 | refine below_set ?_ (IsS73.ge HI0.out)) | exact HB.out), by repeat (first | (with_reducible first | exact HK.out | apply KeepBut.set_ | apply keep_drewN | apply keep_drew | apply keep_alloc) | exact HK.out)⟩

/-! ### stringslite_HasPrefix: function 44 -/
def stringslite_HasPrefix.f (a0 : ByteArray) (a1 : ByteArray) : Option (Bool) := if (a0.size : Int) ≥ (a1.size : Int) then (if 0 ≤ (a1.size : Int) then (if (a1.size : Int) ≤ (a0.size : Int) then (some ((a0.extract 0 ((a1.size : Int) : Int).toNat).toList == a1.toList)) else (none)) else (none)) else (some false)
set_option maxHeartbeats 8000000 in
set_option maxRecDepth 100000 in
theorem stringslite_HasPrefix.calls (a0 : ByteArray) (a1 : ByteArray) (r : Bool) (w : World) (h : stringslite_HasPrefix.f a0 a1 = some r) :
  Calls Tryd.prog 44 #[.string a0, .string a1] w fun e w' => e = .returned (.bool r) ∧ Drawn0 w w' := by
 have H : (if (a0.size : Int) ≥ (a1.size : Int) then (if 0 ≤ (a1.size : Int) then (if (a1.size : Int) ≤ (a0.size : Int) then (some ((a0.extract 0 ((a1.size : Int) : Int).toNat).toList == a1.toList)) else (none)) else (none)) else (some false)) = some r := h
 clear h
 by_cases c3 : (a0.size : Int) ≥ (a1.size : Int)
 ·rw [if_pos c3] at H
  have c3b0 : decide ((a1.size : Int) ≤ (a0.size : Int)) = true := decide_eq_true c3
  have c3b1 : decide (a1.size ≤ a0.size) = true := decide_eq_true (Int.ofNat_le.mp c3)
  clear c3
  by_cases c4 : 0 ≤ (a1.size : Int)
  ·rw [if_pos c4] at H
   have c4b0 := eq_true c4
   have c4b1 : decide (0 ≤ (a1.size : Int)) = true := decide_eq_true c4
   clear c4
   by_cases c5 : (a1.size : Int) ≤ (a0.size : Int)
   ·rw [if_pos c5] at H
    have c5b0 := eq_true c5
    have c5b1 : decide ((a1.size : Int) ≤ (a0.size : Int)) = true := decide_eq_true c5
    clear c5
    obtain rfl := Option.some.inj H
    go_enter Tryd.func44, Tryd.ntmps44
    go_wp2
    go_ret
    exact ⟨by first | rfl | (simp; done) | (simp [*]; done), by repeat (first | exact Drawn0.refl _ | apply Drawn0.step)⟩
   ·rw [if_neg c5] at H
    exact absurd H (by simp)
  ·rw [if_neg c4] at H
   exact absurd H (by simp)
 ·rw [if_neg c3] at H
  have c3b0 : decide ((a1.size : Int) ≤ (a0.size : Int)) = false := decide_eq_false c3
  have c3b1 : decide (a1.size ≤ a0.size) = false := decide_eq_false (fun h => c3 (Int.ofNat_le.mpr h))
  clear c3
  obtain rfl := Option.some.inj H
  go_enter Tryd.func44, Tryd.ntmps44
  go_wp2
  go_ret
  exact ⟨by first | rfl | (simp; done) | (simp [*]; done), by repeat (first | exact Drawn0.refl _ | apply Drawn0.step)⟩

/-! ### strings_HasPrefix: function 38 -/
def strings_HasPrefix.f (a0 : ByteArray) (a1 : ByteArray) : Option (Bool) := (stringslite_HasPrefix.f a0 a1).bind fun t245 => (some t245)
set_option maxHeartbeats 8000000 in
set_option maxRecDepth 100000 in
theorem strings_HasPrefix.calls (a0 : ByteArray) (a1 : ByteArray) (r : Bool) (w : World) (h : strings_HasPrefix.f a0 a1 = some r) :
  Calls Tryd.prog 38 #[.string a0, .string a1] w fun e w' => e = .returned (.bool r) ∧ Drawn0 w w' := by
 have H : ((stringslite_HasPrefix.f a0 a1).bind fun t245 => (some t245)) = some r := h
 clear h
 replace H := Option.bind_eq_some_iff.mp H
 obtain ⟨t245, A30, H⟩ := H
 replace H : (some t245) = some r := H
 have A3 := Aside0.mk A30
 clear A30
 obtain rfl := Option.some.inj H
 go_enter Tryd.func38, Tryd.ntmps38
 go_wp2_with (first | ((with_reducible refine gate_callee (f := 44) rfl ?_); refine goesL_ (some 7) rfl rfl Tryd.func44 (by kernel_rfl) rfl #[.string a0, .string a1] rfl gl_ ?_; (with_reducible refine (stringslite_HasPrefix.calls a0 a1 t245 _ A3.out).mono ?_); rintro e w' ⟨rfl, ⟨nd, rfl⟩⟩; refine ⟨_, rfl, ?_⟩))
 go_ret
 exact ⟨by first | rfl | (simp; done) | (simp [*]; done), by repeat (first | exact Drawn0.refl _ | apply Drawn0.step)⟩

/-! ### impl_PacketGet: function 30 -/
def impl_PacketGet.j0 : Nat → ByteArray → Int → Bool → Option (Bool × Int × Int × ByteArray × Int)
 | 0, _, _, _ => none
 | k + 1, x0, x1, x20 => if x20 = true then (some (false, 0, 0, (⟨#[]⟩ : ByteArray), 0)) else (if 0 ≤ x1 then (if x1 ≤ (x0.size : Int) then ((impl_readerOf.f (x0.extract (x1 : Int).toNat x0.size)).bind fun bt247 => ((impl_reader_number.f k bt247.1 bt247.2.1 bt247.2.2.1 bt247.2.2.2 2).bind fun bt252 => ((impl_reader_number.f k bt252.2.1 bt252.2.2.1 bt252.2.2.2.1 bt252.2.2.2.2 2).bind fun bt257 => ((impl_reader_number.f k bt257.2.1 bt257.2.2.1 bt257.2.2.2.1 bt257.2.2.2.2 2).bind fun bt262 => ((impl_reader_take.f bt262.2.1 bt262.2.2.1 bt262.2.2.2.1 bt262.2.2.2.2 (wrap64 (bt262.1 + 1))).bind fun bt267 => (if bt267.2.2.2.2 = true then (some (false, 0, 0, (⟨#[]⟩ : ByteArray), 0)) else ((impl_PacketPut.f k ((Go.bits .and .i64 bt252.1 4096) != 0) (Go.bits .and .i64 bt252.1 2047) (wrap64 (bt257.1 - 49152)) bt267.1).bind fun t273 => (if t273.toList = ([] : List UInt8) then (some (false, 0, 0, (⟨#[]⟩ : ByteArray), 0)) else ((strings_HasPrefix.f (x0.extract (x1 : Int).toNat x0.size) t273).bind fun t274 => (if t274 = true then (some (((Go.bits .and .i64 bt252.1 4096) != 0), Go.bits .and .i64 bt252.1 2047, wrap64 (bt257.1 - 49152), bt267.1, (t273.size : Int))) else (some (false, 0, 0, (⟨#[]⟩ : ByteArray), 0)))))))))))) else (none)) else (none))
def impl_PacketGet.f (k : Nat) (a0 : ByteArray) (a1 : Int) : Option (Bool × Int × Int × ByteArray × Int) := if a1 < 0 then (impl_PacketGet.j0 k a0 a1 true) else (impl_PacketGet.j0 k a0 a1 (decide (a1 > (a0.size : Int))))
theorem impl_PacketGet.mono_l : ∀ k, (∀ y0 y1 y2, LeO (impl_PacketGet.j0 k y0 y1 y2) (impl_PacketGet.j0 (k + 1) y0 y1 y2))
 | 0 => fun _ _ _ r h => by simp [impl_PacketGet.j0] at h
 | k + 1 => by
  have ih0 := impl_PacketGet.mono_l k
  ·intro y0 y1 y2
   unfold impl_PacketGet.j0
   repeat' first
   | (with_reducible exact ih0 _ _ _)
   | (with_reducible exact impl_PacketPut.mono _ _ _ _ _)
   | (with_reducible exact impl_reader_number.mono _ _ _ _ _ _)
   | (with_reducible exact LeO.refl _)
   | (with_reducible exact LeO.none _)
   | (with_reducible refine LeO.ite ?_ ?_)
   | (with_reducible refine LeO.bind ?_ (fun _ => ?_))
   | exact ih0 _ _ _
   | exact impl_PacketPut.mono _ _ _ _ _
   | exact impl_reader_number.mono _ _ _ _ _ _
   | exact LeO.none _
   | refine LeO.ite ?_ ?_
   | refine LeO.bind ?_ (fun _ => ?_)
theorem impl_PacketGet.mono : ∀ a0 a1 k, LeO (impl_PacketGet.f k a0 a1) (impl_PacketGet.f (k + 1) a0 a1) := by
 intro a0 a1 k
 have ih0 := impl_PacketGet.mono_l k
 unfold impl_PacketGet.f
 repeat' first
   | (with_reducible exact ih0 _ _ _)
   | (with_reducible exact impl_PacketPut.mono _ _ _ _ _)
   | (with_reducible exact impl_reader_number.mono _ _ _ _ _ _)
   | (with_reducible exact LeO.refl _)
   | (with_reducible exact LeO.none _)
   | (with_reducible refine LeO.ite ?_ ?_)
   | (with_reducible refine LeO.bind ?_ (fun _ => ?_))
   | exact ih0 _ _ _
   | exact impl_PacketPut.mono _ _ _ _ _
   | exact impl_reader_number.mono _ _ _ _ _ _
   | exact LeO.none _
   | refine LeO.ite ?_ ?_
   | refine LeO.bind ?_ (fun _ => ?_)
set_option maxHeartbeats 8000000 in
set_option maxRecDepth 100000 in
theorem impl_PacketGet.calls (k : Nat) (a0 : ByteArray) (a1 : Int) (r1 : Bool) (r2 : Int) (r3 : Int) (r4 : ByteArray) (r5 : Int) (w : World) (h : impl_PacketGet.f k a0 a1 = some (r1, r2, r3, r4, r5)) :
  Calls Tryd.prog 30 #[.string a0, .int .i64 a1] w fun e w' => e = .returned (.tuple #[.agg #[.bool r1, .int .i64 r2, .int .i64 r3, .string r4], .int .i64 r5]) ∧ Below w.heap.size w w' := by
 have hu39 := Tryd.underlying39
 have HB := m_ (Below.refl w.heap.size w)
 have H : (if a1 < 0 then (impl_PacketGet.j0 k a0 a1 true) else (impl_PacketGet.j0 k a0 a1 (decide (a1 > (a0.size : Int))))) = some (r1, r2, r3, r4, r5) := h
 clear h
 have HC3 := Aside0.mk H
 clear H
 go_enter Tryd.func30, Tryd.ntmps30
 go_upto_region 1 with (first | ((with_reducible refine gate_dst (N := 4) rfl ?_); (try (refine gate_guard (by rfl) ?_; dsimp only)); refine box_event ?hg (N := 4) ?hd (cs := #[.bool false, .int .i64 0, .int .i64 0, .string (⟨#[]⟩ : ByteArray)]) (t := 39) ?hr ?_; (case hd => rfl); (case hg => rfl); (case hr => first | (go_simp; done) | (go_simp; rfl)); intro gb246 hg w4 hbox hb; have n0_ := m_ (below_step (bN HB.out) hb); have n1_ := m_ (hbox); have n2_ := m_ ((by rw [hg]; exact (below_size (bN HB.out)) : w.heap.size ≤ gb246)); have n3_ := m_ ((by rw [hg]; exact (below_size (bN HB.out)) : w.heap.size ≤ gb246)); clear HB; have HB := n0_; have BK246 := n1_; have GW246 := n2_; have GE246 := n3_; clear n0_ n1_ n2_ n3_; clear hb hbox hg))
 (try simp only [Act.put, List.setIfInBounds_toArray, List.set_cons_zero, List.set_cons_succ])
 go_cut [20] (fun v20 wc => ∃ (kq : Nat) (x20_2 : Bool), v20 = .bool x20_2 ∧ Aside0 (impl_PacketGet.j0 kq a0 a1 x20_2 = some (r1, r2, r3, r4, r5)) ∧ Aside0 (kq ≤ k) ∧ Aside0 (wc.heap[gb246]? = some (.cells #[.bool false, .int .i64 0, .int .i64 0, .string (⟨#[]⟩ : ByteArray)] 39 (0, 0))) ∧ Aside0 (Below w.heap.size w wc))
 case first =>
  have H := HC3.out
  clear HC3
  by_cases c5 : a1 < 0
  ·rw [if_pos c5] at H
   have c5b0 : decide (a1 < 0) = true := decide_eq_true c5
   clear c5
   (first | rw [c5b0] | (simp only [i64_w, i32_w]; rw [c5b0]) | skip)
   have H' := Aside0.mk H
   clear H
   go_wp2
   go_meet
   case rel => exact ⟨_, (true), (by first | rfl | (simp; done) | (simp [*]; done)), H', ⟨by first | omega | exact Nat.le_refl _⟩, ⟨kN BK246.out⟩, ⟨by repeat (first | (with_reducible first | exact HB.out | apply below_alloc | apply pw_below_drewN | apply below_drew1 | refine below_set ?_ GE246.out) | exact HB.out)⟩⟩
  ·rw [if_neg c5] at H
   have c5b0 : decide (a1 < 0) = false := decide_eq_false c5
   clear c5
   (first | rw [c5b0] | (simp only [i64_w, i32_w]; rw [c5b0]) | skip)
   have H' := Aside0.mk H
   clear H
   go_wp2
   go_meet
   case rel => exact ⟨_, (decide (a1 > (a0.size : Int))), (by first | rfl | (simp; done) | (simp [*]; done)), H', ⟨by first | omega | exact Nat.le_refl _⟩, ⟨kN BK246.out⟩, ⟨by repeat (first | (with_reducible first | exact HB.out | apply below_alloc | apply pw_below_drewN | apply below_drew1 | refine below_set ?_ GE246.out) | exact HB.out)⟩⟩
 case rest =>
  clear HC3
  try clear p2
  try clear c3
  try clear c5
  try clear c5b0
  obtain ⟨kq, x20_2, rfl, HA, HJ2, BK246, HB⟩ := hcut
  cases kq with
  | zero => exact absurd HA.out (by simp [impl_PacketGet.j0])
  | succ kj2 =>
   have H := HA.out
   clear HA
   simp only [impl_PacketGet.j0] at H
   by_cases c6 : x20_2 = true
   ·subst c6
    have H1 : (some (false, 0, 0, (⟨#[]⟩ : ByteArray), 0)) = some (r1, r2, r3, r4, r5) := by rw [if_pos rfl] at H; exact H
    clear H
    have H := H1
    clear H1
    simp only [Option.some.injEq, Prod.mk.injEq] at H
    obtain ⟨rfl, rfl, rfl, rfl, rfl⟩ := H
    have hcz7_0 : wc.cell? ⟨gb246, 0, none⟩ = some (.bool false) := bc BK246 0
    have hcz7_1 : wc.cell? ⟨gb246, 1, none⟩ = some (.int .i64 0) := bc BK246 1
    have hcz7_2 : wc.cell? ⟨gb246, 2, none⟩ = some (.int .i64 0) := bc BK246 2
    have hcz7_3 : wc.cell? ⟨gb246, 3, none⟩ = some (.string (⟨#[]⟩ : ByteArray)) := bc BK246 3
    have hfz7_0 := blk_frozen BK246.out 0
    have hfz7_1 := blk_frozen BK246.out 1
    have hfz7_2 := blk_frozen BK246.out 2
    have hfz7_3 := blk_frozen BK246.out 3
    go_wp2
    refine bodyPost_ret (results_ct rfl _ _ gb246 39 #[.bool false, .int .i64 0, .int .i64 0, .string (⟨#[]⟩ : ByteArray)] (0, 0) _ rfl (kP BK246.out) Tryd.underlying39 rfl (by kernel_rfl)) rfl ?_
    exact ⟨by first | rfl | (simp [errW_none, errW_some] <;> rfl) | (simp [*, errW_none, errW_some] <;> rfl), by repeat (first | (with_reducible first | exact HB.out | apply below_alloc | apply pw_below_drewN | apply below_drew1 | refine below_set ?_ GE246.out) | exact HB.out)⟩
   ·replace c6 := Bool.eq_false_iff.mpr c6
    subst c6
    have H1 : (if 0 ≤ a1 then (if a1 ≤ (a0.size : Int) then ((impl_readerOf.f (a0.extract (a1 : Int).toNat a0.size)).bind fun bt247 => ((impl_reader_number.f kj2 bt247.1 bt247.2.1 bt247.2.2.1 bt247.2.2.2 2).bind fun bt252 => ((impl_reader_number.f kj2 bt252.2.1 bt252.2.2.1 bt252.2.2.2.1 bt252.2.2.2.2 2).bind fun bt257 => ((impl_reader_number.f kj2 bt257.2.1 bt257.2.2.1 bt257.2.2.2.1 bt257.2.2.2.2 2).bind fun bt262 => ((impl_reader_take.f bt262.2.1 bt262.2.2.1 bt262.2.2.2.1 bt262.2.2.2.2 (wrap64 (bt262.1 + 1))).bind fun bt267 => (if bt267.2.2.2.2 = true then (some (false, 0, 0, (⟨#[]⟩ : ByteArray), 0)) else ((impl_PacketPut.f kj2 ((Go.bits .and .i64 bt252.1 4096) != 0) (Go.bits .and .i64 bt252.1 2047) (wrap64 (bt257.1 - 49152)) bt267.1).bind fun t273 => (if t273.toList = ([] : List UInt8) then (some (false, 0, 0, (⟨#[]⟩ : ByteArray), 0)) else ((strings_HasPrefix.f (a0.extract (a1 : Int).toNat a0.size) t273).bind fun t274 => (if t274 = true then (some (((Go.bits .and .i64 bt252.1 4096) != 0), Go.bits .and .i64 bt252.1 2047, wrap64 (bt257.1 - 49152), bt267.1, (t273.size : Int))) else (some (false, 0, 0, (⟨#[]⟩ : ByteArray), 0)))))))))))) else (none)) else (none)) = some (r1, r2, r3, r4, r5) := by rw [if_neg (show ¬ (false = true) by decide)] at H; exact H
    clear H
    have H := H1
    clear H1
    by_cases c8 : 0 ≤ a1
    ·rw [if_pos c8] at H
     have c8b0 := eq_true c8
     have c8b1 : decide (0 ≤ a1) = true := decide_eq_true c8
     clear c8
     by_cases c9 : a1 ≤ (a0.size : Int)
     ·rw [if_pos c9] at H
      have c9b0 := eq_true c9
      have c9b1 : decide (a1 ≤ (a0.size : Int)) = true := decide_eq_true c9
      clear c9
      replace H := Option.bind_eq_some_iff.mp H
      obtain ⟨⟨t247, t248, t249, t250⟩, A100, H⟩ := H
      replace H : ((impl_reader_number.f kj2 t247 t248 t249 t250 2).bind fun bt252 => ((impl_reader_number.f kj2 bt252.2.1 bt252.2.2.1 bt252.2.2.2.1 bt252.2.2.2.2 2).bind fun bt257 => ((impl_reader_number.f kj2 bt257.2.1 bt257.2.2.1 bt257.2.2.2.1 bt257.2.2.2.2 2).bind fun bt262 => ((impl_reader_take.f bt262.2.1 bt262.2.2.1 bt262.2.2.2.1 bt262.2.2.2.2 (wrap64 (bt262.1 + 1))).bind fun bt267 => (if bt267.2.2.2.2 = true then (some (false, 0, 0, (⟨#[]⟩ : ByteArray), 0)) else ((impl_PacketPut.f kj2 ((Go.bits .and .i64 bt252.1 4096) != 0) (Go.bits .and .i64 bt252.1 2047) (wrap64 (bt257.1 - 49152)) bt267.1).bind fun t273 => (if t273.toList = ([] : List UInt8) then (some (false, 0, 0, (⟨#[]⟩ : ByteArray), 0)) else ((strings_HasPrefix.f (a0.extract (a1 : Int).toNat a0.size) t273).bind fun t274 => (if t274 = true then (some (((Go.bits .and .i64 bt252.1 4096) != 0), Go.bits .and .i64 bt252.1 2047, wrap64 (bt257.1 - 49152), bt267.1, (t273.size : Int))) else (some (false, 0, 0, (⟨#[]⟩ : ByteArray), 0))))))))))) = some (r1, r2, r3, r4, r5) := H
      have A10 := Aside0.mk A100
      clear A100
      replace H := Option.bind_eq_some_iff.mp H
      obtain ⟨⟨t252, t253, t254, t255, t256⟩, A110, H⟩ := H
      replace H : ((impl_reader_number.f kj2 t253 t254 t255 t256 2).bind fun bt257 => ((impl_reader_number.f kj2 bt257.2.1 bt257.2.2.1 bt257.2.2.2.1 bt257.2.2.2.2 2).bind fun bt262 => ((impl_reader_take.f bt262.2.1 bt262.2.2.1 bt262.2.2.2.1 bt262.2.2.2.2 (wrap64 (bt262.1 + 1))).bind fun bt267 => (if bt267.2.2.2.2 = true then (some (false, 0, 0, (⟨#[]⟩ : ByteArray), 0)) else ((impl_PacketPut.f kj2 ((Go.bits .and .i64 t252 4096) != 0) (Go.bits .and .i64 t252 2047) (wrap64 (bt257.1 - 49152)) bt267.1).bind fun t273 => (if t273.toList = ([] : List UInt8) then (some (false, 0, 0, (⟨#[]⟩ : ByteArray), 0)) else ((strings_HasPrefix.f (a0.extract (a1 : Int).toNat a0.size) t273).bind fun t274 => (if t274 = true then (some (((Go.bits .and .i64 t252 4096) != 0), Go.bits .and .i64 t252 2047, wrap64 (bt257.1 - 49152), bt267.1, (t273.size : Int))) else (some (false, 0, 0, (⟨#[]⟩ : ByteArray), 0)))))))))) = some (r1, r2, r3, r4, r5) := H
      have A11 := Aside0.mk A110
      clear A110
      replace H := Option.bind_eq_some_iff.mp H
      obtain ⟨⟨t257, t258, t259, t260, t261⟩, A120, H⟩ := H
      replace H : ((impl_reader_number.f kj2 t258 t259 t260 t261 2).bind fun bt262 => ((impl_reader_take.f bt262.2.1 bt262.2.2.1 bt262.2.2.2.1 bt262.2.2.2.2 (wrap64 (bt262.1 + 1))).bind fun bt267 => (if bt267.2.2.2.2 = true then (some (false, 0, 0, (⟨#[]⟩ : ByteArray), 0)) else ((impl_PacketPut.f kj2 ((Go.bits .and .i64 t252 4096) != 0) (Go.bits .and .i64 t252 2047) (wrap64 (t257 - 49152)) bt267.1).bind fun t273 => (if t273.toList = ([] : List UInt8) then (some (false, 0, 0, (⟨#[]⟩ : ByteArray), 0)) else ((strings_HasPrefix.f (a0.extract (a1 : Int).toNat a0.size) t273).bind fun t274 => (if t274 = true then (some (((Go.bits .and .i64 t252 4096) != 0), Go.bits .and .i64 t252 2047, wrap64 (t257 - 49152), bt267.1, (t273.size : Int))) else (some (false, 0, 0, (⟨#[]⟩ : ByteArray), 0))))))))) = some (r1, r2, r3, r4, r5) := H
      have A12 := Aside0.mk A120
      clear A120
      replace H := Option.bind_eq_some_iff.mp H
      obtain ⟨⟨t262, t263, t264, t265, t266⟩, A130, H⟩ := H
      replace H : ((impl_reader_take.f t263 t264 t265 t266 (wrap64 (t262 + 1))).bind fun bt267 => (if bt267.2.2.2.2 = true then (some (false, 0, 0, (⟨#[]⟩ : ByteArray), 0)) else ((impl_PacketPut.f kj2 ((Go.bits .and .i64 t252 4096) != 0) (Go.bits .and .i64 t252 2047) (wrap64 (t257 - 49152)) bt267.1).bind fun t273 => (if t273.toList = ([] : List UInt8) then (some (false, 0, 0, (⟨#[]⟩ : ByteArray), 0)) else ((strings_HasPrefix.f (a0.extract (a1 : Int).toNat a0.size) t273).bind fun t274 => (if t274 = true then (some (((Go.bits .and .i64 t252 4096) != 0), Go.bits .and .i64 t252 2047, wrap64 (t257 - 49152), bt267.1, (t273.size : Int))) else (some (false, 0, 0, (⟨#[]⟩ : ByteArray), 0)))))))) = some (r1, r2, r3, r4, r5) := H
      have A13 := Aside0.mk A130
      clear A130
      replace H := Option.bind_eq_some_iff.mp H
      obtain ⟨⟨t267, t268, t269, t270, t271⟩, A140, H⟩ := H
      replace H : (if t271 = true then (some (false, 0, 0, (⟨#[]⟩ : ByteArray), 0)) else ((impl_PacketPut.f kj2 ((Go.bits .and .i64 t252 4096) != 0) (Go.bits .and .i64 t252 2047) (wrap64 (t257 - 49152)) t267).bind fun t273 => (if t273.toList = ([] : List UInt8) then (some (false, 0, 0, (⟨#[]⟩ : ByteArray), 0)) else ((strings_HasPrefix.f (a0.extract (a1 : Int).toNat a0.size) t273).bind fun t274 => (if t274 = true then (some (((Go.bits .and .i64 t252 4096) != 0), Go.bits .and .i64 t252 2047, wrap64 (t257 - 49152), t267, (t273.size : Int))) else (some (false, 0, 0, (⟨#[]⟩ : ByteArray), 0))))))) = some (r1, r2, r3, r4, r5) := H
      have A14 := Aside0.mk A140
      clear A140
      by_cases c15 : t271 = true
      ·subst c15
       have H1 : (some (false, 0, 0, (⟨#[]⟩ : ByteArray), 0)) = some (r1, r2, r3, r4, r5) := by rw [if_pos rfl] at H; exact H
       clear H
       have H := H1
       clear H1
       simp only [Option.some.injEq, Prod.mk.injEq] at H
       obtain ⟨rfl, rfl, rfl, rfl, rfl⟩ := H
       go_wp2_with (first | ((with_reducible refine gate_callee (f := 35) rfl ?_); refine goesL_ (some 25) rfl rfl Tryd.func35 (by kernel_rfl) rfl #[.string (a0.extract (a1 : Int).toNat a0.size)] rfl gl_ ?_; (with_reducible refine (impl_readerOf.calls (a0.extract (a1 : Int).toNat a0.size) t247 t248 t249 t250 w _ ?side1 A10.out).mono ?_); (case side1 => repeat (first | (with_reducible first | exact HB.out | apply below_alloc | apply pw_below_drewN | apply below_drew1 | refine below_set ?_ GE246.out) | exact HB.out)); rintro e w16 ⟨g251, rfl, hi, hb, hb2⟩; refine ⟨_, rfl, ?_⟩; have n0_ := m_ (blk_below (g := gb246) (o := .cells #[.bool false, .int .i64 0, .int .i64 0, .string (⟨#[]⟩ : ByteArray)] 39 (0, 0)) (kN BK246.out) hb2); have n1_ := m_ (hb); have n2_ := m_ (hi); have n3_ := m_ (IsS73.ne_blk hi (blk_below (g := gb246) (o := .cells #[.bool false, .int .i64 0, .int .i64 0, .string (⟨#[]⟩ : ByteArray)] 39 (0, 0)) (kN BK246.out) hb2) (by decide)); have n4_ := m_ (Ne.symm (IsS73.ne_blk hi (blk_below (g := gb246) (o := .cells #[.bool false, .int .i64 0, .int .i64 0, .string (⟨#[]⟩ : ByteArray)] 39 (0, 0)) (kN BK246.out) hb2) (by decide))); clear BK246; clear HB; have BK246 := n0_; have HB := n1_; have HI251 := n2_; have NB251_246 := n3_; have NB246_251 := n4_; clear n0_ n1_ n2_ n3_ n4_; (try clear hb); (try clear hb2); (try clear hk); (try clear hi)) | ((with_reducible refine gate_callee (f := 36) rfl ?_); refine goesL_ (some 27) rfl rfl Tryd.func36 (by kernel_rfl) rfl #[.pointer (some ⟨g251, 0, none⟩), .int .i64 2] rfl gl_ ?_; (with_reducible refine (impl_reader_number.calls kj2 g251 t247 t248 t249 t250 2 t252 t253 t254 t255 t256 w _ ?side1 ?side2 A11.out).mono ?_); (case side1 => repeat (first | (with_reducible first | exact HI251.out | apply IsS73.alloc | apply IsS73.drewN | apply IsS73.drew | apply IsS73.set_0 | apply IsS73.set_1 | apply IsS73.set_2 | apply IsS73.set_3 | refine IsS73.far ?_ NB251_246.out _) | exact HI251.out)); (case side2 => repeat (first | (with_reducible first | exact HB.out | apply below_alloc | apply pw_below_drewN | apply below_drew1 | refine below_set ?_ (IsS73.ge HI251.out) | refine below_set ?_ GE246.out) | exact HB.out)); rintro e w17 ⟨rfl, hi, hb, hk⟩; refine ⟨_, rfl, ?_⟩; have n0_ := m_ (KeepBut.blk hk (g' := gb246) (o := .cells #[.bool false, .int .i64 0, .int .i64 0, .string (⟨#[]⟩ : ByteArray)] 39 (0, 0)) (kN BK246.out) NB246_251.out (by simp)); have n1_ := m_ (hb); have n2_ := m_ (hi); clear BK246; clear HB; clear HI251; have BK246 := n0_; have HB := n1_; have HI251 := n2_; clear n0_ n1_ n2_; (try clear hb); (try clear hb2); (try clear hk); (try clear hi)) | ((with_reducible refine gate_callee (f := 36) rfl ?_); refine goesL_ (some 29) rfl rfl Tryd.func36 (by kernel_rfl) rfl #[.pointer (some ⟨g251, 0, none⟩), .int .i64 2] rfl gl_ ?_; (with_reducible refine (impl_reader_number.calls kj2 g251 t253 t254 t255 t256 2 t257 t258 t259 t260 t261 w _ ?side1 ?side2 A12.out).mono ?_); (case side1 => repeat (first | (with_reducible first | exact HI251.out | apply IsS73.alloc | apply IsS73.drewN | apply IsS73.drew | apply IsS73.set_0 | apply IsS73.set_1 | apply IsS73.set_2 | apply IsS73.set_3 | refine IsS73.far ?_ NB251_246.out _) | exact HI251.out)); (case side2 => repeat (first | (with_reducible first | exact HB.out | apply below_alloc | apply pw_below_drewN | apply below_drew1 | refine below_set ?_ (IsS73.ge HI251.out) | refine below_set ?_ GE246.out) | exact HB.out)); rintro e w18 ⟨rfl, hi, hb, hk⟩; refine ⟨_, rfl, ?_⟩; have n0_ := m_ (KeepBut.blk hk (g' := gb246) (o := .cells #[.bool false, .int .i64 0, .int .i64 0, .string (⟨#[]⟩ : ByteArray)] 39 (0, 0)) (kN BK246.out) NB246_251.out (by simp)); have n1_ := m_ (hb); have n2_ := m_ (hi); clear BK246; clear HB; clear HI251; have BK246 := n0_; have HB := n1_; have HI251 := n2_; clear n0_ n1_ n2_; (try clear hb); (try clear hb2); (try clear hk); (try clear hi)) | ((with_reducible refine gate_callee (f := 36) rfl ?_); refine goesL_ (some 31) rfl rfl Tryd.func36 (by kernel_rfl) rfl #[.pointer (some ⟨g251, 0, none⟩), .int .i64 2] rfl gl_ ?_; (with_reducible refine (impl_reader_number.calls kj2 g251 t258 t259 t260 t261 2 t262 t263 t264 t265 t266 w _ ?side1 ?side2 A13.out).mono ?_); (case side1 => repeat (first | (with_reducible first | exact HI251.out | apply IsS73.alloc | apply IsS73.drewN | apply IsS73.drew | apply IsS73.set_0 | apply IsS73.set_1 | apply IsS73.set_2 | apply IsS73.set_3 | refine IsS73.far ?_ NB251_246.out _) | exact HI251.out)); (case side2 => repeat (first | (with_reducible first | exact HB.out | apply below_alloc | apply pw_below_drewN | apply below_drew1 | refine below_set ?_ (IsS73.ge HI251.out) | refine below_set ?_ GE246.out) | exact HB.out)); rintro e w19 ⟨rfl, hi, hb, hk⟩; refine ⟨_, rfl, ?_⟩; have n0_ := m_ (KeepBut.blk hk (g' := gb246) (o := .cells #[.bool false, .int .i64 0, .int .i64 0, .string (⟨#[]⟩ : ByteArray)] 39 (0, 0)) (kN BK246.out) NB246_251.out (by simp)); have n1_ := m_ (hb); have n2_ := m_ (hi); clear BK246; clear HB; clear HI251; have BK246 := n0_; have HB := n1_; have HI251 := n2_; clear n0_ n1_ n2_; (try clear hb); (try clear hb2); (try clear hk); (try clear hi)) | ((with_reducible refine gate_callee (f := 37) rfl ?_); refine goesL_ (some 35) rfl rfl Tryd.func37 (by kernel_rfl) rfl #[.pointer (some ⟨g251, 0, none⟩), .int .i64 (wrap64 (t262 + 1))] rfl gl_ ?_; (with_reducible refine (impl_reader_take.calls g251 t263 t264 t265 t266 (wrap64 (t262 + 1)) t267 t268 t269 t270 true w _ ?side1 ?side2 A14.out).mono ?_); (case side1 => repeat (first | (with_reducible first | exact HI251.out | apply IsS73.alloc | apply IsS73.drewN | apply IsS73.drew | apply IsS73.set_0 | apply IsS73.set_1 | apply IsS73.set_2 | apply IsS73.set_3 | refine IsS73.far ?_ NB251_246.out _) | exact HI251.out)); (case side2 => repeat (first | (with_reducible first | exact HB.out | apply below_alloc | apply pw_below_drewN | apply below_drew1 | refine below_set ?_ (IsS73.ge HI251.out) | refine below_set ?_ GE246.out) | exact HB.out)); rintro e w20 ⟨rfl, hi, hb, hk⟩; refine ⟨_, rfl, ?_⟩; have n0_ := m_ (KeepBut.blk hk (g' := gb246) (o := .cells #[.bool false, .int .i64 0, .int .i64 0, .string (⟨#[]⟩ : ByteArray)] 39 (0, 0)) (kN BK246.out) NB246_251.out (by simp)); have n1_ := m_ (hb); have n2_ := m_ (hi); clear BK246; clear HB; clear HI251; have BK246 := n0_; have HB := n1_; have HI251 := n2_; clear n0_ n1_ n2_; (try clear hb); (try clear hb2); (try clear hk); (try clear hi); obtain ⟨HGz21, hgz21⟩ := HI251.out; have hcz21_0 := cellS73_0 HGz21; have hcz21_1 := cellS73_1 HGz21; have hcz21_2 := cellS73_2 HGz21; have hcz21_3 := cellS73_3 HGz21; have hfz21_0 := blk_frozen HGz21 0; have hfz21_1 := blk_frozen HGz21 1; have hfz21_2 := blk_frozen HGz21 2; have hfz21_3 := blk_frozen HGz21 3; clear HGz21 hgz21; have hnb22 := NB246_251.out; have hnc22 := NB251_246.out; have hcz23_0 : w20.cell? ⟨gb246, 0, none⟩ = some (.bool false) := bc BK246 0; have hcz23_1 : w20.cell? ⟨gb246, 1, none⟩ = some (.int .i64 0) := bc BK246 1; have hcz23_2 : w20.cell? ⟨gb246, 2, none⟩ = some (.int .i64 0) := bc BK246 2; have hcz23_3 : w20.cell? ⟨gb246, 3, none⟩ = some (.string (⟨#[]⟩ : ByteArray)) := bc BK246 3; have hfz23_0 := blk_frozen BK246.out 0; have hfz23_1 := blk_frozen BK246.out 1; have hfz23_2 := blk_frozen BK246.out 2; have hfz23_3 := blk_frozen BK246.out 3))
       refine bodyPost_ret (results_ct rfl _ _ gb246 39 #[.bool false, .int .i64 0, .int .i64 0, .string (⟨#[]⟩ : ByteArray)] (0, 0) _ rfl (kP BK246.out) Tryd.underlying39 rfl (by kernel_rfl)) rfl ?_
       exact ⟨by first | rfl | (simp [errW_none, errW_some] <;> rfl) | (simp [*, errW_none, errW_some] <;> rfl), by repeat (first | (with_reducible first | exact HB.out | apply below_alloc | apply pw_below_drewN | apply below_drew1 | refine below_set ?_ (IsS73.ge HI251.out) | refine below_set ?_ GE246.out) | exact HB.out)⟩
      ·replace c15 := Bool.eq_false_iff.mpr c15
       subst c15
       have H1 : ((impl_PacketPut.f kj2 ((Go.bits .and .i64 t252 4096) != 0) (Go.bits .and .i64 t252 2047) (wrap64 (t257 - 49152)) t267).bind fun t273 => (if t273.toList = ([] : List UInt8) then (some (false, 0, 0, (⟨#[]⟩ : ByteArray), 0)) else ((strings_HasPrefix.f (a0.extract (a1 : Int).toNat a0.size) t273).bind fun t274 => (if t274 = true then (some (((Go.bits .and .i64 t252 4096) != 0), Go.bits .and .i64 t252 2047, wrap64 (t257 - 49152), t267, (t273.size : Int))) else (some (false, 0, 0, (⟨#[]⟩ : ByteArray), 0)))))) = some (r1, r2, r3, r4, r5) := by rw [if_neg (show ¬ (false = true) by decide)] at H; exact H
       clear H
       have H := H1
       clear H1
       replace H := Option.bind_eq_some_iff.mp H
       obtain ⟨t273, A240, H⟩ := H
       replace H : (if t273.toList = ([] : List UInt8) then (some (false, 0, 0, (⟨#[]⟩ : ByteArray), 0)) else ((strings_HasPrefix.f (a0.extract (a1 : Int).toNat a0.size) t273).bind fun t274 => (if t274 = true then (some (((Go.bits .and .i64 t252 4096) != 0), Go.bits .and .i64 t252 2047, wrap64 (t257 - 49152), t267, (t273.size : Int))) else (some (false, 0, 0, (⟨#[]⟩ : ByteArray), 0))))) = some (r1, r2, r3, r4, r5) := H
       have A24 := Aside0.mk A240
       clear A240
       by_cases c25 : t273.toList = ([] : List UInt8)
       ·rw [if_pos c25] at H
        have c25b0 : (t273.toList == ([] : List UInt8)) = true := beq_iff_eq.mpr c25
        try have c25b7 : t273.toList.isEmpty = true := (by rw [← c25b0]; cases t273.toList <;> rfl)
        have c25b1 : (t273.toList != ([] : List UInt8)) = false := bne_eq_false_iff_eq.mpr c25
        clear c25
        simp only [Option.some.injEq, Prod.mk.injEq] at H
        obtain ⟨rfl, rfl, rfl, rfl, rfl⟩ := H
        go_wp2_with (first | ((with_reducible refine gate_callee (f := 35) rfl ?_); refine goesL_ (some 25) rfl rfl Tryd.func35 (by kernel_rfl) rfl #[.string (a0.extract (a1 : Int).toNat a0.size)] rfl gl_ ?_; (with_reducible refine (impl_readerOf.calls (a0.extract (a1 : Int).toNat a0.size) t247 t248 t249 t250 w _ ?side1 A10.out).mono ?_); (case side1 => repeat (first | (with_reducible first | exact HB.out | apply below_alloc | apply pw_below_drewN | apply below_drew1 | refine below_set ?_ GE246.out) | exact HB.out)); rintro e w26 ⟨g251, rfl, hi, hb, hb2⟩; refine ⟨_, rfl, ?_⟩; have n0_ := m_ (blk_below (g := gb246) (o := .cells #[.bool false, .int .i64 0, .int .i64 0, .string (⟨#[]⟩ : ByteArray)] 39 (0, 0)) (kN BK246.out) hb2); have n1_ := m_ (hb); have n2_ := m_ (hi); have n3_ := m_ (IsS73.ne_blk hi (blk_below (g := gb246) (o := .cells #[.bool false, .int .i64 0, .int .i64 0, .string (⟨#[]⟩ : ByteArray)] 39 (0, 0)) (kN BK246.out) hb2) (by decide)); have n4_ := m_ (Ne.symm (IsS73.ne_blk hi (blk_below (g := gb246) (o := .cells #[.bool false, .int .i64 0, .int .i64 0, .string (⟨#[]⟩ : ByteArray)] 39 (0, 0)) (kN BK246.out) hb2) (by decide))); clear BK246; clear HB; have BK246 := n0_; have HB := n1_; have HI251 := n2_; have NB251_246 := n3_; have NB246_251 := n4_; clear n0_ n1_ n2_ n3_ n4_; (try clear hb); (try clear hb2); (try clear hk); (try clear hi)) | ((with_reducible refine gate_callee (f := 36) rfl ?_); refine goesL_ (some 27) rfl rfl Tryd.func36 (by kernel_rfl) rfl #[.pointer (some ⟨g251, 0, none⟩), .int .i64 2] rfl gl_ ?_; (with_reducible refine (impl_reader_number.calls kj2 g251 t247 t248 t249 t250 2 t252 t253 t254 t255 t256 w _ ?side1 ?side2 A11.out).mono ?_); (case side1 => repeat (first | (with_reducible first | exact HI251.out | apply IsS73.alloc | apply IsS73.drewN | apply IsS73.drew | apply IsS73.set_0 | apply IsS73.set_1 | apply IsS73.set_2 | apply IsS73.set_3 | refine IsS73.far ?_ NB251_246.out _) | exact HI251.out)); (case side2 => repeat (first | (with_reducible first | exact HB.out | apply below_alloc | apply pw_below_drewN | apply below_drew1 | refine below_set ?_ (IsS73.ge HI251.out) | refine below_set ?_ GE246.out) | exact HB.out)); rintro e w27 ⟨rfl, hi, hb, hk⟩; refine ⟨_, rfl, ?_⟩; have n0_ := m_ (KeepBut.blk hk (g' := gb246) (o := .cells #[.bool false, .int .i64 0, .int .i64 0, .string (⟨#[]⟩ : ByteArray)] 39 (0, 0)) (kN BK246.out) NB246_251.out (by simp)); have n1_ := m_ (hb); have n2_ := m_ (hi); clear BK246; clear HB; clear HI251; have BK246 := n0_; have HB := n1_; have HI251 := n2_; clear n0_ n1_ n2_; (try clear hb); (try clear hb2); (try clear hk); (try clear hi)) | ((with_reducible refine gate_callee (f := 36) rfl ?_); refine goesL_ (some 29) rfl rfl Tryd.func36 (by kernel_rfl) rfl #[.pointer (some ⟨g251, 0, none⟩), .int .i64 2] rfl gl_ ?_; (with_reducible refine (impl_reader_number.calls kj2 g251 t253 t254 t255 t256 2 t257 t258 t259 t260 t261 w _ ?side1 ?side2 A12.out).mono ?_); (case side1 => repeat (first | (with_reducible first | exact HI251.out | apply IsS73.alloc | apply IsS73.drewN | apply IsS73.drew | apply IsS73.set_0 | apply IsS73.set_1 | apply IsS73.set_2 | apply IsS73.set_3 | refine IsS73.far ?_ NB251_246.out _) | exact HI251.out)); (case side2 => repeat (first | (with_reducible first | exact HB.out | apply below_alloc | apply pw_below_drewN | apply below_drew1 | refine below_set ?_ (IsS73.ge HI251.out) | refine below_set ?_ GE246.out) | exact HB.out)); rintro e w28 ⟨rfl, hi, hb, hk⟩; refine ⟨_, rfl, ?_⟩; have n0_ := m_ (KeepBut.blk hk (g' := gb246) (o := .cells #[.bool false, .int .i64 0, .int .i64 0, .string (⟨#[]⟩ : ByteArray)] 39 (0, 0)) (kN BK246.out) NB246_251.out (by simp)); have n1_ := m_ (hb); have n2_ := m_ (hi); clear BK246; clear HB; clear HI251; have BK246 := n0_; have HB := n1_; have HI251 := n2_; clear n0_ n1_ n2_; (try clear hb); (try clear hb2); (try clear hk); (try clear hi)) | ((with_reducible refine gate_callee (f := 36) rfl ?_); refine goesL_ (some 31) rfl rfl Tryd.func36 (by kernel_rfl) rfl #[.pointer (some ⟨g251, 0, none⟩), .int .i64 2] rfl gl_ ?_; (with_reducible refine (impl_reader_number.calls kj2 g251 t258 t259 t260 t261 2 t262 t263 t264 t265 t266 w _ ?side1 ?side2 A13.out).mono ?_); (case side1 => repeat (first | (with_reducible first | exact HI251.out | apply IsS73.alloc | apply IsS73.drewN | apply IsS73.drew | apply IsS73.set_0 | apply IsS73.set_1 | apply IsS73.set_2 | apply IsS73.set_3 | refine IsS73.far ?_ NB251_246.out _) | exact HI251.out)); (case side2 => repeat (first | (with_reducible first | exact HB.out | apply below_alloc | apply pw_below_drewN | apply below_drew1 | refine below_set ?_ (IsS73.ge HI251.out) | refine below_set ?_ GE246.out) | exact HB.out)); rintro e w29 ⟨rfl, hi, hb, hk⟩; refine ⟨_, rfl, ?_⟩; have n0_ := m_ (KeepBut.blk hk (g' := gb246) (o := .cells #[.bool false, .int .i64 0, .int .i64 0, .string (⟨#[]⟩ : ByteArray)] 39 (0, 0)) (kN BK246.out) NB246_251.out (by simp)); have n1_ := m_ (hb); have n2_ := m_ (hi); clear BK246; clear HB; clear HI251; have BK246 := n0_; have HB := n1_; have HI251 := n2_; clear n0_ n1_ n2_; (try clear hb); (try clear hb2); (try clear hk); (try clear hi)) | ((with_reducible refine gate_callee (f := 37) rfl ?_); refine goesL_ (some 35) rfl rfl Tryd.func37 (by kernel_rfl) rfl #[.pointer (some ⟨g251, 0, none⟩), .int .i64 (wrap64 (t262 + 1))] rfl gl_ ?_; (with_reducible refine (impl_reader_take.calls g251 t263 t264 t265 t266 (wrap64 (t262 + 1)) t267 t268 t269 t270 false w _ ?side1 ?side2 A14.out).mono ?_); (case side1 => repeat (first | (with_reducible first | exact HI251.out | apply IsS73.alloc | apply IsS73.drewN | apply IsS73.drew | apply IsS73.set_0 | apply IsS73.set_1 | apply IsS73.set_2 | apply IsS73.set_3 | refine IsS73.far ?_ NB251_246.out _) | exact HI251.out)); (case side2 => repeat (first | (with_reducible first | exact HB.out | apply below_alloc | apply pw_below_drewN | apply below_drew1 | refine below_set ?_ (IsS73.ge HI251.out) | refine below_set ?_ GE246.out) | exact HB.out)); rintro e w30 ⟨rfl, hi, hb, hk⟩; refine ⟨_, rfl, ?_⟩; have n0_ := m_ (KeepBut.blk hk (g' := gb246) (o := .cells #[.bool false, .int .i64 0, .int .i64 0, .string (⟨#[]⟩ : ByteArray)] 39 (0, 0)) (kN BK246.out) NB246_251.out (by simp)); have n1_ := m_ (hb); have n2_ := m_ (hi); clear BK246; clear HB; clear HI251; have BK246 := n0_; have HB := n1_; have HI251 := n2_; clear n0_ n1_ n2_; (try clear hb); (try clear hb2); (try clear hk); (try clear hi); obtain ⟨HGz31, hgz31⟩ := HI251.out; have hcz31_0 := cellS73_0 HGz31; have hcz31_1 := cellS73_1 HGz31; have hcz31_2 := cellS73_2 HGz31; have hcz31_3 := cellS73_3 HGz31; have hfz31_0 := blk_frozen HGz31 0; have hfz31_1 := blk_frozen HGz31 1; have hfz31_2 := blk_frozen HGz31 2; have hfz31_3 := blk_frozen HGz31 3; clear HGz31 hgz31) | ((with_reducible refine gate_dst (N := 11) rfl ?_); (try (refine gate_guard (by rfl) ?_; dsimp only)); refine box_event ?hg (N := 11) ?hd (cs := #[.bool false, .int .i64 0, .int .i64 0, .string (⟨#[]⟩ : ByteArray)]) (t := 39) ?hr ?_; (case hd => rfl); (case hg => rfl); (case hr => first | (go_simp; done) | (go_simp; rfl)); intro gb272 hg w32 hbox hb; have n0_ := m_ (blk_below (g := gb246) (o := .cells #[.bool false, .int .i64 0, .int .i64 0, .string (⟨#[]⟩ : ByteArray)] 39 (0, 0)) (kN BK246.out) hb); have n1_ := m_ (IsS73.below (by repeat (first | (with_reducible first | exact HI251.out | apply IsS73.alloc | apply IsS73.drewN | apply IsS73.drew | apply IsS73.set_0 | apply IsS73.set_1 | apply IsS73.set_2 | apply IsS73.set_3 | refine IsS73.far ?_ NB251_246.out _) | exact HI251.out)) hb); have n2_ := m_ (below_step (by repeat (first | (with_reducible first | exact HB.out | apply below_alloc | apply pw_below_drewN | apply below_drew1 | refine below_set ?_ (IsS73.ge HI251.out) | refine below_set ?_ GE246.out) | exact HB.out)) hb); have n3_ := m_ (hbox); have n4_ := m_ ((by rw [hg]; exact (below_size (by repeat (first | (with_reducible first | exact HB.out | apply below_alloc | apply pw_below_drewN | apply below_drew1 | refine below_set ?_ (IsS73.ge HI251.out) | refine below_set ?_ GE246.out) | exact HB.out))) : w.heap.size ≤ gb272)); have n5_ := m_ ((by rw [hg]; exact (below_size (by repeat (first | (with_reducible first | exact HB.out | apply below_alloc | apply pw_below_drewN | apply below_drew1 | refine below_set ?_ (IsS73.ge HI251.out) | refine below_set ?_ GE246.out) | exact HB.out))) : w.heap.size ≤ gb272)); have n6_ := m_ ((by rw [hg]; exact Nat.ne_of_lt (blk_lt (g := gb246) (o := .cells #[.bool false, .int .i64 0, .int .i64 0, .string (⟨#[]⟩ : ByteArray)] 39 (0, 0)) (kN BK246.out)) : gb246 ≠ gb272)); have n7_ := m_ ((by rw [hg]; exact Nat.ne_of_gt (blk_lt (g := gb246) (o := .cells #[.bool false, .int .i64 0, .int .i64 0, .string (⟨#[]⟩ : ByteArray)] 39 (0, 0)) (kN BK246.out)) : gb272 ≠ gb246)); have n8_ := m_ ((by rw [hg]; exact Nat.ne_of_lt (IsS73.lt (show IsS73 w _ g251 t268 t269 t270 false from by repeat (first | (with_reducible first | exact HI251.out | apply IsS73.alloc | apply IsS73.drewN | apply IsS73.drew | apply IsS73.set_0 | apply IsS73.set_1 | apply IsS73.set_2 | apply IsS73.set_3 | refine IsS73.far ?_ NB251_246.out _) | exact HI251.out))) : g251 ≠ gb272)); have n9_ := m_ ((by rw [hg]; exact Nat.ne_of_gt (IsS73.lt (show IsS73 w _ g251 t268 t269 t270 false from by repeat (first | (with_reducible first | exact HI251.out | apply IsS73.alloc | apply IsS73.drewN | apply IsS73.drew | apply IsS73.set_0 | apply IsS73.set_1 | apply IsS73.set_2 | apply IsS73.set_3 | refine IsS73.far ?_ NB251_246.out _) | exact HI251.out))) : gb272 ≠ g251)); clear BK246; clear HI251; clear HB; have BK246 := n0_; have HI251 := n1_; have HB := n2_; have BK272 := n3_; have GW272 := n4_; have GE272 := n5_; have NB246_272 := n6_; have NB272_246 := n7_; have NB251_272 := n8_; have NB272_251 := n9_; clear n0_ n1_ n2_ n3_ n4_ n5_ n6_ n7_ n8_ n9_; clear hb hbox hg; have hnb33 := NB272_246.out; have hnc33 := NB246_272.out; have hnb34 := NB272_251.out; have hnc34 := NB251_272.out; have hcz35_0 : w32.cell? ⟨gb272, 0, none⟩ = some (.bool false) := bc BK272 0; have hcz35_1 : w32.cell? ⟨gb272, 1, none⟩ = some (.int .i64 0) := bc BK272 1; have hcz35_2 : w32.cell? ⟨gb272, 2, none⟩ = some (.int .i64 0) := bc BK272 2; have hcz35_3 : w32.cell? ⟨gb272, 3, none⟩ = some (.string (⟨#[]⟩ : ByteArray)) := bc BK272 3; have hfz35_0 := blk_frozen BK272.out 0; have hfz35_1 := blk_frozen BK272.out 1; have hfz35_2 := blk_frozen BK272.out 2; have hfz35_3 := blk_frozen BK272.out 3) | ((with_reducible refine gate_callee (f := 13) rfl ?_); refine goesL_ (some 51) rfl rfl Tryd.func13 (by kernel_rfl) rfl #[.agg #[.bool ((Go.bits .and .i64 t252 4096) != 0), .int .i64 (Go.bits .and .i64 t252 2047), .int .i64 (wrap64 (t257 - 49152)), .string t267]] rfl gl_ ?_; (with_reducible refine (impl_PacketPut.calls kj2 ((Go.bits .and .i64 t252 4096) != 0) (Go.bits .and .i64 t252 2047) (wrap64 (t257 - 49152)) t267 t273 _ A24.out).mono ?_); rintro e w36 ⟨rfl, hb⟩; refine ⟨_, rfl, ?_⟩; have n0_ := m_ (blk_below (g := gb246) (o := .cells #[.bool false, .int .i64 0, .int .i64 0, .string (⟨#[]⟩ : ByteArray)] 39 (0, 0)) (kF BK246.out NB246_272.out) hb); have n1_ := m_ (IsS73.below (show IsS73 w ((((w32.setCell ⟨gb272, 0, none⟩ (.bool ((Go.bits .and .i64 t252 4096) != 0))).setCell ⟨gb272, 1, none⟩ (.int .i64 (Go.bits .and .i64 t252 2047))).setCell ⟨gb272, 2, none⟩ (.int .i64 (wrap64 (t257 - 49152)))).setCell ⟨gb272, 3, none⟩ (.string t267)) g251 t268 t269 t270 false from by repeat (first | (with_reducible first | exact HI251.out | apply IsS73.alloc | apply IsS73.drewN | apply IsS73.drew | apply IsS73.set_0 | apply IsS73.set_1 | apply IsS73.set_2 | apply IsS73.set_3 | refine IsS73.far ?_ NB251_246.out _ | refine IsS73.far ?_ NB251_272.out _) | exact HI251.out)) hb); have n2_ := m_ (blk_below (g := gb272) (o := .cells #[.bool ((Go.bits .and .i64 t252 4096) != 0), .int .i64 (Go.bits .and .i64 t252 2047), .int .i64 (wrap64 (t257 - 49152)), .string t267] 39 (0, 0)) (kP BK272.out) hb); have n3_ := m_ (below_step (by repeat (first | (with_reducible first | exact HB.out | apply below_alloc | apply pw_below_drewN | apply below_drew1 | refine below_set ?_ (IsS73.ge HI251.out) | refine below_set ?_ GE246.out | refine below_set ?_ GE272.out) | exact HB.out)) hb); clear BK246; clear HI251; clear BK272; clear HB; have BK246 := n0_; have HI251 := n1_; have BK272 := n2_; have HB := n3_; clear n0_ n1_ n2_ n3_; (try clear hb); (try clear hb2); (try clear hk); (try clear hi); have hnb37 := NB246_251.out; have hnc37 := NB251_246.out; have hcz38_0 : w36.cell? ⟨gb246, 0, none⟩ = some (.bool false) := bc BK246 0; have hcz38_1 : w36.cell? ⟨gb246, 1, none⟩ = some (.int .i64 0) := bc BK246 1; have hcz38_2 : w36.cell? ⟨gb246, 2, none⟩ = some (.int .i64 0) := bc BK246 2; have hcz38_3 : w36.cell? ⟨gb246, 3, none⟩ = some (.string (⟨#[]⟩ : ByteArray)) := bc BK246 3; have hfz38_0 := blk_frozen BK246.out 0; have hfz38_1 := blk_frozen BK246.out 1; have hfz38_2 := blk_frozen BK246.out 2; have hfz38_3 := blk_frozen BK246.out 3))
        refine bodyPost_ret (results_ct rfl _ _ gb246 39 #[.bool false, .int .i64 0, .int .i64 0, .string (⟨#[]⟩ : ByteArray)] (0, 0) _ rfl (kP BK246.out) Tryd.underlying39 rfl (by kernel_rfl)) rfl ?_
        exact ⟨by first | rfl | (simp [errW_none, errW_some] <;> rfl) | (simp [*, errW_none, errW_some] <;> rfl), by repeat (first | (with_reducible first | exact HB.out | apply below_alloc | apply pw_below_drewN | apply below_drew1 | refine below_set ?_ (IsS73.ge HI251.out) | refine below_set ?_ GE246.out | refine below_set ?_ GE272.out) | exact HB.out)⟩
       ·rw [if_neg c25] at H
        have c25b0 : (t273.toList == ([] : List UInt8)) = false := beq_eq_false_iff_ne.mpr c25
        try have c25b7 : t273.toList.isEmpty = false := (by rw [← c25b0]; cases t273.toList <;> rfl)
        have c25b1 : (t273.toList != ([] : List UInt8)) = true := bne_iff_ne.mpr c25
        have c39b0 := eq_true (of_decide_eq_true (by first | (with_reducible assumption) | assumption) : 0 ≤ a1)
        have c40b0 := eq_true (of_decide_eq_true (by first | (with_reducible assumption) | assumption) : a1 ≤ (a0.size : Int))
        replace H := Option.bind_eq_some_iff.mp H
        obtain ⟨t274, A410, H⟩ := H
        replace H : (if t274 = true then (some (((Go.bits .and .i64 t252 4096) != 0), Go.bits .and .i64 t252 2047, wrap64 (t257 - 49152), t267, (t273.size : Int))) else (some (false, 0, 0, (⟨#[]⟩ : ByteArray), 0))) = some (r1, r2, r3, r4, r5) := H
        have A41 := Aside0.mk A410
        clear A410
        by_cases c42 : t274 = true
        ·subst c42
         have H1 : (some (((Go.bits .and .i64 t252 4096) != 0), Go.bits .and .i64 t252 2047, wrap64 (t257 - 49152), t267, (t273.size : Int))) = some (r1, r2, r3, r4, r5) := by rw [if_pos rfl] at H; exact H
         clear H
         have H := H1
         clear H1
         simp only [Option.some.injEq, Prod.mk.injEq] at H
         obtain ⟨rfl, rfl, rfl, rfl, rfl⟩ := H
         go_wp2_with (first | ((with_reducible refine gate_callee (f := 35) rfl ?_); refine goesL_ (some 25) rfl rfl Tryd.func35 (by kernel_rfl) rfl #[.string (a0.extract (a1 : Int).toNat a0.size)] rfl gl_ ?_; (with_reducible refine (impl_readerOf.calls (a0.extract (a1 : Int).toNat a0.size) t247 t248 t249 t250 w _ ?side1 A10.out).mono ?_); (case side1 => repeat (first | (with_reducible first | exact HB.out | apply below_alloc | apply pw_below_drewN | apply below_drew1 | refine below_set ?_ GE246.out) | exact HB.out)); rintro e w43 ⟨g251, rfl, hi, hb, hb2⟩; refine ⟨_, rfl, ?_⟩; have n0_ := m_ (blk_below (g := gb246) (o := .cells #[.bool false, .int .i64 0, .int .i64 0, .string (⟨#[]⟩ : ByteArray)] 39 (0, 0)) (kN BK246.out) hb2); have n1_ := m_ (hb); have n2_ := m_ (hi); have n3_ := m_ (IsS73.ne_blk hi (blk_below (g := gb246) (o := .cells #[.bool false, .int .i64 0, .int .i64 0, .string (⟨#[]⟩ : ByteArray)] 39 (0, 0)) (kN BK246.out) hb2) (by decide)); have n4_ := m_ (Ne.symm (IsS73.ne_blk hi (blk_below (g := gb246) (o := .cells #[.bool false, .int .i64 0, .int .i64 0, .string (⟨#[]⟩ : ByteArray)] 39 (0, 0)) (kN BK246.out) hb2) (by decide))); clear BK246; clear HB; have BK246 := n0_; have HB := n1_; have HI251 := n2_; have NB251_246 := n3_; have NB246_251 := n4_; clear n0_ n1_ n2_ n3_ n4_; (try clear hb); (try clear hb2); (try clear hk); (try clear hi)) | ((with_reducible refine gate_callee (f := 36) rfl ?_); refine goesL_ (some 27) rfl rfl Tryd.func36 (by kernel_rfl) rfl #[.pointer (some ⟨g251, 0, none⟩), .int .i64 2] rfl gl_ ?_; (with_reducible refine (impl_reader_number.calls kj2 g251 t247 t248 t249 t250 2 t252 t253 t254 t255 t256 w _ ?side1 ?side2 A11.out).mono ?_); (case side1 => repeat (first | (with_reducible first | exact HI251.out | apply IsS73.alloc | apply IsS73.drewN | apply IsS73.drew | apply IsS73.set_0 | apply IsS73.set_1 | apply IsS73.set_2 | apply IsS73.set_3 | refine IsS73.far ?_ NB251_246.out _) | exact HI251.out)); (case side2 => repeat (first | (with_reducible first | exact HB.out | apply below_alloc | apply pw_below_drewN | apply below_drew1 | refine below_set ?_ (IsS73.ge HI251.out) | refine below_set ?_ GE246.out) | exact HB.out)); rintro e w44 ⟨rfl, hi, hb, hk⟩; refine ⟨_, rfl, ?_⟩; have n0_ := m_ (KeepBut.blk hk (g' := gb246) (o := .cells #[.bool false, .int .i64 0, .int .i64 0, .string (⟨#[]⟩ : ByteArray)] 39 (0, 0)) (kN BK246.out) NB246_251.out (by simp)); have n1_ := m_ (hb); have n2_ := m_ (hi); clear BK246; clear HB; clear HI251; have BK246 := n0_; have HB := n1_; have HI251 := n2_; clear n0_ n1_ n2_; (try clear hb); (try clear hb2); (try clear hk); (try clear hi)) | ((with_reducible refine gate_callee (f := 36) rfl ?_); refine goesL_ (some 29) rfl rfl Tryd.func36 (by kernel_rfl) rfl #[.pointer (some ⟨g251, 0, none⟩), .int .i64 2] rfl gl_ ?_; (with_reducible refine (impl_reader_number.calls kj2 g251 t253 t254 t255 t256 2 t257 t258 t259 t260 t261 w _ ?side1 ?side2 A12.out).mono ?_); (case side1 => repeat (first | (with_reducible first | exact HI251.out | apply IsS73.alloc | apply IsS73.drewN | apply IsS73.drew | apply IsS73.set_0 | apply IsS73.set_1 | apply IsS73.set_2 | apply IsS73.set_3 | refine IsS73.far ?_ NB251_246.out _) | exact HI251.out)); (case side2 => repeat (first | (with_reducible first | exact HB.out | apply below_alloc | apply pw_below_drewN | apply below_drew1 | refine below_set ?_ (IsS73.ge HI251.out) | refine below_set ?_ GE246.out) | exact HB.out)); rintro e w45 ⟨rfl, hi, hb, hk⟩; refine ⟨_, rfl, ?_⟩; have n0_ := m_ (KeepBut.blk hk (g' := gb246) (o := .cells #[.bool false, .int .i64 0, .int .i64 0, .string (⟨#[]⟩ : ByteArray)] 39 (0, 0)) (kN BK246.out) NB246_251.out (by simp)); have n1_ := m_ (hb); have n2_ := m_ (hi); clear BK246; clear HB; clear HI251; have BK246 := n0_; have HB := n1_; have HI251 := n2_; clear n0_ n1_ n2_; (try clear hb); (try clear hb2); (try clear hk); (try clear hi)) | ((with_reducible refine gate_callee (f := 36) rfl ?_); refine goesL_ (some 31) rfl rfl Tryd.func36 (by kernel_rfl) rfl #[.pointer (some ⟨g251, 0, none⟩), .int .i64 2] rfl gl_ ?_; (with_reducible refine (impl_reader_number.calls kj2 g251 t258 t259 t260 t261 2 t262 t263 t264 t265 t266 w _ ?side1 ?side2 A13.out).mono ?_); (case side1 => repeat (first | (with_reducible first | exact HI251.out | apply IsS73.alloc | apply IsS73.drewN | apply IsS73.drew | apply IsS73.set_0 | apply IsS73.set_1 | apply IsS73.set_2 | apply IsS73.set_3 | refine IsS73.far ?_ NB251_246.out _) | exact HI251.out)); (case side2 => repeat (first | (with_reducible first | exact HB.out | apply below_alloc | apply pw_below_drewN | apply below_drew1 | refine below_set ?_ (IsS73.ge HI251.out) | refine below_set ?_ GE246.out) | exact HB.out)); rintro e w46 ⟨rfl, hi, hb, hk⟩; refine ⟨_, rfl, ?_⟩; have n0_ := m_ (KeepBut.blk hk (g' := gb246) (o := .cells #[.bool false, .int .i64 0, .int .i64 0, .string (⟨#[]⟩ : ByteArray)] 39 (0, 0)) (kN BK246.out) NB246_251.out (by simp)); have n1_ := m_ (hb); have n2_ := m_ (hi); clear BK246; clear HB; clear HI251; have BK246 := n0_; have HB := n1_; have HI251 := n2_; clear n0_ n1_ n2_; (try clear hb); (try clear hb2); (try clear hk); (try clear hi)) | ((with_reducible refine gate_callee (f := 37) rfl ?_); refine goesL_ (some 35) rfl rfl Tryd.func37 (by kernel_rfl) rfl #[.pointer (some ⟨g251, 0, none⟩), .int .i64 (wrap64 (t262 + 1))] rfl gl_ ?_; (with_reducible refine (impl_reader_take.calls g251 t263 t264 t265 t266 (wrap64 (t262 + 1)) t267 t268 t269 t270 false w _ ?side1 ?side2 A14.out).mono ?_); (case side1 => repeat (first | (with_reducible first | exact HI251.out | apply IsS73.alloc | apply IsS73.drewN | apply IsS73.drew | apply IsS73.set_0 | apply IsS73.set_1 | apply IsS73.set_2 | apply IsS73.set_3 | refine IsS73.far ?_ NB251_246.out _) | exact HI251.out)); (case side2 => repeat (first | (with_reducible first | exact HB.out | apply below_alloc | apply pw_below_drewN | apply below_drew1 | refine below_set ?_ (IsS73.ge HI251.out) | refine below_set ?_ GE246.out) | exact HB.out)); rintro e w47 ⟨rfl, hi, hb, hk⟩; refine ⟨_, rfl, ?_⟩; have n0_ := m_ (KeepBut.blk hk (g' := gb246) (o := .cells #[.bool false, .int .i64 0, .int .i64 0, .string (⟨#[]⟩ : ByteArray)] 39 (0, 0)) (kN BK246.out) NB246_251.out (by simp)); have n1_ := m_ (hb); have n2_ := m_ (hi); clear BK246; clear HB; clear HI251; have BK246 := n0_; have HB := n1_; have HI251 := n2_; clear n0_ n1_ n2_; (try clear hb); (try clear hb2); (try clear hk); (try clear hi); obtain ⟨HGz48, hgz48⟩ := HI251.out; have hcz48_0 := cellS73_0 HGz48; have hcz48_1 := cellS73_1 HGz48; have hcz48_2 := cellS73_2 HGz48; have hcz48_3 := cellS73_3 HGz48; have hfz48_0 := blk_frozen HGz48 0; have hfz48_1 := blk_frozen HGz48 1; have hfz48_2 := blk_frozen HGz48 2; have hfz48_3 := blk_frozen HGz48 3; clear HGz48 hgz48) | ((with_reducible refine gate_dst (N := 11) rfl ?_); (try (refine gate_guard (by rfl) ?_; dsimp only)); refine box_event ?hg (N := 11) ?hd (cs := #[.bool false, .int .i64 0, .int .i64 0, .string (⟨#[]⟩ : ByteArray)]) (t := 39) ?hr ?_; (case hd => rfl); (case hg => rfl); (case hr => first | (go_simp; done) | (go_simp; rfl)); intro gb272 hg w49 hbox hb; have n0_ := m_ (blk_below (g := gb246) (o := .cells #[.bool false, .int .i64 0, .int .i64 0, .string (⟨#[]⟩ : ByteArray)] 39 (0, 0)) (kN BK246.out) hb); have n1_ := m_ (IsS73.below (by repeat (first | (with_reducible first | exact HI251.out | apply IsS73.alloc | apply IsS73.drewN | apply IsS73.drew | apply IsS73.set_0 | apply IsS73.set_1 | apply IsS73.set_2 | apply IsS73.set_3 | refine IsS73.far ?_ NB251_246.out _) | exact HI251.out)) hb); have n2_ := m_ (below_step (by repeat (first | (with_reducible first | exact HB.out | apply below_alloc | apply pw_below_drewN | apply below_drew1 | refine below_set ?_ (IsS73.ge HI251.out) | refine below_set ?_ GE246.out) | exact HB.out)) hb); have n3_ := m_ (hbox); have n4_ := m_ ((by rw [hg]; exact (below_size (by repeat (first | (with_reducible first | exact HB.out | apply below_alloc | apply pw_below_drewN | apply below_drew1 | refine below_set ?_ (IsS73.ge HI251.out) | refine below_set ?_ GE246.out) | exact HB.out))) : w.heap.size ≤ gb272)); have n5_ := m_ ((by rw [hg]; exact (below_size (by repeat (first | (with_reducible first | exact HB.out | apply below_alloc | apply pw_below_drewN | apply below_drew1 | refine below_set ?_ (IsS73.ge HI251.out) | refine below_set ?_ GE246.out) | exact HB.out))) : w.heap.size ≤ gb272)); have n6_ := m_ ((by rw [hg]; exact Nat.ne_of_lt (blk_lt (g := gb246) (o := .cells #[.bool false, .int .i64 0, .int .i64 0, .string (⟨#[]⟩ : ByteArray)] 39 (0, 0)) (kN BK246.out)) : gb246 ≠ gb272)); have n7_ := m_ ((by rw [hg]; exact Nat.ne_of_gt (blk_lt (g := gb246) (o := .cells #[.bool false, .int .i64 0, .int .i64 0, .string (⟨#[]⟩ : ByteArray)] 39 (0, 0)) (kN BK246.out)) : gb272 ≠ gb246)); have n8_ := m_ ((by rw [hg]; exact Nat.ne_of_lt (IsS73.lt (show IsS73 w _ g251 t268 t269 t270 false from by repeat (first | (with_reducible first | exact HI251.out | apply IsS73.alloc | apply IsS73.drewN | apply IsS73.drew | apply IsS73.set_0 | apply IsS73.set_1 | apply IsS73.set_2 | apply IsS73.set_3 | refine IsS73.far ?_ NB251_246.out _) | exact HI251.out))) : g251 ≠ gb272)); have n9_ := m_ ((by rw [hg]; exact Nat.ne_of_gt (IsS73.lt (show IsS73 w _ g251 t268 t269 t270 false from by repeat (first | (with_reducible first | exact HI251.out | apply IsS73.alloc | apply IsS73.drewN | apply IsS73.drew | apply IsS73.set_0 | apply IsS73.set_1 | apply IsS73.set_2 | apply IsS73.set_3 | refine IsS73.far ?_ NB251_246.out _) | exact HI251.out))) : gb272 ≠ g251)); clear BK246; clear HI251; clear HB; have BK246 := n0_; have HI251 := n1_; have HB := n2_; have BK272 := n3_; have GW272 := n4_; have GE272 := n5_; have NB246_272 := n6_; have NB272_246 := n7_; have NB251_272 := n8_; have NB272_251 := n9_; clear n0_ n1_ n2_ n3_ n4_ n5_ n6_ n7_ n8_ n9_; clear hb hbox hg; have hnb50 := NB272_246.out; have hnc50 := NB246_272.out; have hnb51 := NB272_251.out; have hnc51 := NB251_272.out; have hcz52_0 : w49.cell? ⟨gb272, 0, none⟩ = some (.bool false) := bc BK272 0; have hcz52_1 : w49.cell? ⟨gb272, 1, none⟩ = some (.int .i64 0) := bc BK272 1; have hcz52_2 : w49.cell? ⟨gb272, 2, none⟩ = some (.int .i64 0) := bc BK272 2; have hcz52_3 : w49.cell? ⟨gb272, 3, none⟩ = some (.string (⟨#[]⟩ : ByteArray)) := bc BK272 3; have hfz52_0 := blk_frozen BK272.out 0; have hfz52_1 := blk_frozen BK272.out 1; have hfz52_2 := blk_frozen BK272.out 2; have hfz52_3 := blk_frozen BK272.out 3) | ((with_reducible refine gate_callee (f := 13) rfl ?_); refine goesL_ (some 51) rfl rfl Tryd.func13 (by kernel_rfl) rfl #[.agg #[.bool ((Go.bits .and .i64 t252 4096) != 0), .int .i64 (Go.bits .and .i64 t252 2047), .int .i64 (wrap64 (t257 - 49152)), .string t267]] rfl gl_ ?_; (with_reducible refine (impl_PacketPut.calls kj2 ((Go.bits .and .i64 t252 4096) != 0) (Go.bits .and .i64 t252 2047) (wrap64 (t257 - 49152)) t267 t273 _ A24.out).mono ?_); rintro e w53 ⟨rfl, hb⟩; refine ⟨_, rfl, ?_⟩; have n0_ := m_ (blk_below (g := gb246) (o := .cells #[.bool false, .int .i64 0, .int .i64 0, .string (⟨#[]⟩ : ByteArray)] 39 (0, 0)) (kF BK246.out NB246_272.out) hb); have n1_ := m_ (IsS73.below (show IsS73 w ((((w49.setCell ⟨gb272, 0, none⟩ (.bool ((Go.bits .and .i64 t252 4096) != 0))).setCell ⟨gb272, 1, none⟩ (.int .i64 (Go.bits .and .i64 t252 2047))).setCell ⟨gb272, 2, none⟩ (.int .i64 (wrap64 (t257 - 49152)))).setCell ⟨gb272, 3, none⟩ (.string t267)) g251 t268 t269 t270 false from by repeat (first | (with_reducible first | exact HI251.out | apply IsS73.alloc | apply IsS73.drewN | apply IsS73.drew | apply IsS73.set_0 | apply IsS73.set_1 | apply IsS73.set_2 | apply IsS73.set_3 | refine IsS73.far ?_ NB251_246.out _ | refine IsS73.far ?_ NB251_272.out _) | exact HI251.out)) hb); have n2_ := m_ (blk_below (g := gb272) (o := .cells #[.bool ((Go.bits .and .i64 t252 4096) != 0), .int .i64 (Go.bits .and .i64 t252 2047), .int .i64 (wrap64 (t257 - 49152)), .string t267] 39 (0, 0)) (kP BK272.out) hb); have n3_ := m_ (below_step (by repeat (first | (with_reducible first | exact HB.out | apply below_alloc | apply pw_below_drewN | apply below_drew1 | refine below_set ?_ (IsS73.ge HI251.out) | refine below_set ?_ GE246.out | refine below_set ?_ GE272.out) | exact HB.out)) hb); clear BK246; clear HI251; clear BK272; clear HB; have BK246 := n0_; have HI251 := n1_; have BK272 := n2_; have HB := n3_; clear n0_ n1_ n2_ n3_; (try clear hb); (try clear hb2); (try clear hk); (try clear hi)) | (go_at_call 38; (with_reducible refine (strings_HasPrefix.calls (a0.extract (a1 : Int).toNat a0.size) t273 true _ A41.out).mono ?_); rintro e w' ⟨rfl, ⟨nd, rfl⟩⟩; (try (rw [drewN_self w53]; generalize hq_ : World.drewN w53 _ = w53; have n0_ : Aside0 (w53.heap[gb246]? = some (.cells #[.bool false, .int .i64 0, .int .i64 0, .string (⟨#[]⟩ : ByteArray)] 39 (0, 0))) := ⟨by rw [← hq_]; exact (kN BK246.out)⟩; have n1_ : Aside0 (w53.heap[gb272]? = some (.cells #[.bool ((Go.bits .and .i64 t252 4096) != 0), .int .i64 (Go.bits .and .i64 t252 2047), .int .i64 (wrap64 (t257 - 49152)), .string t267] 39 (0, 0))) := ⟨by rw [← hq_]; exact (kN BK272.out)⟩; have n2_ : Aside0 (IsS73 w w53 g251 t268 t269 t270 false) := ⟨by rw [← hq_]; exact (by repeat (first | (with_reducible first | exact HI251.out | apply IsS73.alloc | apply IsS73.drewN | apply IsS73.drew | apply IsS73.set_0 | apply IsS73.set_1 | apply IsS73.set_2 | apply IsS73.set_3 | refine IsS73.far ?_ NB251_246.out _ | refine IsS73.far ?_ NB251_272.out _) | exact HI251.out))⟩; have n3_ : Aside0 (Below w.heap.size w w53) := ⟨by rw [← hq_]; exact (by repeat (first | (with_reducible first | exact HB.out | apply below_alloc | apply pw_below_drewN | apply below_drew1 | refine below_set ?_ (IsS73.ge HI251.out) | refine below_set ?_ GE246.out | refine below_set ?_ GE272.out) | exact HB.out))⟩; clear BK246 BK272 HI251 HB hq_; have BK246 := n0_; have BK272 := n1_; have HI251 := n2_; have HB := n3_; clear n0_ n1_ n2_ n3_)); have hcz54_0 : w53.cell? ⟨gb272, 0, none⟩ = some (.bool ((Go.bits .and .i64 t252 4096) != 0)) := bc BK272 0; have hcz54_1 : w53.cell? ⟨gb272, 1, none⟩ = some (.int .i64 (Go.bits .and .i64 t252 2047)) := bc BK272 1; have hcz54_2 : w53.cell? ⟨gb272, 2, none⟩ = some (.int .i64 (wrap64 (t257 - 49152))) := bc BK272 2; have hcz54_3 : w53.cell? ⟨gb272, 3, none⟩ = some (.string t267) := bc BK272 3; have hfz54_0 := blk_frozen BK272.out 0; have hfz54_1 := blk_frozen BK272.out 1; have hfz54_2 := blk_frozen BK272.out 2; have hfz54_3 := blk_frozen BK272.out 3; have hnb55 := NB246_251.out; have hnc55 := NB251_246.out; have hcz56_0 : w53.cell? ⟨gb246, 0, none⟩ = some (.bool false) := bc BK246 0; have hcz56_1 : w53.cell? ⟨gb246, 1, none⟩ = some (.int .i64 0) := bc BK246 1; have hcz56_2 : w53.cell? ⟨gb246, 2, none⟩ = some (.int .i64 0) := bc BK246 2; have hcz56_3 : w53.cell? ⟨gb246, 3, none⟩ = some (.string (⟨#[]⟩ : ByteArray)) := bc BK246 3; have hfz56_0 := blk_frozen BK246.out 0; have hfz56_1 := blk_frozen BK246.out 1; have hfz56_2 := blk_frozen BK246.out 2; have hfz56_3 := blk_frozen BK246.out 3))
         refine bodyPost_ret (results_ct rfl _ _ gb246 39 #[.bool ((Go.bits .and .i64 t252 4096) != 0), .int .i64 (Go.bits .and .i64 t252 2047), .int .i64 (wrap64 (t257 - 49152)), .string t267] (0, 0) _ rfl (kP BK246.out) Tryd.underlying39 rfl (by kernel_rfl)) rfl ?_
         exact ⟨by first | rfl | (simp [errW_none, errW_some] <;> rfl) | (simp [*, errW_none, errW_some] <;> rfl), by repeat (first | (with_reducible first | exact HB.out | apply below_alloc | apply pw_below_drewN | apply below_drew1 | refine below_set ?_ (IsS73.ge HI251.out) | refine below_set ?_ GE246.out | refine below_set ?_ GE272.out) | exact HB.out)⟩
        ·replace c42 := Bool.eq_false_iff.mpr c42
         subst c42
         have H1 : (some (false, 0, 0, (⟨#[]⟩ : ByteArray), 0)) = some (r1, r2, r3, r4, r5) := by rw [if_neg (show ¬ (false = true) by decide)] at H; exact H
         clear H
         have H := H1
         clear H1
         simp only [Option.some.injEq, Prod.mk.injEq] at H
         obtain ⟨rfl, rfl, rfl, rfl, rfl⟩ := H
         go_wp2_with (first | ((with_reducible refine gate_callee (f := 35) rfl ?_); refine goesL_ (some 25) rfl rfl Tryd.func35 (by kernel_rfl) rfl #[.string (a0.extract (a1 : Int).toNat a0.size)] rfl gl_ ?_; (with_reducible refine (impl_readerOf.calls (a0.extract (a1 : Int).toNat a0.size) t247 t248 t249 t250 w _ ?side1 A10.out).mono ?_); (case side1 => repeat (first | (with_reducible first | exact HB.out | apply below_alloc | apply pw_below_drewN | apply below_drew1 | refine below_set ?_ GE246.out) | exact HB.out)); rintro e w57 ⟨g251, rfl, hi, hb, hb2⟩; refine ⟨_, rfl, ?_⟩; have n0_ := m_ (blk_below (g := gb246) (o := .cells #[.bool false, .int .i64 0, .int .i64 0, .string (⟨#[]⟩ : ByteArray)] 39 (0, 0)) (kN BK246.out) hb2); have n1_ := m_ (hb); have n2_ := m_ (hi); have n3_ := m_ (IsS73.ne_blk hi (blk_below (g := gb246) (o := .cells #[.bool false, .int .i64 0, .int .i64 0, .string (⟨#[]⟩ : ByteArray)] 39 (0, 0)) (kN BK246.out) hb2) (by decide)); have n4_ := m_ (Ne.symm (IsS73.ne_blk hi (blk_below (g := gb246) (o := .cells #[.bool false, .int .i64 0, .int .i64 0, .string (⟨#[]⟩ : ByteArray)] 39 (0, 0)) (kN BK246.out) hb2) (by decide))); clear BK246; clear HB; have BK246 := n0_; have HB := n1_; have HI251 := n2_; have NB251_246 := n3_; have NB246_251 := n4_; clear n0_ n1_ n2_ n3_ n4_; (try clear hb); (try clear hb2); (try clear hk); (try clear hi)) | ((with_reducible refine gate_callee (f := 36) rfl ?_); refine goesL_ (some 27) rfl rfl Tryd.func36 (by kernel_rfl) rfl #[.pointer (some ⟨g251, 0, none⟩), .int .i64 2] rfl gl_ ?_; (with_reducible refine (impl_reader_number.calls kj2 g251 t247 t248 t249 t250 2 t252 t253 t254 t255 t256 w _ ?side1 ?side2 A11.out).mono ?_); (case side1 => repeat (first | (with_reducible first | exact HI251.out | apply IsS73.alloc | apply IsS73.drewN | apply IsS73.drew | apply IsS73.set_0 | apply IsS73.set_1 | apply IsS73.set_2 | apply IsS73.set_3 | refine IsS73.far ?_ NB251_246.out _) | exact HI251.out)); (case side2 => repeat (first | (with_reducible first | exact HB.out | apply below_alloc | apply pw_below_drewN | apply below_drew1 | refine below_set ?_ (IsS73.ge HI251.out) | refine below_set ?_ GE246.out) | exact HB.out)); rintro e w58 ⟨rfl, hi, hb, hk⟩; refine ⟨_, rfl, ?_⟩; have n0_ := m_ (KeepBut.blk hk (g' := gb246) (o := .cells #[.bool false, .int .i64 0, .int .i64 0, .string (⟨#[]⟩ : ByteArray)] 39 (0, 0)) (kN BK246.out) NB246_251.out (by simp)); have n1_ := m_ (hb); have n2_ := m_ (hi); clear BK246; clear HB; clear HI251; have BK246 := n0_; have HB := n1_; have HI251 := n2_; clear n0_ n1_ n2_; (try clear hb); (try clear hb2); (try clear hk); (try clear hi)) | ((with_reducible refine gate_callee (f := 36) rfl ?_); refine goesL_ (some 29) rfl rfl Tryd.func36 (by kernel_rfl) rfl #[.pointer (some ⟨g251, 0, none⟩), .int .i64 2] rfl gl_ ?_; (with_reducible refine (impl_reader_number.calls kj2 g251 t253 t254 t255 t256 2 t257 t258 t259 t260 t261 w _ ?side1 ?side2 A12.out).mono ?_); (case side1 => repeat (first | (with_reducible first | exact HI251.out | apply IsS73.alloc | apply IsS73.drewN | apply IsS73.drew | apply IsS73.set_0 | apply IsS73.set_1 | apply IsS73.set_2 | apply IsS73.set_3 | refine IsS73.far ?_ NB251_246.out _) | exact HI251.out)); (case side2 => repeat (first | (with_reducible first | exact HB.out | apply below_alloc | apply pw_below_drewN | apply below_drew1 | refine below_set ?_ (IsS73.ge HI251.out) | refine below_set ?_ GE246.out) | exact HB.out)); rintro e w59 ⟨rfl, hi, hb, hk⟩; refine ⟨_, rfl, ?_⟩; have n0_ := m_ (KeepBut.blk hk (g' := gb246) (o := .cells #[.bool false, .int .i64 0, .int .i64 0, .string (⟨#[]⟩ : ByteArray)] 39 (0, 0)) (kN BK246.out) NB246_251.out (by simp)); have n1_ := m_ (hb); have n2_ := m_ (hi); clear BK246; clear HB; clear HI251; have BK246 := n0_; have HB := n1_; have HI251 := n2_; clear n0_ n1_ n2_; (try clear hb); (try clear hb2); (try clear hk); (try clear hi)) | ((with_reducible refine gate_callee (f := 36) rfl ?_); refine goesL_ (some 31) rfl rfl Tryd.func36 (by kernel_rfl) rfl #[.pointer (some ⟨g251, 0, none⟩), .int .i64 2] rfl gl_ ?_; (with_reducible refine (impl_reader_number.calls kj2 g251 t258 t259 t260 t261 2 t262 t263 t264 t265 t266 w _ ?side1 ?side2 A13.out).mono ?_); (case side1 => repeat (first | (with_reducible first | exact HI251.out | apply IsS73.alloc | apply IsS73.drewN | apply IsS73.drew | apply IsS73.set_0 | apply IsS73.set_1 | apply IsS73.set_2 | apply IsS73.set_3 | refine IsS73.far ?_ NB251_246.out _) | exact HI251.out)); (case side2 => repeat (first | (with_reducible first | exact HB.out | apply below_alloc | apply pw_below_drewN | apply below_drew1 | refine below_set ?_ (IsS73.ge HI251.out) | refine below_set ?_ GE246.out) | exact HB.out)); rintro e w60 ⟨rfl, hi, hb, hk⟩; refine ⟨_, rfl, ?_⟩; have n0_ := m_ (KeepBut.blk hk (g' := gb246) (o := .cells #[.bool false, .int .i64 0, .int .i64 0, .string (⟨#[]⟩ : ByteArray)] 39 (0, 0)) (kN BK246.out) NB246_251.out (by simp)); have n1_ := m_ (hb); have n2_ := m_ (hi); clear BK246; clear HB; clear HI251; have BK246 := n0_; have HB := n1_; have HI251 := n2_; clear n0_ n1_ n2_; (try clear hb); (try clear hb2); (try clear hk); (try clear hi)) | ((with_reducible refine gate_callee (f := 37) rfl ?_); refine goesL_ (some 35) rfl rfl Tryd.func37 (by kernel_rfl) rfl #[.pointer (some ⟨g251, 0, none⟩), .int .i64 (wrap64 (t262 + 1))] rfl gl_ ?_; (with_reducible refine (impl_reader_take.calls g251 t263 t264 t265 t266 (wrap64 (t262 + 1)) t267 t268 t269 t270 false w _ ?side1 ?side2 A14.out).mono ?_); (case side1 => repeat (first | (with_reducible first | exact HI251.out | apply IsS73.alloc | apply IsS73.drewN | apply IsS73.drew | apply IsS73.set_0 | apply IsS73.set_1 | apply IsS73.set_2 | apply IsS73.set_3 | refine IsS73.far ?_ NB251_246.out _) | exact HI251.out)); (case side2 => repeat (first | (with_reducible first | exact HB.out | apply below_alloc | apply pw_below_drewN | apply below_drew1 | refine below_set ?_ (IsS73.ge HI251.out) | refine below_set ?_ GE246.out) | exact HB.out)); rintro e w61 ⟨rfl, hi, hb, hk⟩; refine ⟨_, rfl, ?_⟩; have n0_ := m_ (KeepBut.blk hk (g' := gb246) (o := .cells #[.bool false, .int .i64 0, .int .i64 0, .string (⟨#[]⟩ : ByteArray)] 39 (0, 0)) (kN BK246.out) NB246_251.out (by simp)); have n1_ := m_ (hb); have n2_ := m_ (hi); clear BK246; clear HB; clear HI251; have BK246 := n0_; have HB := n1_; have HI251 := n2_; clear n0_ n1_ n2_; (try clear hb); (try clear hb2); (try clear hk); (try clear hi); obtain ⟨HGz62, hgz62⟩ := HI251.out; have hcz62_0 := cellS73_0 HGz62; have hcz62_1 := cellS73_1 HGz62; have hcz62_2 := cellS73_2 HGz62; have hcz62_3 := cellS73_3 HGz62; have hfz62_0 := blk_frozen HGz62 0; have hfz62_1 := blk_frozen HGz62 1; have hfz62_2 := blk_frozen HGz62 2; have hfz62_3 := blk_frozen HGz62 3; clear HGz62 hgz62) | ((with_reducible refine gate_dst (N := 11) rfl ?_); (try (refine gate_guard (by rfl) ?_; dsimp only)); refine box_event ?hg (N := 11) ?hd (cs := #[.bool false, .int .i64 0, .int .i64 0, .string (⟨#[]⟩ : ByteArray)]) (t := 39) ?hr ?_; (case hd => rfl); (case hg => rfl); (case hr => first | (go_simp; done) | (go_simp; rfl)); intro gb272 hg w63 hbox hb; have n0_ := m_ (blk_below (g := gb246) (o := .cells #[.bool false, .int .i64 0, .int .i64 0, .string (⟨#[]⟩ : ByteArray)] 39 (0, 0)) (kN BK246.out) hb); have n1_ := m_ (IsS73.below (by repeat (first | (with_reducible first | exact HI251.out | apply IsS73.alloc | apply IsS73.drewN | apply IsS73.drew | apply IsS73.set_0 | apply IsS73.set_1 | apply IsS73.set_2 | apply IsS73.set_3 | refine IsS73.far ?_ NB251_246.out _) | exact HI251.out)) hb); have n2_ := m_ (below_step (by repeat (first | (with_reducible first | exact HB.out | apply below_alloc | apply pw_below_drewN | apply below_drew1 | refine below_set ?_ (IsS73.ge HI251.out) | refine below_set ?_ GE246.out) | exact HB.out)) hb); have n3_ := m_ (hbox); have n4_ := m_ ((by rw [hg]; exact (below_size (by repeat (first | (with_reducible first | exact HB.out | apply below_alloc | apply pw_below_drewN | apply below_drew1 | refine below_set ?_ (IsS73.ge HI251.out) | refine below_set ?_ GE246.out) | exact HB.out))) : w.heap.size ≤ gb272)); have n5_ := m_ ((by rw [hg]; exact (below_size (by repeat (first | (with_reducible first | exact HB.out | apply below_alloc | apply pw_below_drewN | apply below_drew1 | refine below_set ?_ (IsS73.ge HI251.out) | refine below_set ?_ GE246.out) | exact HB.out))) : w.heap.size ≤ gb272)); have n6_ := m_ ((by rw [hg]; exact Nat.ne_of_lt (blk_lt (g := gb246) (o := .cells #[.bool false, .int .i64 0, .int .i64 0, .string (⟨#[]⟩ : ByteArray)] 39 (0, 0)) (kN BK246.out)) : gb246 ≠ gb272)); have n7_ := m_ ((by rw [hg]; exact Nat.ne_of_gt (blk_lt (g := gb246) (o := .cells #[.bool false, .int .i64 0, .int .i64 0, .string (⟨#[]⟩ : ByteArray)] 39 (0, 0)) (kN BK246.out)) : gb272 ≠ gb246)); have n8_ := m_ ((by rw [hg]; exact Nat.ne_of_lt (IsS73.lt (show IsS73 w _ g251 t268 t269 t270 false from by repeat (first | (with_reducible first | exact HI251.out | apply IsS73.alloc | apply IsS73.drewN | apply IsS73.drew | apply IsS73.set_0 | apply IsS73.set_1 | apply IsS73.set_2 | apply IsS73.set_3 | refine IsS73.far ?_ NB251_246.out _) | exact HI251.out))) : g251 ≠ gb272)); have n9_ := m_ ((by rw [hg]; exact Nat.ne_of_gt (IsS73.lt (show IsS73 w _ g251 t268 t269 t270 false from by repeat (first | (with_reducible first | exact HI251.out | apply IsS73.alloc | apply IsS73.drewN | apply IsS73.drew | apply IsS73.set_0 | apply IsS73.set_1 | apply IsS73.set_2 | apply IsS73.set_3 | refine IsS73.far ?_ NB251_246.out _) | exact HI251.out))) : gb272 ≠ g251)); clear BK246; clear HI251; clear HB; have BK246 := n0_; have HI251 := n1_; have HB := n2_; have BK272 := n3_; have GW272 := n4_; have GE272 := n5_; have NB246_272 := n6_; have NB272_246 := n7_; have NB251_272 := n8_; have NB272_251 := n9_; clear n0_ n1_ n2_ n3_ n4_ n5_ n6_ n7_ n8_ n9_; clear hb hbox hg; have hnb64 := NB272_246.out; have hnc64 := NB246_272.out; have hnb65 := NB272_251.out; have hnc65 := NB251_272.out; have hcz66_0 : w63.cell? ⟨gb272, 0, none⟩ = some (.bool false) := bc BK272 0; have hcz66_1 : w63.cell? ⟨gb272, 1, none⟩ = some (.int .i64 0) := bc BK272 1; have hcz66_2 : w63.cell? ⟨gb272, 2, none⟩ = some (.int .i64 0) := bc BK272 2; have hcz66_3 : w63.cell? ⟨gb272, 3, none⟩ = some (.string (⟨#[]⟩ : ByteArray)) := bc BK272 3; have hfz66_0 := blk_frozen BK272.out 0; have hfz66_1 := blk_frozen BK272.out 1; have hfz66_2 := blk_frozen BK272.out 2; have hfz66_3 := blk_frozen BK272.out 3) | ((with_reducible refine gate_callee (f := 13) rfl ?_); refine goesL_ (some 51) rfl rfl Tryd.func13 (by kernel_rfl) rfl #[.agg #[.bool ((Go.bits .and .i64 t252 4096) != 0), .int .i64 (Go.bits .and .i64 t252 2047), .int .i64 (wrap64 (t257 - 49152)), .string t267]] rfl gl_ ?_; (with_reducible refine (impl_PacketPut.calls kj2 ((Go.bits .and .i64 t252 4096) != 0) (Go.bits .and .i64 t252 2047) (wrap64 (t257 - 49152)) t267 t273 _ A24.out).mono ?_); rintro e w67 ⟨rfl, hb⟩; refine ⟨_, rfl, ?_⟩; have n0_ := m_ (blk_below (g := gb246) (o := .cells #[.bool false, .int .i64 0, .int .i64 0, .string (⟨#[]⟩ : ByteArray)] 39 (0, 0)) (kF BK246.out NB246_272.out) hb); have n1_ := m_ (IsS73.below (show IsS73 w ((((w63.setCell ⟨gb272, 0, none⟩ (.bool ((Go.bits .and .i64 t252 4096) != 0))).setCell ⟨gb272, 1, none⟩ (.int .i64 (Go.bits .and .i64 t252 2047))).setCell ⟨gb272, 2, none⟩ (.int .i64 (wrap64 (t257 - 49152)))).setCell ⟨gb272, 3, none⟩ (.string t267)) g251 t268 t269 t270 false from by repeat (first | (with_reducible first | exact HI251.out | apply IsS73.alloc | apply IsS73.drewN | apply IsS73.drew | apply IsS73.set_0 | apply IsS73.set_1 | apply IsS73.set_2 | apply IsS73.set_3 | refine IsS73.far ?_ NB251_246.out _ | refine IsS73.far ?_ NB251_272.out _) | exact HI251.out)) hb); have n2_ := m_ (blk_below (g := gb272) (o := .cells #[.bool ((Go.bits .and .i64 t252 4096) != 0), .int .i64 (Go.bits .and .i64 t252 2047), .int .i64 (wrap64 (t257 - 49152)), .string t267] 39 (0, 0)) (kP BK272.out) hb); have n3_ := m_ (below_step (by repeat (first | (with_reducible first | exact HB.out | apply below_alloc | apply pw_below_drewN | apply below_drew1 | refine below_set ?_ (IsS73.ge HI251.out) | refine below_set ?_ GE246.out | refine below_set ?_ GE272.out) | exact HB.out)) hb); clear BK246; clear HI251; clear BK272; clear HB; have BK246 := n0_; have HI251 := n1_; have BK272 := n2_; have HB := n3_; clear n0_ n1_ n2_ n3_; (try clear hb); (try clear hb2); (try clear hk); (try clear hi)) | (go_at_call 38; (with_reducible refine (strings_HasPrefix.calls (a0.extract (a1 : Int).toNat a0.size) t273 false _ A41.out).mono ?_); rintro e w' ⟨rfl, ⟨nd, rfl⟩⟩; (try (rw [drewN_self w67]; generalize hq_ : World.drewN w67 _ = w67; have n0_ : Aside0 (w67.heap[gb246]? = some (.cells #[.bool false, .int .i64 0, .int .i64 0, .string (⟨#[]⟩ : ByteArray)] 39 (0, 0))) := ⟨by rw [← hq_]; exact (kN BK246.out)⟩; have n1_ : Aside0 (w67.heap[gb272]? = some (.cells #[.bool ((Go.bits .and .i64 t252 4096) != 0), .int .i64 (Go.bits .and .i64 t252 2047), .int .i64 (wrap64 (t257 - 49152)), .string t267] 39 (0, 0))) := ⟨by rw [← hq_]; exact (kN BK272.out)⟩; have n2_ : Aside0 (IsS73 w w67 g251 t268 t269 t270 false) := ⟨by rw [← hq_]; exact (by repeat (first | (with_reducible first | exact HI251.out | apply IsS73.alloc | apply IsS73.drewN | apply IsS73.drew | apply IsS73.set_0 | apply IsS73.set_1 | apply IsS73.set_2 | apply IsS73.set_3 | refine IsS73.far ?_ NB251_246.out _ | refine IsS73.far ?_ NB251_272.out _) | exact HI251.out))⟩; have n3_ : Aside0 (Below w.heap.size w w67) := ⟨by rw [← hq_]; exact (by repeat (first | (with_reducible first | exact HB.out | apply below_alloc | apply pw_below_drewN | apply below_drew1 | refine below_set ?_ (IsS73.ge HI251.out) | refine below_set ?_ GE246.out | refine below_set ?_ GE272.out) | exact HB.out))⟩; clear BK246 BK272 HI251 HB hq_; have BK246 := n0_; have BK272 := n1_; have HI251 := n2_; have HB := n3_; clear n0_ n1_ n2_ n3_)); have hnb68 := NB246_251.out; have hnc68 := NB251_246.out; have hcz69_0 : w67.cell? ⟨gb246, 0, none⟩ = some (.bool false) := bc BK246 0; have hcz69_1 : w67.cell? ⟨gb246, 1, none⟩ = some (.int .i64 0) := bc BK246 1; have hcz69_2 : w67.cell? ⟨gb246, 2, none⟩ = some (.int .i64 0) := bc BK246 2; have hcz69_3 : w67.cell? ⟨gb246, 3, none⟩ = some (.string (⟨#[]⟩ : ByteArray)) := bc BK246 3; have hfz69_0 := blk_frozen BK246.out 0; have hfz69_1 := blk_frozen BK246.out 1; have hfz69_2 := blk_frozen BK246.out 2; have hfz69_3 := blk_frozen BK246.out 3))
         refine bodyPost_ret (results_ct rfl _ _ gb246 39 #[.bool false, .int .i64 0, .int .i64 0, .string (⟨#[]⟩ : ByteArray)] (0, 0) _ rfl (kP BK246.out) Tryd.underlying39 rfl (by kernel_rfl)) rfl ?_
         exact ⟨by first | rfl | (simp [errW_none, errW_some] <;> rfl) | (simp [*, errW_none, errW_some] <;> rfl), by repeat (first | (with_reducible first | exact HB.out | apply below_alloc | apply pw_below_drewN | apply below_drew1 | refine below_set ?_ (IsS73.ge HI251.out) | refine below_set ?_ GE246.out | refine below_set ?_ GE272.out) | exact HB.out)⟩
     ·rw [if_neg c9] at H
      exact absurd H (by simp)
    ·rw [if_neg c8] at H
     exact absurd H (by simp)

/-! ### impl_packetOnly: function 18 -/
def impl_packetOnly.f (k : Nat) (a0 : ByteArray) : Option (Bool × Int × Int × ByteArray × Bool) := (impl_PacketGet.f k a0 0).bind fun bt276 => (if bt276.2.2.2.2 = 0 then (some (false, 0, 0, (⟨#[]⟩ : ByteArray), false)) else (if bt276.2.2.2.2 = (a0.size : Int) then (some (bt276.1, bt276.2.1, bt276.2.2.1, bt276.2.2.2.1, true)) else (some (false, 0, 0, (⟨#[]⟩ : ByteArray), false))))
theorem impl_packetOnly.mono : ∀ a0 k, LeO (impl_packetOnly.f k a0) (impl_packetOnly.f (k + 1) a0) := by
 intro a0 k
 unfold impl_packetOnly.f
 repeat' first
   | (with_reducible exact impl_PacketGet.mono _ _ _)
   | (with_reducible exact LeO.refl _)
   | (with_reducible exact LeO.none _)
   | (with_reducible refine LeO.ite ?_ ?_)
   | (with_reducible refine LeO.bind ?_ (fun _ => ?_))
   | exact impl_PacketGet.mono _ _ _
   | exact LeO.none _
   | refine LeO.ite ?_ ?_
   | refine LeO.bind ?_ (fun _ => ?_)
set_option maxHeartbeats 8000000 in
set_option maxRecDepth 100000 in
theorem impl_packetOnly.calls (k : Nat) (a0 : ByteArray) (r1 : Bool) (r2 : Int) (r3 : Int) (r4 : ByteArray) (r5 : Bool) (w : World) (h : impl_packetOnly.f k a0 = some (r1, r2, r3, r4, r5)) :
  Calls Tryd.prog 18 #[.string a0] w fun e w' => e = .returned (.tuple #[.agg #[.bool r1, .int .i64 r2, .int .i64 r3, .string r4], .bool r5]) ∧ Below w.heap.size w w' := by
 have hu39 := Tryd.underlying39
 have HB := m_ (Below.refl w.heap.size w)
 have H : ((impl_PacketGet.f k a0 0).bind fun bt276 => (if bt276.2.2.2.2 = 0 then (some (false, 0, 0, (⟨#[]⟩ : ByteArray), false)) else (if bt276.2.2.2.2 = (a0.size : Int) then (some (bt276.1, bt276.2.1, bt276.2.2.1, bt276.2.2.2.1, true)) else (some (false, 0, 0, (⟨#[]⟩ : ByteArray), false))))) = some (r1, r2, r3, r4, r5) := h
 clear h
 replace H := Option.bind_eq_some_iff.mp H
 obtain ⟨⟨t276, t277, t278, t279, t280⟩, A20, H⟩ := H
 replace H : (if t280 = 0 then (some (false, 0, 0, (⟨#[]⟩ : ByteArray), false)) else (if t280 = (a0.size : Int) then (some (t276, t277, t278, t279, true)) else (some (false, 0, 0, (⟨#[]⟩ : ByteArray), false)))) = some (r1, r2, r3, r4, r5) := H
 have A2 := Aside0.mk A20
 clear A20
 by_cases c3 : t280 = 0
 ·rw [if_pos c3] at H
  have c3b0 : (t280 == 0) = true := beq_iff_eq.mpr c3
  have c3b1 : (t280 != 0) = false := bne_eq_false_iff_eq.mpr c3
  clear c3
  simp only [Option.some.injEq, Prod.mk.injEq] at H
  obtain ⟨rfl, rfl, rfl, rfl, rfl⟩ := H
  go_enter Tryd.func18, Tryd.ntmps18
  go_wp2_with (first | ((with_reducible refine gate_dst (N := 2) rfl ?_); (try (refine gate_guard (by rfl) ?_; dsimp only)); refine box_event ?hg (N := 2) ?hd (cs := #[.bool false, .int .i64 0, .int .i64 0, .string (⟨#[]⟩ : ByteArray)]) (t := 39) ?hr ?_; (case hd => rfl); (case hg => rfl); (case hr => first | (go_simp; done) | (go_simp; rfl)); intro gb275 hg w4 hbox hb; have n0_ := m_ (below_step (bN HB.out) hb); have n1_ := m_ (hbox); have n2_ := m_ ((by rw [hg]; exact (below_size (bN HB.out)) : w.heap.size ≤ gb275)); have n3_ := m_ ((by rw [hg]; exact (below_size (bN HB.out)) : w.heap.size ≤ gb275)); clear HB; have HB := n0_; have BK275 := n1_; have GW275 := n2_; have GE275 := n3_; clear n0_ n1_ n2_ n3_; clear hb hbox hg) | ((with_reducible refine gate_callee (f := 30) rfl ?_); refine goesL_ (some 8) rfl rfl Tryd.func30 (by kernel_rfl) rfl #[.string a0, .int .i64 0] rfl gl_ ?_; (with_reducible refine (impl_PacketGet.calls k a0 0 t276 t277 t278 t279 t280 _ A2.out).mono ?_); rintro e w5 ⟨rfl, hb⟩; refine ⟨_, rfl, ?_⟩; have n0_ := m_ (blk_below (g := gb275) (o := .cells #[.bool false, .int .i64 0, .int .i64 0, .string (⟨#[]⟩ : ByteArray)] 39 (0, 0)) (kN BK275.out) hb); have n1_ := m_ (below_step (bN HB.out) hb); clear BK275; clear HB; have BK275 := n0_; have HB := n1_; clear n0_ n1_; (try clear hb); (try clear hb2); (try clear hk); (try clear hi)) | ((with_reducible refine gate_dst (N := 4) rfl ?_); (try (refine gate_guard (by rfl) ?_; dsimp only)); refine box_event ?hg (N := 4) ?hd (cs := #[.bool false, .int .i64 0, .int .i64 0, .string (⟨#[]⟩ : ByteArray)]) (t := 39) ?hr ?_; (case hd => rfl); (case hg => rfl); (case hr => first | (go_simp; done) | (go_simp; rfl)); intro gb281 hg w6 hbox hb; have n0_ := m_ (blk_below (g := gb275) (o := .cells #[.bool false, .int .i64 0, .int .i64 0, .string (⟨#[]⟩ : ByteArray)] 39 (0, 0)) (kN BK275.out) hb); have n1_ := m_ (below_step (bN HB.out) hb); have n2_ := m_ (hbox); have n3_ := m_ ((by rw [hg]; exact (below_size (bN HB.out)) : w.heap.size ≤ gb281)); have n4_ := m_ ((by rw [hg]; exact (below_size (bN HB.out)) : w.heap.size ≤ gb281)); have n5_ := m_ ((by rw [hg]; exact Nat.ne_of_lt (blk_lt (g := gb275) (o := .cells #[.bool false, .int .i64 0, .int .i64 0, .string (⟨#[]⟩ : ByteArray)] 39 (0, 0)) (kN BK275.out)) : gb275 ≠ gb281)); have n6_ := m_ ((by rw [hg]; exact Nat.ne_of_gt (blk_lt (g := gb275) (o := .cells #[.bool false, .int .i64 0, .int .i64 0, .string (⟨#[]⟩ : ByteArray)] 39 (0, 0)) (kN BK275.out)) : gb281 ≠ gb275)); clear BK275; clear HB; have BK275 := n0_; have HB := n1_; have BK281 := n2_; have GW281 := n3_; have GE281 := n4_; have NB275_281 := n5_; have NB281_275 := n6_; clear n0_ n1_ n2_ n3_ n4_ n5_ n6_; clear hb hbox hg; have hnb7 := NB281_275.out; have hnc7 := NB275_281.out; have hcz8_0 : w6.cell? ⟨gb281, 0, none⟩ = some (.bool false) := bc BK281 0; have hcz8_1 : w6.cell? ⟨gb281, 1, none⟩ = some (.int .i64 0) := bc BK281 1; have hcz8_2 : w6.cell? ⟨gb281, 2, none⟩ = some (.int .i64 0) := bc BK281 2; have hcz8_3 : w6.cell? ⟨gb281, 3, none⟩ = some (.string (⟨#[]⟩ : ByteArray)) := bc BK281 3; have hfz8_0 := blk_frozen BK281.out 0; have hfz8_1 := blk_frozen BK281.out 1; have hfz8_2 := blk_frozen BK281.out 2; have hfz8_3 := blk_frozen BK281.out 3; have hcz9_0 : w6.cell? ⟨gb275, 0, none⟩ = some (.bool false) := bc BK275 0; have hcz9_1 : w6.cell? ⟨gb275, 1, none⟩ = some (.int .i64 0) := bc BK275 1; have hcz9_2 : w6.cell? ⟨gb275, 2, none⟩ = some (.int .i64 0) := bc BK275 2; have hcz9_3 : w6.cell? ⟨gb275, 3, none⟩ = some (.string (⟨#[]⟩ : ByteArray)) := bc BK275 3; have hfz9_0 := blk_frozen BK275.out 0; have hfz9_1 := blk_frozen BK275.out 1; have hfz9_2 := blk_frozen BK275.out 2; have hfz9_3 := blk_frozen BK275.out 3))
  refine bodyPost_ret (results_ct rfl _ _ gb275 39 #[.bool false, .int .i64 0, .int .i64 0, .string (⟨#[]⟩ : ByteArray)] (0, 0) _ rfl (kR BK275.out NB275_281.out) Tryd.underlying39 rfl (by kernel_rfl)) rfl ?_
  exact ⟨by first | rfl | (simp [errW_none, errW_some] <;> rfl) | (simp [*, errW_none, errW_some] <;> rfl), by repeat (first | (with_reducible first | exact HB.out | apply below_alloc | apply pw_below_drewN | apply below_drew1 | refine below_set ?_ GE275.out | refine below_set ?_ GE281.out) | exact HB.out)⟩
 ·rw [if_neg c3] at H
  have c3b0 : (t280 == 0) = false := beq_eq_false_iff_ne.mpr c3
  have c3b1 : (t280 != 0) = true := bne_iff_ne.mpr c3
  by_cases c10 : t280 = (a0.size : Int)
  ·rw [if_pos c10] at H
   have c10b0 : (t280 == (a0.size : Int)) = true := beq_iff_eq.mpr c10
   have c10b1 : (t280 != (a0.size : Int)) = false := bne_eq_false_iff_eq.mpr c10
   clear c10
   simp only [Option.some.injEq, Prod.mk.injEq] at H
   obtain ⟨rfl, rfl, rfl, rfl, rfl⟩ := H
   go_enter Tryd.func18, Tryd.ntmps18
   go_wp2_with (first | ((with_reducible refine gate_dst (N := 2) rfl ?_); (try (refine gate_guard (by rfl) ?_; dsimp only)); refine box_event ?hg (N := 2) ?hd (cs := #[.bool false, .int .i64 0, .int .i64 0, .string (⟨#[]⟩ : ByteArray)]) (t := 39) ?hr ?_; (case hd => rfl); (case hg => rfl); (case hr => first | (go_simp; done) | (go_simp; rfl)); intro gb275 hg w11 hbox hb; have n0_ := m_ (below_step (bN HB.out) hb); have n1_ := m_ (hbox); have n2_ := m_ ((by rw [hg]; exact (below_size (bN HB.out)) : w.heap.size ≤ gb275)); have n3_ := m_ ((by rw [hg]; exact (below_size (bN HB.out)) : w.heap.size ≤ gb275)); clear HB; have HB := n0_; have BK275 := n1_; have GW275 := n2_; have GE275 := n3_; clear n0_ n1_ n2_ n3_; clear hb hbox hg) | ((with_reducible refine gate_callee (f := 30) rfl ?_); refine goesL_ (some 8) rfl rfl Tryd.func30 (by kernel_rfl) rfl #[.string a0, .int .i64 0] rfl gl_ ?_; (with_reducible refine (impl_PacketGet.calls k a0 0 t276 t277 t278 t279 t280 _ A2.out).mono ?_); rintro e w12 ⟨rfl, hb⟩; refine ⟨_, rfl, ?_⟩; have n0_ := m_ (blk_below (g := gb275) (o := .cells #[.bool false, .int .i64 0, .int .i64 0, .string (⟨#[]⟩ : ByteArray)] 39 (0, 0)) (kN BK275.out) hb); have n1_ := m_ (below_step (bN HB.out) hb); clear BK275; clear HB; have BK275 := n0_; have HB := n1_; clear n0_ n1_; (try clear hb); (try clear hb2); (try clear hk); (try clear hi)) | ((with_reducible refine gate_dst (N := 4) rfl ?_); (try (refine gate_guard (by rfl) ?_; dsimp only)); refine box_event ?hg (N := 4) ?hd (cs := #[.bool false, .int .i64 0, .int .i64 0, .string (⟨#[]⟩ : ByteArray)]) (t := 39) ?hr ?_; (case hd => rfl); (case hg => rfl); (case hr => first | (go_simp; done) | (go_simp; rfl)); intro gb281 hg w13 hbox hb; have n0_ := m_ (blk_below (g := gb275) (o := .cells #[.bool false, .int .i64 0, .int .i64 0, .string (⟨#[]⟩ : ByteArray)] 39 (0, 0)) (kN BK275.out) hb); have n1_ := m_ (below_step (bN HB.out) hb); have n2_ := m_ (hbox); have n3_ := m_ ((by rw [hg]; exact (below_size (bN HB.out)) : w.heap.size ≤ gb281)); have n4_ := m_ ((by rw [hg]; exact (below_size (bN HB.out)) : w.heap.size ≤ gb281)); have n5_ := m_ ((by rw [hg]; exact Nat.ne_of_lt (blk_lt (g := gb275) (o := .cells #[.bool false, .int .i64 0, .int .i64 0, .string (⟨#[]⟩ : ByteArray)] 39 (0, 0)) (kN BK275.out)) : gb275 ≠ gb281)); have n6_ := m_ ((by rw [hg]; exact Nat.ne_of_gt (blk_lt (g := gb275) (o := .cells #[.bool false, .int .i64 0, .int .i64 0, .string (⟨#[]⟩ : ByteArray)] 39 (0, 0)) (kN BK275.out)) : gb281 ≠ gb275)); clear BK275; clear HB; have BK275 := n0_; have HB := n1_; have BK281 := n2_; have GW281 := n3_; have GE281 := n4_; have NB275_281 := n5_; have NB281_275 := n6_; clear n0_ n1_ n2_ n3_ n4_ n5_ n6_; clear hb hbox hg; have hnb14 := NB281_275.out; have hnc14 := NB275_281.out; have hcz15_0 : w13.cell? ⟨gb281, 0, none⟩ = some (.bool false) := bc BK281 0; have hcz15_1 : w13.cell? ⟨gb281, 1, none⟩ = some (.int .i64 0) := bc BK281 1; have hcz15_2 : w13.cell? ⟨gb281, 2, none⟩ = some (.int .i64 0) := bc BK281 2; have hcz15_3 : w13.cell? ⟨gb281, 3, none⟩ = some (.string (⟨#[]⟩ : ByteArray)) := bc BK281 3; have hfz15_0 := blk_frozen BK281.out 0; have hfz15_1 := blk_frozen BK281.out 1; have hfz15_2 := blk_frozen BK281.out 2; have hfz15_3 := blk_frozen BK281.out 3; have hcz16_0 : w13.cell? ⟨gb275, 0, none⟩ = some (.bool false) := bc BK275 0; have hcz16_1 : w13.cell? ⟨gb275, 1, none⟩ = some (.int .i64 0) := bc BK275 1; have hcz16_2 : w13.cell? ⟨gb275, 2, none⟩ = some (.int .i64 0) := bc BK275 2; have hcz16_3 : w13.cell? ⟨gb275, 3, none⟩ = some (.string (⟨#[]⟩ : ByteArray)) := bc BK275 3; have hfz16_0 := blk_frozen BK275.out 0; have hfz16_1 := blk_frozen BK275.out 1; have hfz16_2 := blk_frozen BK275.out 2; have hfz16_3 := blk_frozen BK275.out 3))
   refine bodyPost_ret (results_ct rfl _ _ gb275 39 #[.bool t276, .int .i64 t277, .int .i64 t278, .string t279] (0, 0) _ rfl (kR BK275.out NB275_281.out) Tryd.underlying39 rfl (by kernel_rfl)) rfl ?_
   exact ⟨by first | rfl | (simp [errW_none, errW_some] <;> rfl) | (simp [*, errW_none, errW_some] <;> rfl), by repeat (first | (with_reducible first | exact HB.out | apply below_alloc | apply pw_below_drewN | apply below_drew1 | refine below_set ?_ GE275.out | refine below_set ?_ GE281.out) | exact HB.out)⟩
  ·rw [if_neg c10] at H
   have c10b0 : (t280 == (a0.size : Int)) = false := beq_eq_false_iff_ne.mpr c10
   have c10b1 : (t280 != (a0.size : Int)) = true := bne_iff_ne.mpr c10
   simp only [Option.some.injEq, Prod.mk.injEq] at H
   obtain ⟨rfl, rfl, rfl, rfl, rfl⟩ := H
   go_enter Tryd.func18, Tryd.ntmps18
   go_wp2_with (first | ((with_reducible refine gate_dst (N := 2) rfl ?_); (try (refine gate_guard (by rfl) ?_; dsimp only)); refine box_event ?hg (N := 2) ?hd (cs := #[.bool false, .int .i64 0, .int .i64 0, .string (⟨#[]⟩ : ByteArray)]) (t := 39) ?hr ?_; (case hd => rfl); (case hg => rfl); (case hr => first | (go_simp; done) | (go_simp; rfl)); intro gb275 hg w17 hbox hb; have n0_ := m_ (below_step (bN HB.out) hb); have n1_ := m_ (hbox); have n2_ := m_ ((by rw [hg]; exact (below_size (bN HB.out)) : w.heap.size ≤ gb275)); have n3_ := m_ ((by rw [hg]; exact (below_size (bN HB.out)) : w.heap.size ≤ gb275)); clear HB; have HB := n0_; have BK275 := n1_; have GW275 := n2_; have GE275 := n3_; clear n0_ n1_ n2_ n3_; clear hb hbox hg) | ((with_reducible refine gate_callee (f := 30) rfl ?_); refine goesL_ (some 8) rfl rfl Tryd.func30 (by kernel_rfl) rfl #[.string a0, .int .i64 0] rfl gl_ ?_; (with_reducible refine (impl_PacketGet.calls k a0 0 t276 t277 t278 t279 t280 _ A2.out).mono ?_); rintro e w18 ⟨rfl, hb⟩; refine ⟨_, rfl, ?_⟩; have n0_ := m_ (blk_below (g := gb275) (o := .cells #[.bool false, .int .i64 0, .int .i64 0, .string (⟨#[]⟩ : ByteArray)] 39 (0, 0)) (kN BK275.out) hb); have n1_ := m_ (below_step (bN HB.out) hb); clear BK275; clear HB; have BK275 := n0_; have HB := n1_; clear n0_ n1_; (try clear hb); (try clear hb2); (try clear hk); (try clear hi)) | ((with_reducible refine gate_dst (N := 4) rfl ?_); (try (refine gate_guard (by rfl) ?_; dsimp only)); refine box_event ?hg (N := 4) ?hd (cs := #[.bool false, .int .i64 0, .int .i64 0, .string (⟨#[]⟩ : ByteArray)]) (t := 39) ?hr ?_; (case hd => rfl); (case hg => rfl); (case hr => first | (go_simp; done) | (go_simp; rfl)); intro gb281 hg w19 hbox hb; have n0_ := m_ (blk_below (g := gb275) (o := .cells #[.bool false, .int .i64 0, .int .i64 0, .string (⟨#[]⟩ : ByteArray)] 39 (0, 0)) (kN BK275.out) hb); have n1_ := m_ (below_step (bN HB.out) hb); have n2_ := m_ (hbox); have n3_ := m_ ((by rw [hg]; exact (below_size (bN HB.out)) : w.heap.size ≤ gb281)); have n4_ := m_ ((by rw [hg]; exact (below_size (bN HB.out)) : w.heap.size ≤ gb281)); have n5_ := m_ ((by rw [hg]; exact Nat.ne_of_lt (blk_lt (g := gb275) (o := .cells #[.bool false, .int .i64 0, .int .i64 0, .string (⟨#[]⟩ : ByteArray)] 39 (0, 0)) (kN BK275.out)) : gb275 ≠ gb281)); have n6_ := m_ ((by rw [hg]; exact Nat.ne_of_gt (blk_lt (g := gb275) (o := .cells #[.bool false, .int .i64 0, .int .i64 0, .string (⟨#[]⟩ : ByteArray)] 39 (0, 0)) (kN BK275.out)) : gb281 ≠ gb275)); clear BK275; clear HB; have BK275 := n0_; have HB := n1_; have BK281 := n2_; have GW281 := n3_; have GE281 := n4_; have NB275_281 := n5_; have NB281_275 := n6_; clear n0_ n1_ n2_ n3_ n4_ n5_ n6_; clear hb hbox hg; have hnb20 := NB281_275.out; have hnc20 := NB275_281.out; have hcz21_0 : w19.cell? ⟨gb281, 0, none⟩ = some (.bool false) := bc BK281 0; have hcz21_1 : w19.cell? ⟨gb281, 1, none⟩ = some (.int .i64 0) := bc BK281 1; have hcz21_2 : w19.cell? ⟨gb281, 2, none⟩ = some (.int .i64 0) := bc BK281 2; have hcz21_3 : w19.cell? ⟨gb281, 3, none⟩ = some (.string (⟨#[]⟩ : ByteArray)) := bc BK281 3; have hfz21_0 := blk_frozen BK281.out 0; have hfz21_1 := blk_frozen BK281.out 1; have hfz21_2 := blk_frozen BK281.out 2; have hfz21_3 := blk_frozen BK281.out 3; have hcz22_0 : w19.cell? ⟨gb275, 0, none⟩ = some (.bool false) := bc BK275 0; have hcz22_1 : w19.cell? ⟨gb275, 1, none⟩ = some (.int .i64 0) := bc BK275 1; have hcz22_2 : w19.cell? ⟨gb275, 2, none⟩ = some (.int .i64 0) := bc BK275 2; have hcz22_3 : w19.cell? ⟨gb275, 3, none⟩ = some (.string (⟨#[]⟩ : ByteArray)) := bc BK275 3; have hfz22_0 := blk_frozen BK275.out 0; have hfz22_1 := blk_frozen BK275.out 1; have hfz22_2 := blk_frozen BK275.out 2; have hfz22_3 := blk_frozen BK275.out 3))
   refine bodyPost_ret (results_ct rfl _ _ gb275 39 #[.bool false, .int .i64 0, .int .i64 0, .string (⟨#[]⟩ : ByteArray)] (0, 0) _ rfl (kR BK275.out NB275_281.out) Tryd.underlying39 rfl (by kernel_rfl)) rfl ?_
   exact ⟨by first | rfl | (simp [errW_none, errW_some] <;> rfl) | (simp [*, errW_none, errW_some] <;> rfl), by repeat (first | (with_reducible first | exact HB.out | apply below_alloc | apply pw_below_drewN | apply below_drew1 | refine below_set ?_ GE275.out | refine below_set ?_ GE281.out) | exact HB.out)⟩

end Go.Proofs.YtpehnincnpnggaaDoor.P
