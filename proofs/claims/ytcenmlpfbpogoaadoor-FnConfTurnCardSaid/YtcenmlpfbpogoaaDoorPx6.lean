/- The machine side of these statements, function by function: what each Go function answers (as a Lean function), and that it does. Written by a program (mp.py) for this claim. -/
import Derived.Test.YtcenmlpfbpogoaaDoorPx0
import Derived.Test.YtcenmlpfbpogoaaDoorPx1
import Derived.Test.YtcenmlpfbpogoaaDoorPx5
namespace Go.Proofs.YtcenmlpfbpogoaaDoor.P
open Go.RowKit Go.Proofs.YtcenmlpfbpogoaaDoorW.PrintWords Go.Proofs.YtcenmlpfbpogoaaDoorW.PrintLast Go.Proofs.YtcenmlpfbpogoaaDoorW.PrintMore
attribute [local go_sem] max2_int min2_int max_two min_two max_three min_three max_four min_four   -- for this text's walks alone
set_option linter.unusedVariables false
set_option linter.unusedSimpArgs false

/-! ### impl_ConfCheck: function 15 -/
def impl_ConfCheck.f (k : Nat) (a0_0 : Int) (a0_1 : Int) (l0_2 : List (List (S107))) (l0_3 : List Int) (l0_4 : List Int) (l0_5 : List Int) (l0_6 : List Int) (l0_7 : List Int) (l0_8 : List (S78)) (a0_9 : Int) : Option Int := (impl_Conf_fault.f k a0_0 a0_1 l0_2 l0_3 l0_4 l0_5 l0_6 l0_7 l0_8 a0_9).bind fun o => some (o.getD 0)
theorem impl_ConfCheck.mono : ∀ a0 a1 a2 a3 a4 a5 a6 a7 a8 a9 k, LeO (impl_ConfCheck.f k a0 a1 a2 a3 a4 a5 a6 a7 a8 a9) (impl_ConfCheck.f (k + 1) a0 a1 a2 a3 a4 a5 a6 a7 a8 a9) := by
  intro a0 a1 a2 a3 a4 a5 a6 a7 a8 a9 k
  unfold impl_ConfCheck.f
  exact LeO.bind (impl_Conf_fault.mono _ _ _ _ _ _ _ _ _ _ _) (fun _ => LeO.refl _)
def GErr (w : World) : Prop := w.cell? ⟨0, 0, none⟩ = some (.iface 114 (.agg #[.pointer (some ⟨1, 64, none⟩)]))
theorem GErr.below {w W : World} (h : Below w.heap.size w W) (g : GErr w) : GErr W := pw_cell_below h g
theorem as_int (c : Int) (g : Nat) (w : World) (hG : w.cell? ⟨0, 0, none⟩ = some (.iface 114 (.agg #[.pointer (some ⟨1, 64, none⟩)]))) (hb : w.heap[g]? = some (.cells #[.int .i64 0] 61 (0, 0))) :
  Calls Tryd.prog 36 #[.iface 101 (.agg #[.int .i64 c]), .iface 66 (.pointer (some ⟨g, 0, none⟩))] w fun e w' => e = .returned (.bool true) ∧ w'.heap[g]? = some (.cells #[.int .i64 c] 61 (0, 0)) ∧ ∀ B, B ≤ g → B ≤ w.heap.size → Below B w w' := by
  refine (As.as_hit c ⟨g, 0, none⟩ (.int .i64 0) w hG ((blk_cell hb 0).trans rfl) (blk_frozen hb 0)).mono ?_
  rintro e w' ⟨rfl, rfl⟩
  have hl := blk_lt hb
  refine ⟨rfl, blk_put (blk_alloc (blk_alloc (blk_alloc (blk_alloc (blk_alloc hb _) _) _) _) _) 0 _ rfl, fun B h1 h2 => ?_⟩
  exact (((((((Below.refl B w).alloc h2 _).alloc (by simp; omega) _).alloc (by simp; omega) _).alloc (by simp; omega) _).alloc (by simp; omega) _).setCell h1 _)
set_option maxHeartbeats 8000000 in
set_option maxRecDepth 100000 in
theorem impl_ConfCheck.calls (k : Nat) (a0_0 : Int) (a0_1 : Int) (A0_2 : Option Addr) (c0_2 : Nat) (l0_2 : List (List (S107))) (A0_3 : Option Addr) (c0_3 : Nat) (l0_3 : List Int) (A0_4 : Option Addr) (c0_4 : Nat) (l0_4 : List Int) (A0_5 : Option Addr) (c0_5 : Nat) (l0_5 : List Int) (A0_6 : Option Addr) (c0_6 : Nat) (l0_6 : List Int) (A0_7 : Option Addr) (c0_7 : Nat) (l0_7 : List Int) (A0_8 : Option Addr) (c0_8 : Nat) (l0_8 : List (S78)) (a0_9 : Int) (r : Int) (w : World) (hr0_2 : Kd.C (Kd.slice 107 k107) w A0_2 l0_2.length l0_2) (hc0_2 : l0_2.length ≤ c0_2) (hr0_3 : Kd.C (Kd.int .i64) w A0_3 l0_3.length l0_3) (hc0_3 : l0_3.length ≤ c0_3) (hr0_4 : Kd.C (Kd.int .i64) w A0_4 l0_4.length l0_4) (hc0_4 : l0_4.length ≤ c0_4) (hr0_5 : Kd.C (Kd.int .i64) w A0_5 l0_5.length l0_5) (hc0_5 : l0_5.length ≤ c0_5) (hr0_6 : Kd.C (Kd.int .i64) w A0_6 l0_6.length l0_6) (hc0_6 : l0_6.length ≤ c0_6) (hr0_7 : Kd.C (Kd.int .i64) w A0_7 l0_7.length l0_7) (hc0_7 : l0_7.length ≤ c0_7) (hr0_8 : Kd.C k78 w A0_8 l0_8.length l0_8) (hc0_8 : l0_8.length ≤ c0_8) (h : impl_ConfCheck.f k a0_0 a0_1 l0_2 l0_3 l0_4 l0_5 l0_6 l0_7 l0_8 a0_9 = some r) (hG : GErr w) :
  Calls Tryd.prog 15 #[.agg #[.int .i64 a0_0, .int .i64 a0_1, .slice A0_2 l0_2.length c0_2, .slice A0_3 l0_3.length c0_3, .slice A0_4 l0_4.length c0_4, .slice A0_5 l0_5.length c0_5, .slice A0_6 l0_6.length c0_6, .slice A0_7 l0_7.length c0_7, .slice A0_8 l0_8.length c0_8, .int .i64 a0_9]] w fun e w' => e = .returned (.int .i64 r) ∧ Below w.heap.size w w' := by
  have HH := h
  clear h
  unfold impl_ConfCheck.f at HH
  obtain ⟨o, A1, HH⟩ := Option.bind_eq_some_iff.mp HH
  replace A1 := Aside0.mk A1
  obtain rfl := (Option.some.inj HH)
  clear HH
  have hu := Tryd.underlying61
  replace hG := Aside0.mk hG
  replace hr0_2 := Aside0.mk hr0_2
  replace hc0_2 := Aside0.mk hc0_2
  replace hr0_3 := Aside0.mk hr0_3
  replace hc0_3 := Aside0.mk hc0_3
  replace hr0_4 := Aside0.mk hr0_4
  replace hc0_4 := Aside0.mk hc0_4
  replace hr0_5 := Aside0.mk hr0_5
  replace hc0_5 := Aside0.mk hc0_5
  replace hr0_6 := Aside0.mk hr0_6
  replace hc0_6 := Aside0.mk hc0_6
  replace hr0_7 := Aside0.mk hr0_7
  replace hc0_7 := Aside0.mk hc0_7
  replace hr0_8 := Aside0.mk hr0_8
  replace hc0_8 := Aside0.mk hc0_8
  have T0 : Aside0 (((w.alloc (.cells #[.int .i64 a0_0, .int .i64 a0_1, .slice A0_2 l0_2.length c0_2, .slice A0_3 l0_3.length c0_3, .slice A0_4 l0_4.length c0_4, .slice A0_5 l0_5.length c0_5, .slice A0_6 l0_6.length c0_6, .slice A0_7 l0_7.length c0_7, .slice A0_8 l0_8.length c0_8, .int .i64 a0_9] 32)).alloc (.cells #[.int .i64 0] 61)).heap[w.heap.size + 1]? = some (.cells #[.int .i64 0] 61 (0, 0))) := ⟨heap_alloc2_new _ _ _⟩
  have G0 : Aside0 (Below w.heap.size w ((w.alloc (.cells #[.int .i64 a0_0, .int .i64 a0_1, .slice A0_2 l0_2.length c0_2, .slice A0_3 l0_3.length c0_3, .slice A0_4 l0_4.length c0_4, .slice A0_5 l0_5.length c0_5, .slice A0_6 l0_6.length c0_6, .slice A0_7 l0_7.length c0_7, .slice A0_8 l0_8.length c0_8, .int .i64 a0_9] 32)).alloc (.cells #[.int .i64 0] 61))) := ⟨((Below.refl _ _).alloc (Nat.le_refl _) _).alloc (by simp) _⟩
  go_enter Tryd.func15, Tryd.ntmps15
  go_wp2_with fail
  refine (impl_Conf_fault.calls k a0_0 a0_1 A0_2 c0_2 l0_2 A0_3 c0_3 l0_3 A0_4 c0_4 l0_4 A0_5 c0_5 l0_5 A0_6 c0_6 l0_6 A0_7 c0_7 l0_7 A0_8 c0_8 l0_8 a0_9 _ _ (Kd.C_below hr0_2.out G0.out) hc0_2.out (Kd.C_below hr0_3.out G0.out) hc0_3.out (Kd.C_below hr0_4.out G0.out) hc0_4.out (Kd.C_below hr0_5.out G0.out) hc0_5.out (Kd.C_below hr0_6.out G0.out) hc0_6.out (Kd.C_below hr0_7.out G0.out) hc0_7.out (Kd.C_below hr0_8.out G0.out) hc0_8.out A1.out).mono ?_
  rintro e w1 ⟨rfl, B1⟩
  have T1 := Aside0.mk (blk_below T0.out B1)
  have G1 := Aside0.mk (below_then G0.out G0.out.size B1)
  clear T0 G0 B1
  cases o with
  | none =>
    rw [errW_none]
    go_wp2_with fail
    refine (As.as_nil _ _).mono ?_
    rintro e w2 ⟨rfl, rfl⟩
    go_wp2
    go_ret
    exact ⟨rfl, G1.out⟩
  | some c =>
    rw [errW_some]
    go_wp2_with fail
    refine (as_int c (w.heap.size + 1) w1 (pw_cell_below G1.out hG.out) T1.out).mono ?_
    rintro e w2 ⟨rfl, T2, B2⟩
    have G2 := Aside0.mk (G1.out.trans (B2 _ (Nat.le_succ _) G1.out.size))
    have c2 := (blk_cell T2 0).trans rfl
    replace T2 := Aside0.mk T2
    clear B2
    go_wp2
    go_ret
    exact ⟨rfl, G2.out⟩

/-! ### spec_l1Rd_pick: function 46 -/
def spec_l1Rd_pick.j0 : Nat → Int → Bool → List Int → Int → Option (Int × Int)
 | 0, _, _, _, _ => none
 | k + 1, x1, x24, x1000, x1001 => if x24 = true then (some (0, x1001)) else (if (wrap64 (x1001 - 1)) < (x1000.length : Int) then (if 0 ≤ (wrap64 (x1001 - 1)) then (if x1 = 0 then (none) else (some (Int.tmod (wrap64 (rd x1000 (wrap64 (x1001 - 1)))) x1, x1001))) else (none)) else (if (x1000.length : Int) = 0 then (none) else (if 0 ≤ (Int.tmod (wrap64 (x1001 - 1)) (x1000.length : Int)) then (if (Int.tmod (wrap64 (x1001 - 1)) (x1000.length : Int)) < (x1000.length : Int) then (if 0 ≤ (Int.tmod (wrap64 ((wrap64 ((wrap64 (x1001 - 1)) * 7)) + 3)) (x1000.length : Int)) then (if (Int.tmod (wrap64 ((wrap64 ((wrap64 (x1001 - 1)) * 7)) + 3)) (x1000.length : Int)) < (x1000.length : Int) then (if x1 = 0 then (none) else (some (Int.tmod (Go.bits .xor .i64 (wrap64 ((wrap64 ((wrap64 ((wrap64 ((wrap64 (rd x1000 (Int.tmod (wrap64 (x1001 - 1)) (x1000.length : Int)))) * 131)) + (wrap64 ((wrap64 (rd x1000 (Int.tmod (wrap64 ((wrap64 ((wrap64 (x1001 - 1)) * 7)) + 3)) (x1000.length : Int)))) * 1117)))) + (wrap64 ((wrap64 (x1001 - 1)) * 29)))) + (wrap64 ((wrap64 (Int.tdiv (wrap64 (x1001 - 1)) (x1000.length : Int))) * 53)))) (wrap64 (Int.tdiv (wrap64 ((wrap64 ((wrap64 ((wrap64 ((wrap64 (rd x1000 (Int.tmod (wrap64 (x1001 - 1)) (x1000.length : Int)))) * 131)) + (wrap64 ((wrap64 (rd x1000 (Int.tmod (wrap64 ((wrap64 ((wrap64 (x1001 - 1)) * 7)) + 3)) (x1000.length : Int)))) * 1117)))) + (wrap64 ((wrap64 (x1001 - 1)) * 29)))) + (wrap64 ((wrap64 (Int.tdiv (wrap64 (x1001 - 1)) (x1000.length : Int))) * 53)))) 64))) x1, x1001))) else (none)) else (none)) else (none)) else (none))))
def spec_l1Rd_pick.f (k : Nat) (s0_0 : List Int) (s0_1 : Int) (a1 : Int) : Option (Int × Int) := if a1 < 1 then (spec_l1Rd_pick.j0 k a1 true s0_0 (wrap64 (s0_1 + 1))) else (spec_l1Rd_pick.j0 k a1 ((s0_0.length : Int) == 0) s0_0 (wrap64 (s0_1 + 1)))
theorem spec_l1Rd_pick.mono_l : ∀ k, (∀ y0 y1 y2 y3, LeO (spec_l1Rd_pick.j0 k y0 y1 y2 y3) (spec_l1Rd_pick.j0 (k + 1) y0 y1 y2 y3))
 | 0 => fun _ _ _ _ r h => by simp [spec_l1Rd_pick.j0] at h
 | k + 1 => by
  have ih0 := spec_l1Rd_pick.mono_l k
  ·intro y0 y1 y2 y3
   unfold spec_l1Rd_pick.j0
   repeat' first
   | (with_reducible exact ih0 _ _ _ _)
   | (with_reducible exact LeO.refl _)
   | (with_reducible exact LeO.none _)
   | (with_reducible refine LeO.ite ?_ ?_)
   | (with_reducible refine LeO.bind ?_ (fun _ => ?_))
   | exact ih0 _ _ _ _
   | exact LeO.none _
   | refine LeO.ite ?_ ?_
   | refine LeO.bind ?_ (fun _ => ?_)
theorem spec_l1Rd_pick.mono : ∀ a0 a1 a2 k, LeO (spec_l1Rd_pick.f k a0 a1 a2) (spec_l1Rd_pick.f (k + 1) a0 a1 a2) := by
 intro a0 a1 a2 k
 have ih0 := spec_l1Rd_pick.mono_l k
 unfold spec_l1Rd_pick.f
 repeat' first
   | (with_reducible exact ih0 _ _ _ _)
   | (with_reducible exact LeO.refl _)
   | (with_reducible exact LeO.none _)
   | (with_reducible refine LeO.ite ?_ ?_)
   | (with_reducible refine LeO.bind ?_ (fun _ => ?_))
   | exact ih0 _ _ _ _
   | exact LeO.none _
   | refine LeO.ite ?_ ?_
   | refine LeO.bind ?_ (fun _ => ?_)
set_option maxHeartbeats 8000000 in
set_option maxRecDepth 100000 in
theorem spec_l1Rd_pick.calls (k : Nat) (g : Nat) (s0_0 : List Int) (s0_1 : Int) (a1 : Int) (r1 : Int) (r2 : Int) (w0 w : World) (hI : IsS86 w0 w g s0_0 s0_1) (hB : Below w0.heap.size w0 w) (h : spec_l1Rd_pick.f k s0_0 s0_1 a1 = some (r1, r2)) :
  Calls Tryd.prog 46 #[.pointer (some ⟨g, 0, none⟩), .int .i64 a1] w fun e w' => e = .returned (.int .i64 r1) ∧ IsS86 w0 w' g s0_0 r2 ∧ Below w0.heap.size w0 w' ∧ KeepBut w w' g none := by
 have HI0 := Aside0.mk hI
 have HK := m_ (KeepBut.refl w g none)
 have HL := Aside0.mk hB.size
 clear hI
 have HW0 := Aside0.mk hB.size
 have HB := Aside0.mk hB
 clear hB
 have H : (if a1 < 1 then (spec_l1Rd_pick.j0 k a1 true s0_0 (wrap64 (s0_1 + 1))) else (spec_l1Rd_pick.j0 k a1 ((s0_0.length : Int) == 0) s0_0 (wrap64 (s0_1 + 1)))) = some (r1, r2) := h
 clear h
 have HC3 := Aside0.mk H
 clear H
 obtain ⟨ASz4_0, cSz4_0, HGz4, hgz4, HSz4_0⟩ := HI0.out
 have hcz4_0 := cellS86_0 HGz4
 have hcz4_1 := cellS86_1 HGz4
 have hfz4_1 := blk_frozen HGz4 1
 clear HGz4 hgz4
 go_enter Tryd.func46, Tryd.ntmps46
 go_upto_region 2 with (fail)
 repeat (go_quiet (fail); go_upto_region 2 with (fail))
 go_cut [24] (fun v24 wc => ∃ (kq : Nat) (x24_2 : Bool), v24 = .bool x24_2 ∧ Aside0 (spec_l1Rd_pick.j0 kq a1 x24_2 s0_0 (wrap64 (s0_1 + 1)) = some (r1, r2)) ∧ Aside0 (kq ≤ k) ∧ Aside0 (IsS86 w0 wc g s0_0 (wrap64 (s0_1 + 1))) ∧ Aside0 (KeepBut w wc g none) ∧ Aside0 (Below w0.heap.size w0 wc))
 case first =>
  have H := HC3.out
  clear HC3
  by_cases c5 : a1 < 1
  ·rw [if_pos c5] at H
   have c5b0 : decide (a1 < 1) = true := decide_eq_true c5
   clear c5
   (first | rw [c5b0] | (simp only [i64_w, i32_w]; rw [c5b0]) | skip)
   have H' := Aside0.mk H
   clear H
   go_wp2
   repeat (go_quiet (fail); try go_wp2)
   go_meet
   case rel => exact ⟨_, (true), (by first | rfl | (simp; done) | (simp [*]; done)), H', ⟨by first | omega | exact Nat.le_refl _⟩, ⟨(hI0 HI0.out)⟩, ⟨(hK0 HK.out)⟩, ⟨(hB1 HB.out (IsS86.ge HI0.out))⟩⟩
  ·rw [if_neg c5] at H
   have c5b0 : decide (a1 < 1) = false := decide_eq_false c5
   clear c5
   (first | rw [c5b0] | (simp only [i64_w, i32_w]; rw [c5b0]) | skip)
   have H' := Aside0.mk H
   clear H
   obtain ⟨ASz6_0, cSz6_0, HGz6, hgz6, HSz6_0⟩ := HI0.out
   have hcz6_0 := cellS86_0 HGz6
   have hcz6_1 := cellS86_1 HGz6
   have hfz6_1 := blk_frozen HGz6 1
   clear HGz6 hgz6
   go_wp2
   repeat (go_quiet (fail); try go_wp2)
   go_meet
   case rel => exact ⟨_, (((s0_0.length : Int) == 0)), (by first | rfl | (simp; done) | (simp [*]; done)), H', ⟨by first | omega | exact Nat.le_refl _⟩, ⟨(hI0 HI0.out)⟩, ⟨(hK0 HK.out)⟩, ⟨(hB1 HB.out (IsS86.ge HI0.out))⟩⟩
 case rest =>
  clear HC3
  try clear p2
  try clear c4
  try clear c5
  try clear c5b0
  try clear p6
  obtain ⟨kq, x24_2, rfl, HA, HJ2, HI0, HK, HB⟩ := hcut
  cases kq with
  | zero => exact absurd HA.out (by simp [spec_l1Rd_pick.j0])
  | succ kj2 =>
   have H := HA.out
   clear HA
   simp only [spec_l1Rd_pick.j0] at H
   by_cases c7 : x24_2 = true
   ·subst c7
    have H1 : (some (0, (wrap64 (s0_1 + 1)))) = some (r1, r2) := by rw [if_pos rfl] at H; exact H
    clear H
    have H := H1
    clear H1
    simp only [Option.some.injEq, Prod.mk.injEq] at H
    obtain ⟨rfl, rfl⟩ := H
    go_wp2
    repeat (go_quiet (fail); try go_wp2)
    go_ret
    exact ⟨rf_, (hI0 HI0.out), (hB1 HB.out (IsS86.ge HI0.out)), (hK0 HK.out)⟩
   ·replace c7 := Bool.eq_false_iff.mpr c7
    subst c7
    have H1 : (if (wrap64 ((wrap64 (s0_1 + 1)) - 1)) < (s0_0.length : Int) then (if 0 ≤ (wrap64 ((wrap64 (s0_1 + 1)) - 1)) then (if a1 = 0 then (none) else (some (Int.tmod (wrap64 (rd s0_0 (wrap64 ((wrap64 (s0_1 + 1)) - 1)))) a1, (wrap64 (s0_1 + 1))))) else (none)) else (if (s0_0.length : Int) = 0 then (none) else (if 0 ≤ (Int.tmod (wrap64 ((wrap64 (s0_1 + 1)) - 1)) (s0_0.length : Int)) then (if (Int.tmod (wrap64 ((wrap64 (s0_1 + 1)) - 1)) (s0_0.length : Int)) < (s0_0.length : Int) then (if 0 ≤ (Int.tmod (wrap64 ((wrap64 ((wrap64 ((wrap64 (s0_1 + 1)) - 1)) * 7)) + 3)) (s0_0.length : Int)) then (if (Int.tmod (wrap64 ((wrap64 ((wrap64 ((wrap64 (s0_1 + 1)) - 1)) * 7)) + 3)) (s0_0.length : Int)) < (s0_0.length : Int) then (if a1 = 0 then (none) else (some (Int.tmod (Go.bits .xor .i64 (wrap64 ((wrap64 ((wrap64 ((wrap64 ((wrap64 (rd s0_0 (Int.tmod (wrap64 ((wrap64 (s0_1 + 1)) - 1)) (s0_0.length : Int)))) * 131)) + (wrap64 ((wrap64 (rd s0_0 (Int.tmod (wrap64 ((wrap64 ((wrap64 ((wrap64 (s0_1 + 1)) - 1)) * 7)) + 3)) (s0_0.length : Int)))) * 1117)))) + (wrap64 ((wrap64 ((wrap64 (s0_1 + 1)) - 1)) * 29)))) + (wrap64 ((wrap64 (Int.tdiv (wrap64 ((wrap64 (s0_1 + 1)) - 1)) (s0_0.length : Int))) * 53)))) (wrap64 (Int.tdiv (wrap64 ((wrap64 ((wrap64 ((wrap64 ((wrap64 (rd s0_0 (Int.tmod (wrap64 ((wrap64 (s0_1 + 1)) - 1)) (s0_0.length : Int)))) * 131)) + (wrap64 ((wrap64 (rd s0_0 (Int.tmod (wrap64 ((wrap64 ((wrap64 ((wrap64 (s0_1 + 1)) - 1)) * 7)) + 3)) (s0_0.length : Int)))) * 1117)))) + (wrap64 ((wrap64 ((wrap64 (s0_1 + 1)) - 1)) * 29)))) + (wrap64 ((wrap64 (Int.tdiv (wrap64 ((wrap64 (s0_1 + 1)) - 1)) (s0_0.length : Int))) * 53)))) 64))) a1, (wrap64 (s0_1 + 1))))) else (none)) else (none)) else (none)) else (none)))) = some (r1, r2) := by rw [if_neg (show ¬ (false = true) by decide)] at H; exact H
    clear H
    have H := H1
    clear H1
    by_cases c8 : (wrap64 ((wrap64 (s0_1 + 1)) - 1)) < (s0_0.length : Int)
    ·rw [if_pos c8] at H
     have c8b0 : decide ((wrap64 ((wrap64 (s0_1 + 1)) - 1)) < (s0_0.length : Int)) = true := decide_eq_true c8
     clear c8
     obtain ⟨ji9, hji9⟩ : ∃ j_ : Int, (wrap64 ((wrap64 (s0_1 + 1)) - 1)) = j_ := ⟨_, rfl⟩
     replace H : (if 0 ≤ (ji9) then (if a1 = 0 then (none) else (some (Int.tmod (wrap64 (rd s0_0 (ji9))) a1, (wrap64 (s0_1 + 1))))) else (none)) = some (r1, r2) := by first | (rw [hji9] at H; exact H) | (simp only [hji9] at H ⊢; exact H)
     (try rw [hji9] at c8b0)
     have hji9w : (IntKind.i64.wrap ((wrap64 (s0_1 + 1)) - 1)) = ji9 := (i64_w _).trans hji9
     by_cases c10 : 0 ≤ (ji9)
     ·rw [if_pos c10] at H
      have c10b0 : decide (0 ≤ (ji9)) = true := decide_eq_true c10
      clear c10
      by_cases c11 : a1 = 0
      ·rw [if_pos c11] at H
       exact absurd H (by simp)
      ·rw [if_neg c11] at H
       have c11b0 : (a1 == 0) = false := beq_eq_false_iff_ne.mpr c11
       have c11b1 : (a1 != 0) = true := bne_iff_ne.mpr c11
       simp only [Option.some.injEq, Prod.mk.injEq] at H
       obtain ⟨rfl, rfl⟩ := H
       obtain ⟨ASz12_0, cSz12_0, HGz12, hgz12, HSz12_0⟩ := HI0.out
       have hcz12_0 := cellS86_0 HGz12
       have hcz12_1 := cellS86_1 HGz12
       have hfz12_1 := blk_frozen HGz12 1
       clear HGz12 hgz12
       have p147 : 0 ≤ ((ji9) : Int) := of_decide_eq_true (by first | (with_reducible assumption) | assumption)
       have q147 : (ji9) < (s0_0.length : Int) := of_decide_eq_true (by first | (with_reducible assumption) | assumption)
       obtain ⟨ad147, e147, hx147_0⟩ := Kd.at_int HSz12_0 (ji9) p147 q147
       cases e147
       replace hx147_0 := pw_cell_below HB.out hx147_0
       replace p147 := eq_true p147
       replace q147 := eq_true q147
       go_wp2
       repeat (go_quiet (fail); try go_wp2)
       go_ret
       exact ⟨by first | rfl | (simp [errW_none, errW_some] <;> rfl) | (simp only [← hji9]; first | rfl | (simp [errW_none, errW_some] <;> rfl)) | (simp [*, errW_none, errW_some] <;> rfl), (hI0 HI0.out), (hB1 HB.out (IsS86.ge HI0.out)), (hK0 HK.out)⟩
     ·rw [if_neg c10] at H
      exact absurd H (by simp)
    ·rw [if_neg c8] at H
     have c8b0 : decide ((wrap64 ((wrap64 (s0_1 + 1)) - 1)) < (s0_0.length : Int)) = false := decide_eq_false c8
     clear c8
     by_cases c13 : (s0_0.length : Int) = 0
     ·rw [if_pos c13] at H
      exact absurd H (by simp)
     ·rw [if_neg c13] at H
      have c13b0 : ((s0_0.length : Int) == 0) = false := beq_eq_false_iff_ne.mpr c13
      have c13b1 : ((s0_0.length : Int) != 0) = true := bne_iff_ne.mpr c13
      have c13b2 : ¬ (s0_0 = []) := fun h_ => c13 (by rw [h_]; rfl)
      obtain ⟨ji14, hji14⟩ : ∃ j_ : Int, (Int.tmod (wrap64 ((wrap64 (s0_1 + 1)) - 1)) (s0_0.length : Int)) = j_ := ⟨_, rfl⟩
      replace H : (if 0 ≤ (ji14) then (if (ji14) < (s0_0.length : Int) then (if 0 ≤ (Int.tmod (wrap64 ((wrap64 ((wrap64 ((wrap64 (s0_1 + 1)) - 1)) * 7)) + 3)) (s0_0.length : Int)) then (if (Int.tmod (wrap64 ((wrap64 ((wrap64 ((wrap64 (s0_1 + 1)) - 1)) * 7)) + 3)) (s0_0.length : Int)) < (s0_0.length : Int) then (if a1 = 0 then (none) else (some (Int.tmod (Go.bits .xor .i64 (wrap64 ((wrap64 ((wrap64 ((wrap64 ((wrap64 (rd s0_0 (ji14))) * 131)) + (wrap64 ((wrap64 (rd s0_0 (Int.tmod (wrap64 ((wrap64 ((wrap64 ((wrap64 (s0_1 + 1)) - 1)) * 7)) + 3)) (s0_0.length : Int)))) * 1117)))) + (wrap64 ((wrap64 ((wrap64 (s0_1 + 1)) - 1)) * 29)))) + (wrap64 ((wrap64 (Int.tdiv (wrap64 ((wrap64 (s0_1 + 1)) - 1)) (s0_0.length : Int))) * 53)))) (wrap64 (Int.tdiv (wrap64 ((wrap64 ((wrap64 ((wrap64 ((wrap64 (rd s0_0 (ji14))) * 131)) + (wrap64 ((wrap64 (rd s0_0 (Int.tmod (wrap64 ((wrap64 ((wrap64 ((wrap64 (s0_1 + 1)) - 1)) * 7)) + 3)) (s0_0.length : Int)))) * 1117)))) + (wrap64 ((wrap64 ((wrap64 (s0_1 + 1)) - 1)) * 29)))) + (wrap64 ((wrap64 (Int.tdiv (wrap64 ((wrap64 (s0_1 + 1)) - 1)) (s0_0.length : Int))) * 53)))) 64))) a1, (wrap64 (s0_1 + 1))))) else (none)) else (none)) else (none)) else (none)) = some (r1, r2) := by first | (rw [hji14] at H; exact H) | (simp only [hji14] at H ⊢; exact H)
      by_cases c15 : 0 ≤ (ji14)
      ·rw [if_pos c15] at H
       have c15b0 : decide (0 ≤ (ji14)) = true := decide_eq_true c15
       clear c15
       by_cases c16 : (ji14) < (s0_0.length : Int)
       ·rw [if_pos c16] at H
        have c16b0 : decide ((ji14) < (s0_0.length : Int)) = true := decide_eq_true c16
        clear c16
        obtain ⟨ji17, hji17⟩ : ∃ j_ : Int, (Int.tmod (wrap64 ((wrap64 ((wrap64 ((wrap64 (s0_1 + 1)) - 1)) * 7)) + 3)) (s0_0.length : Int)) = j_ := ⟨_, rfl⟩
        replace H : (if 0 ≤ (ji17) then (if (ji17) < (s0_0.length : Int) then (if a1 = 0 then (none) else (some (Int.tmod (Go.bits .xor .i64 (wrap64 ((wrap64 ((wrap64 ((wrap64 ((wrap64 (rd s0_0 (ji14))) * 131)) + (wrap64 ((wrap64 (rd s0_0 (ji17))) * 1117)))) + (wrap64 ((wrap64 ((wrap64 (s0_1 + 1)) - 1)) * 29)))) + (wrap64 ((wrap64 (Int.tdiv (wrap64 ((wrap64 (s0_1 + 1)) - 1)) (s0_0.length : Int))) * 53)))) (wrap64 (Int.tdiv (wrap64 ((wrap64 ((wrap64 ((wrap64 ((wrap64 (rd s0_0 (ji14))) * 131)) + (wrap64 ((wrap64 (rd s0_0 (ji17))) * 1117)))) + (wrap64 ((wrap64 ((wrap64 (s0_1 + 1)) - 1)) * 29)))) + (wrap64 ((wrap64 (Int.tdiv (wrap64 ((wrap64 (s0_1 + 1)) - 1)) (s0_0.length : Int))) * 53)))) 64))) a1, (wrap64 (s0_1 + 1))))) else (none)) else (none)) = some (r1, r2) := by first | (rw [hji17] at H; exact H) | (simp only [hji17] at H ⊢; exact H)
        by_cases c18 : 0 ≤ (ji17)
        ·rw [if_pos c18] at H
         have c18b0 : decide (0 ≤ (ji17)) = true := decide_eq_true c18
         clear c18
         by_cases c19 : (ji17) < (s0_0.length : Int)
         ·rw [if_pos c19] at H
          have c19b0 : decide ((ji17) < (s0_0.length : Int)) = true := decide_eq_true c19
          clear c19
          by_cases c20 : a1 = 0
          ·rw [if_pos c20] at H
           exact absurd H (by simp)
          ·rw [if_neg c20] at H
           have c20b0 : (a1 == 0) = false := beq_eq_false_iff_ne.mpr c20
           have c20b1 : (a1 != 0) = true := bne_iff_ne.mpr c20
           simp only [Option.some.injEq, Prod.mk.injEq] at H
           obtain ⟨rfl, rfl⟩ := H
           obtain ⟨ASz21_0, cSz21_0, HGz21, hgz21, HSz21_0⟩ := HI0.out
           have hcz21_0 := cellS86_0 HGz21
           have hcz21_1 := cellS86_1 HGz21
           have hfz21_1 := blk_frozen HGz21 1
           clear HGz21 hgz21
           have p148 : 0 ≤ ((ji14) : Int) := of_decide_eq_true (by first | (with_reducible assumption) | assumption)
           have q148 : (ji14) < (s0_0.length : Int) := of_decide_eq_true (by first | (with_reducible assumption) | assumption)
           obtain ⟨ad148, e148, hx148_0⟩ := Kd.at_int HSz21_0 (ji14) p148 q148
           cases e148
           replace hx148_0 := pw_cell_below HB.out hx148_0
           replace p148 := eq_true p148
           replace q148 := eq_true q148
           have p149 : 0 ≤ ((ji17) : Int) := of_decide_eq_true (by first | (with_reducible assumption) | assumption)
           have q149 : (ji17) < (s0_0.length : Int) := of_decide_eq_true (by first | (with_reducible assumption) | assumption)
           obtain ⟨ad149, e149, hx149_0⟩ := Kd.at_int HSz21_0 (ji17) p149 q149
           obtain rfl : ad148 = ad149 := (by injection e149)
           replace hx149_0 := pw_cell_below HB.out hx149_0
           replace p149 := eq_true p149
           replace q149 := eq_true q149
           go_wp2
           repeat (go_quiet (fail); try go_wp2)
           go_ret
           exact ⟨by first | rfl | (simp [errW_none, errW_some] <;> rfl) | (simp only [← hji14, ← hji17]; first | rfl | (simp [errW_none, errW_some] <;> rfl)) | (simp [*, errW_none, errW_some] <;> rfl), (hI0 HI0.out), (hB1 HB.out (IsS86.ge HI0.out)), (hK0 HK.out)⟩
         ·rw [if_neg c19] at H
          exact absurd H (by simp)
        ·rw [if_neg c18] at H
         exact absurd H (by simp)
       ·rw [if_neg c16] at H
        exact absurd H (by simp)
      ·rw [if_neg c15] at H
       exact absurd H (by simp)

/-! ### spec_l1Rd_one: function 43 -/
def spec_l1Rd_one.f (k : Nat) (s0_0 : List Int) (s0_1 : Int) (l1 : List Int) : Option (Int × Int) := (spec_l1Rd_pick.f k s0_0 s0_1 (l1.length : Int)).bind fun bt150 => (if 0 ≤ bt150.1 then (if bt150.1 < (l1.length : Int) then (some (rd l1 bt150.1, bt150.2)) else (none)) else (none))
theorem spec_l1Rd_one.mono : ∀ a0 a1 a2 k, LeO (spec_l1Rd_one.f k a0 a1 a2) (spec_l1Rd_one.f (k + 1) a0 a1 a2) := by
 intro a0 a1 a2 k
 unfold spec_l1Rd_one.f
 repeat' first
   | (with_reducible exact spec_l1Rd_pick.mono _ _ _ _)
   | (with_reducible exact LeO.refl _)
   | (with_reducible exact LeO.none _)
   | (with_reducible refine LeO.ite ?_ ?_)
   | (with_reducible refine LeO.bind ?_ (fun _ => ?_))
   | exact spec_l1Rd_pick.mono _ _ _ _
   | exact LeO.none _
   | refine LeO.ite ?_ ?_
   | refine LeO.bind ?_ (fun _ => ?_)
set_option maxHeartbeats 8000000 in
set_option maxRecDepth 100000 in
theorem spec_l1Rd_one.calls (k : Nat) (g : Nat) (s0_0 : List Int) (s0_1 : Int) (A1 : Option Addr) (c1 : Nat) (l1 : List Int) (r1 : Int) (r2 : Int) (w0 w : World) (hI : IsS86 w0 w g s0_0 s0_1) (hB : Below w0.heap.size w0 w) (hr1 : Kd.C (Kd.int .i64) w A1 l1.length l1) (hc1 : l1.length ≤ c1) (hf1 : ∀ ad, A1 = some ad → 0 < l1.length → ad.block ≠ g) (h : spec_l1Rd_one.f k s0_0 s0_1 l1 = some (r1, r2)) :
  Calls Tryd.prog 43 #[.pointer (some ⟨g, 0, none⟩), .slice A1 l1.length c1] w fun e w' => e = .returned (.int .i64 r1) ∧ IsS86 w0 w' g s0_0 r2 ∧ Below w0.heap.size w0 w' ∧ KeepBut w w' g none := by
 have HR1 := Aside0.mk hr1
 have HC1 := Aside0.mk hc1
 clear hr1 hc1
 have HI0 := Aside0.mk hI
 have HK := m_ (KeepBut.refl w g none)
 have HL := Aside0.mk hB.size
 clear hI
 have HW0 := Aside0.mk hB.size
 have HB := Aside0.mk hB
 clear hB
 have H : ((spec_l1Rd_pick.f k s0_0 s0_1 (l1.length : Int)).bind fun bt150 => (if 0 ≤ bt150.1 then (if bt150.1 < (l1.length : Int) then (some (rd l1 bt150.1, bt150.2)) else (none)) else (none))) = some (r1, r2) := h
 clear h
 replace H := Option.bind_eq_some_iff.mp H
 obtain ⟨⟨t150, t151⟩, A30, H⟩ := H
 replace H : (if 0 ≤ t150 then (if t150 < (l1.length : Int) then (some (rd l1 t150, t151)) else (none)) else (none)) = some (r1, r2) := H
 have A3 := Aside0.mk A30
 clear A30
 by_cases c4 : 0 ≤ t150
 ·rw [if_pos c4] at H
  have c4b0 : decide (0 ≤ t150) = true := decide_eq_true c4
  clear c4
  by_cases c5 : t150 < (l1.length : Int)
  ·rw [if_pos c5] at H
   have c5b0 : decide (t150 < (l1.length : Int)) = true := decide_eq_true c5
   clear c5
   simp only [Option.some.injEq, Prod.mk.injEq] at H
   obtain ⟨rfl, rfl⟩ := H
   go_enter Tryd.func43, Tryd.ntmps43
   go_wp2_with (first | ((with_reducible refine gate_callee (f := 46) rfl ?_); refine goesL_ (some 9) rfl rfl Tryd.func46 (by kernel_rfl) rfl #[.pointer (some ⟨g, 0, none⟩), .int .i64 (l1.length : Int)] rfl gl_ ?_; (with_reducible refine (spec_l1Rd_pick.calls k g s0_0 s0_1 (l1.length : Int) t150 t151 w0 _ ?side1 ?side2 A3.out).mono ?_); (case side1 => exact hI0 HI0.out); (case side2 => exact hB1 HB.out (IsS86.ge HI0.out)); rintro e w6 ⟨rfl, hi, hb, hk⟩; refine ⟨_, rfl, ?_⟩; have n0_ := m_ (KeepBut.trans (hK0 HK.out) hk (.inl rfl)); have n1_ := m_ (hb); have n2_ := m_ (hi); clear HK HB HI0; have HK := n0_; have HB := n1_; have HI0 := n2_; clear n0_ n1_ n2_; (try clear hb); (try clear hb2); (try clear hk); (try clear hi); have p152 : 0 ≤ (t150 : Int) := of_decide_eq_true (by first | (with_reducible assumption) | assumption); have q152 : t150 < (l1.length : Int) := of_decide_eq_true (by first | (with_reducible assumption) | assumption); obtain ⟨ad152, e152, hx152_0⟩ := Kd.at_int HR1.out t150 p152 q152; cases e152; replace hx152_0 := keep_cell HK.out hx152_0 (by first | (rw [add_block]; exact hf1 _ rfl (by omega)) | exact hf1 _ rfl (by omega) | exact hf1 ad152 rfl (by omega)); replace p152 := eq_true p152; replace q152 := eq_true q152))
   go_ret
   exact ⟨rf_, (hI0 HI0.out), (hB1 HB.out (IsS86.ge HI0.out)), (hK0 HK.out)⟩
  ·rw [if_neg c5] at H
   exact absurd H (by simp)
 ·rw [if_neg c4] at H
  exact absurd H (by simp)

/-! ### spec_l15Op: function 75 -/
mutual
def spec_l15Op.j0 : Nat → Int → Int → Bool → List Int → Int → Int → Int → Int → Option (Int × Int × Int × Int)
 | 0, _, _, _, _, _, _, _, _ => none
 | k + 1, x1, x13, x14, x1000, x1001, x159000, x159001, x159002 => if x14 = true then ((spec_l1Rd_pick.f k x1000 x1001 20).bind fun bt159 => ((spec_l1Rd_one.f k x1000 bt159.2 (([bt159.1, 9999, 1] : List Int))).bind fun bt164 => (some (x159000, x159001, bt164.1, bt164.2)))) else (if x13 = 2 then (spec_l15Op.j1 k x1 x13 (x13 == 2) x1000 x1001 x159000 x159001 x159002) else (spec_l15Op.j1 k x1 x13 (x13 == 13) x1000 x1001 x159000 x159001 x159002))
def spec_l15Op.j1 : Nat → Int → Int → Bool → List Int → Int → Int → Int → Int → Option (Int × Int × Int × Int)
 | 0, _, _, _, _, _, _, _, _ => none
 | k + 1, x1, x13, x23, x1000, x1001, x159000, x159001, x159002 => if x23 = true then ((spec_l1Rd_pick.f k x1000 x1001 8).bind fun bt166 => (some (x159000, x159001, bt166.1, bt166.2))) else (if x13 = 5 then ((spec_l1Rd_pick.f k x1000 x1001 x1).bind fun bt168 => (some (x159000, x159001, bt168.1, bt168.2))) else (if x13 = 9 then (spec_l15Op.j2 k x13 (x13 == 9) x1000 x1001 x159000 x159001 x159002) else (spec_l15Op.j2 k x13 (x13 == 10) x1000 x1001 x159000 x159001 x159002)))
def spec_l15Op.j2 : Nat → Int → Bool → List Int → Int → Int → Int → Int → Option (Int × Int × Int × Int)
 | 0, _, _, _, _, _, _, _ => none
 | k + 1, x13, x35, x1000, x1001, x159000, x159001, x159002 => if x35 = true then ((spec_l1Rd_pick.f k x1000 x1001 4).bind fun bt170 => (some (x159000, x159001, bt170.1, bt170.2))) else (if x13 = 11 then (some (x159000, 0, x159002, x1001)) else (some (x159000, x159001, x159002, x1001)))
end
def spec_l15Op.f (k : Nat) (s0_0 : List Int) (s0_1 : Int) (a1 : Int) : Option (Int × Int × Int × Int) := (spec_l1Rd_pick.f k s0_0 s0_1 13).bind fun bt154 => ((spec_l1Rd_pick.f k s0_0 bt154.2 8).bind fun bt156 => (if (wrap64 (1 + bt154.1)) = 1 then (spec_l15Op.j0 k a1 (wrap64 (1 + bt154.1)) ((wrap64 (1 + bt154.1)) == 1) s0_0 bt156.2 (wrap64 (1 + bt154.1)) bt156.1 0) else (spec_l15Op.j0 k a1 (wrap64 (1 + bt154.1)) ((wrap64 (1 + bt154.1)) == 3) s0_0 bt156.2 (wrap64 (1 + bt154.1)) bt156.1 0)))
theorem spec_l15Op.mono_l : ∀ k, (∀ y0 y1 y2 y3 y4 y5 y6 y7, LeO (spec_l15Op.j0 k y0 y1 y2 y3 y4 y5 y6 y7) (spec_l15Op.j0 (k + 1) y0 y1 y2 y3 y4 y5 y6 y7)) ∧ (∀ y0 y1 y2 y3 y4 y5 y6 y7, LeO (spec_l15Op.j1 k y0 y1 y2 y3 y4 y5 y6 y7) (spec_l15Op.j1 (k + 1) y0 y1 y2 y3 y4 y5 y6 y7)) ∧ (∀ y0 y1 y2 y3 y4 y5 y6, LeO (spec_l15Op.j2 k y0 y1 y2 y3 y4 y5 y6) (spec_l15Op.j2 (k + 1) y0 y1 y2 y3 y4 y5 y6))
 | 0 => ⟨fun _ _ _ _ _ _ _ _ r h => by simp [spec_l15Op.j0] at h, fun _ _ _ _ _ _ _ _ r h => by simp [spec_l15Op.j1] at h, fun _ _ _ _ _ _ _ r h => by simp [spec_l15Op.j2] at h⟩
 | k + 1 => by
  obtain ⟨ih0, ih1, ih2⟩ := spec_l15Op.mono_l k
  refine ⟨?_, ?_, ?_⟩
  ·intro y0 y1 y2 y3 y4 y5 y6 y7
   unfold spec_l15Op.j0
   repeat' first
   | (with_reducible exact ih0 _ _ _ _ _ _ _ _)
   | (with_reducible exact ih1 _ _ _ _ _ _ _ _)
   | (with_reducible exact ih2 _ _ _ _ _ _ _)
   | (with_reducible exact spec_l1Rd_one.mono _ _ _ _)
   | (with_reducible exact spec_l1Rd_pick.mono _ _ _ _)
   | (with_reducible exact LeO.refl _)
   | (with_reducible exact LeO.none _)
   | (with_reducible refine LeO.ite ?_ ?_)
   | (with_reducible refine LeO.bind ?_ (fun _ => ?_))
   | exact ih0 _ _ _ _ _ _ _ _
   | exact ih1 _ _ _ _ _ _ _ _
   | exact ih2 _ _ _ _ _ _ _
   | exact spec_l1Rd_one.mono _ _ _ _
   | exact spec_l1Rd_pick.mono _ _ _ _
   | exact LeO.none _
   | refine LeO.ite ?_ ?_
   | refine LeO.bind ?_ (fun _ => ?_)
  ·intro y0 y1 y2 y3 y4 y5 y6 y7
   unfold spec_l15Op.j1
   repeat' first
   | (with_reducible exact ih0 _ _ _ _ _ _ _ _)
   | (with_reducible exact ih1 _ _ _ _ _ _ _ _)
   | (with_reducible exact ih2 _ _ _ _ _ _ _)
   | (with_reducible exact spec_l1Rd_one.mono _ _ _ _)
   | (with_reducible exact spec_l1Rd_pick.mono _ _ _ _)
   | (with_reducible exact LeO.refl _)
   | (with_reducible exact LeO.none _)
   | (with_reducible refine LeO.ite ?_ ?_)
   | (with_reducible refine LeO.bind ?_ (fun _ => ?_))
   | exact ih0 _ _ _ _ _ _ _ _
   | exact ih1 _ _ _ _ _ _ _ _
   | exact ih2 _ _ _ _ _ _ _
   | exact spec_l1Rd_one.mono _ _ _ _
   | exact spec_l1Rd_pick.mono _ _ _ _
   | exact LeO.none _
   | refine LeO.ite ?_ ?_
   | refine LeO.bind ?_ (fun _ => ?_)
  ·intro y0 y1 y2 y3 y4 y5 y6
   unfold spec_l15Op.j2
   repeat' first
   | (with_reducible exact ih0 _ _ _ _ _ _ _ _)
   | (with_reducible exact ih1 _ _ _ _ _ _ _ _)
   | (with_reducible exact ih2 _ _ _ _ _ _ _)
   | (with_reducible exact spec_l1Rd_one.mono _ _ _ _)
   | (with_reducible exact spec_l1Rd_pick.mono _ _ _ _)
   | (with_reducible exact LeO.refl _)
   | (with_reducible exact LeO.none _)
   | (with_reducible refine LeO.ite ?_ ?_)
   | (with_reducible refine LeO.bind ?_ (fun _ => ?_))
   | exact ih0 _ _ _ _ _ _ _ _
   | exact ih1 _ _ _ _ _ _ _ _
   | exact ih2 _ _ _ _ _ _ _
   | exact spec_l1Rd_one.mono _ _ _ _
   | exact spec_l1Rd_pick.mono _ _ _ _
   | exact LeO.none _
   | refine LeO.ite ?_ ?_
   | refine LeO.bind ?_ (fun _ => ?_)
theorem spec_l15Op.mono : ∀ a0 a1 a2 k, LeO (spec_l15Op.f k a0 a1 a2) (spec_l15Op.f (k + 1) a0 a1 a2) := by
 intro a0 a1 a2 k
 obtain ⟨ih0, ih1, ih2⟩ := spec_l15Op.mono_l k
 unfold spec_l15Op.f
 repeat' first
   | (with_reducible exact ih0 _ _ _ _ _ _ _ _)
   | (with_reducible exact ih1 _ _ _ _ _ _ _ _)
   | (with_reducible exact ih2 _ _ _ _ _ _ _)
   | (with_reducible exact spec_l1Rd_one.mono _ _ _ _)
   | (with_reducible exact spec_l1Rd_pick.mono _ _ _ _)
   | (with_reducible exact LeO.refl _)
   | (with_reducible exact LeO.none _)
   | (with_reducible refine LeO.ite ?_ ?_)
   | (with_reducible refine LeO.bind ?_ (fun _ => ?_))
   | exact ih0 _ _ _ _ _ _ _ _
   | exact ih1 _ _ _ _ _ _ _ _
   | exact ih2 _ _ _ _ _ _ _
   | exact spec_l1Rd_one.mono _ _ _ _
   | exact spec_l1Rd_pick.mono _ _ _ _
   | exact LeO.none _
   | refine LeO.ite ?_ ?_
   | refine LeO.bind ?_ (fun _ => ?_)
set_option maxHeartbeats 8000000 in
set_option maxRecDepth 100000 in
theorem spec_l15Op.calls (k : Nat) (g : Nat) (s0_0 : List Int) (s0_1 : Int) (a1 : Int) (r1 : Int) (r2 : Int) (r3 : Int) (r4 : Int) (w0 w : World) (hI : IsS86 w0 w g s0_0 s0_1) (hB : Below w0.heap.size w0 w) (h : spec_l15Op.f k s0_0 s0_1 a1 = some (r1, r2, r3, r4)) :
  Calls Tryd.prog 75 #[.pointer (some ⟨g, 0, none⟩), .int .i64 a1] w fun e w' => e = .returned (.agg #[.int .i64 r1, .int .i64 r2, .int .i64 r3]) ∧ IsS86 w0 w' g s0_0 r4 ∧ Below w0.heap.size w0 w' ∧ KeepBut w w' g none := by
 have hu107 := Tryd.underlying107
 have HI0 := Aside0.mk hI
 have HK := m_ (KeepBut.refl w g none)
 have HL := Aside0.mk hB.size
 clear hI
 have HW0 := Aside0.mk hB.size
 have HB := Aside0.mk hB
 clear hB
 have H : ((spec_l1Rd_pick.f k s0_0 s0_1 13).bind fun bt154 => ((spec_l1Rd_pick.f k s0_0 bt154.2 8).bind fun bt156 => (if (wrap64 (1 + bt154.1)) = 1 then (spec_l15Op.j0 k a1 (wrap64 (1 + bt154.1)) ((wrap64 (1 + bt154.1)) == 1) s0_0 bt156.2 (wrap64 (1 + bt154.1)) bt156.1 0) else (spec_l15Op.j0 k a1 (wrap64 (1 + bt154.1)) ((wrap64 (1 + bt154.1)) == 3) s0_0 bt156.2 (wrap64 (1 + bt154.1)) bt156.1 0)))) = some (r1, r2, r3, r4) := h
 clear h
 replace H := Option.bind_eq_some_iff.mp H
 obtain ⟨⟨t154, t155⟩, A30, H⟩ := H
 replace H : ((spec_l1Rd_pick.f k s0_0 t155 8).bind fun bt156 => (if (wrap64 (1 + t154)) = 1 then (spec_l15Op.j0 k a1 (wrap64 (1 + t154)) ((wrap64 (1 + t154)) == 1) s0_0 bt156.2 (wrap64 (1 + t154)) bt156.1 0) else (spec_l15Op.j0 k a1 (wrap64 (1 + t154)) ((wrap64 (1 + t154)) == 3) s0_0 bt156.2 (wrap64 (1 + t154)) bt156.1 0))) = some (r1, r2, r3, r4) := H
 have A3 := Aside0.mk A30
 clear A30
 replace H := Option.bind_eq_some_iff.mp H
 obtain ⟨⟨t156, t157⟩, A40, H⟩ := H
 replace H : (if (wrap64 (1 + t154)) = 1 then (spec_l15Op.j0 k a1 (wrap64 (1 + t154)) ((wrap64 (1 + t154)) == 1) s0_0 t157 (wrap64 (1 + t154)) t156 0) else (spec_l15Op.j0 k a1 (wrap64 (1 + t154)) ((wrap64 (1 + t154)) == 3) s0_0 t157 (wrap64 (1 + t154)) t156 0)) = some (r1, r2, r3, r4) := H
 have A4 := Aside0.mk A40
 clear A40
 have HC5 := Aside0.mk H
 clear H
 go_enter Tryd.func75, Tryd.ntmps75
 go_upto_if 14 with (first | ((with_reducible refine gate_dst (N := 4) rfl ?_); refine box_event ?hg (N := 4) ?hd (cs := #[.int .i64 0, .int .i64 0, .int .i64 0]) (t := 107) ?hr ?_; (case hd => rfl); (case hg => rfl); (case hr => first | (go_simp; done) | (go_simp; rfl)); intro gb153 hg w6 hbox hb; have n0_ := m_ (IsS86.below ((hI0 HI0.out)) hb); have n1_ := m_ (KeepBut.trans (hK0 HK.out) (KeepBut.of_below hb g none) (.inl rfl)); have n2_ := m_ (below_step ((hB1 HB.out (IsS86.ge HI0.out))) hb); have n3_ := m_ (hbox); have n4_ := m_ ((by rw [hg]; exact (keep_size (w := w) (g := g) (row := none) (hK0 HK.out)) : w.heap.size ≤ gb153)); have n5_ := m_ ((Nat.le_trans HW0.out (by rw [hg]; exact (keep_size (w := w) (g := g) (row := none) (hK0 HK.out)) : w.heap.size ≤ gb153) : w0.heap.size ≤ gb153)); have n6_ := m_ ((by rw [hg]; exact Nat.ne_of_lt (IsS86.lt (show IsS86 w0 _ g s0_0 s0_1 from (hI0 HI0.out))) : g ≠ gb153)); have n7_ := m_ ((by rw [hg]; exact Nat.ne_of_gt (IsS86.lt (show IsS86 w0 _ g s0_0 s0_1 from (hI0 HI0.out))) : gb153 ≠ g)); clear HI0 HK HB; have HI0 := n0_; have HK := n1_; have HB := n2_; have BK153 := n3_; have GW153 := n4_; have GE153 := n5_; have NB0_153 := n6_; have NB153_0 := n7_; clear n0_ n1_ n2_ n3_ n4_ n5_ n6_ n7_ hb hbox hg) | ((with_reducible refine gate_callee (f := 46) rfl ?_); refine goesL_ (some 7) rfl rfl Tryd.func46 (by kernel_rfl) rfl #[.pointer (some ⟨g, 0, none⟩), .int .i64 13] rfl gl_ ?_; (with_reducible refine (spec_l1Rd_pick.calls k g s0_0 s0_1 13 t154 t155 w0 _ ?side1 ?side2 A3.out).mono ?_); (case side1 => exact hI1 HI0.out NB0_153.out); (case side2 => exact hB2 HB.out (IsS86.ge HI0.out) GE153.out); rintro e w7 ⟨rfl, hi, hb, hk⟩; refine ⟨_, rfl, ?_⟩; have n0_ := m_ (KeepBut.blk hk (g' := gb153) (o := .cells #[.int .i64 0, .int .i64 0, .int .i64 0] 107 (0, 0)) (kN BK153.out) NB153_0.out (by simp)); have n1_ := m_ (KeepBut.trans (hK1 HK.out GW153.out) hk (.inl rfl)); have n2_ := m_ (hb); have n3_ := m_ (hi); clear BK153 HK HB HI0; have BK153 := n0_; have HK := n1_; have HB := n2_; have HI0 := n3_; clear n0_ n1_ n2_ n3_; (try clear hb); (try clear hb2); (try clear hk); (try clear hi)) | ((with_reducible refine gate_callee (f := 46) rfl ?_); refine goesL_ (some 10) rfl rfl Tryd.func46 (by kernel_rfl) rfl #[.pointer (some ⟨g, 0, none⟩), .int .i64 8] rfl gl_ ?_; (with_reducible refine (spec_l1Rd_pick.calls k g s0_0 t155 8 t156 t157 w0 _ ?side1 ?side2 A4.out).mono ?_); (case side1 => exact hI1 HI0.out NB0_153.out); (case side2 => exact hB2 HB.out (IsS86.ge HI0.out) GE153.out); rintro e w8 ⟨rfl, hi, hb, hk⟩; refine ⟨_, rfl, ?_⟩; have n0_ := m_ (KeepBut.blk hk (g' := gb153) (o := .cells #[.int .i64 0, .int .i64 0, .int .i64 0] 107 (0, 0)) (kN BK153.out) NB153_0.out (by simp)); have n1_ := m_ (KeepBut.trans (hK1 HK.out GW153.out) hk (.inl rfl)); have n2_ := m_ (hb); have n3_ := m_ (hi); clear BK153 HK HB HI0; have BK153 := n0_; have HK := n1_; have HB := n2_; have HI0 := n3_; clear n0_ n1_ n2_ n3_; (try clear hb); (try clear hb2); (try clear hk); (try clear hi)) | ((with_reducible refine gate_dst (N := 5) rfl ?_); refine box_event ?hg (N := 5) ?hd (cs := #[.int .i64 0, .int .i64 0, .int .i64 0]) (t := 107) ?hr ?_; (case hd => rfl); (case hg => rfl); (case hr => first | (go_simp; done) | (go_simp; rfl)); intro gb158 hg w9 hbox hb; have n0_ := m_ (IsS86.below ((hI1 HI0.out NB0_153.out)) hb); have n1_ := m_ (blk_below (kN BK153.out) hb); have n2_ := m_ (KeepBut.trans (hK1 HK.out GW153.out) (KeepBut.of_below hb g none) (.inl rfl)); have n3_ := m_ (below_step ((hB2 HB.out (IsS86.ge HI0.out) GE153.out)) hb); have n4_ := m_ (hbox); have n5_ := m_ ((by rw [hg]; exact (keep_size (w := w) (g := g) (row := none) (hK1 HK.out GW153.out)) : w.heap.size ≤ gb158)); have n6_ := m_ ((Nat.le_trans HW0.out (by rw [hg]; exact (keep_size (w := w) (g := g) (row := none) (hK1 HK.out GW153.out)) : w.heap.size ≤ gb158) : w0.heap.size ≤ gb158)); have n7_ := m_ (nL hg BK153.out); have n8_ := m_ (nG hg BK153.out); have n9_ := m_ ((by rw [hg]; exact Nat.ne_of_lt (IsS86.lt (show IsS86 w0 _ g s0_0 t157 from (hI1 HI0.out NB0_153.out))) : g ≠ gb158)); have n10_ := m_ ((by rw [hg]; exact Nat.ne_of_gt (IsS86.lt (show IsS86 w0 _ g s0_0 t157 from (hI1 HI0.out NB0_153.out))) : gb158 ≠ g)); clear HI0 BK153 HK HB; have HI0 := n0_; have BK153 := n1_; have HK := n2_; have HB := n3_; have BK158 := n4_; have GW158 := n5_; have GE158 := n6_; have NB153_158 := n7_; have NB158_153 := n8_; have NB0_158 := n9_; have NB158_0 := n10_; clear n0_ n1_ n2_ n3_ n4_ n5_ n6_ n7_ n8_ n9_ n10_ hb hbox hg; have hnb10 := NB158_153.out; have hnc10 := NB153_158.out; have hnb11 := NB158_0.out; have hnc11 := NB0_158.out; have hcz12_0 : w9.cell? ⟨gb158, 0, none⟩ = some (.int .i64 0) := bc BK158 0; have hcz12_1 : w9.cell? ⟨gb158, 1, none⟩ = some (.int .i64 0) := bc BK158 1; have hcz12_2 : w9.cell? ⟨gb158, 2, none⟩ = some (.int .i64 0) := bc BK158 2; have hfz12_0 := blk_frozen BK158.out 0; have hfz12_1 := blk_frozen BK158.out 1; have hfz12_2 := blk_frozen BK158.out 2))
 (try simp only [Act.put, List.setIfInBounds_toArray, List.set_cons_zero, List.set_cons_succ])
 go_cut [14] (fun v14 wc => ∃ (kq : Nat) (x14_4 : Bool), v14 = .bool x14_4 ∧ Aside0 (spec_l15Op.j0 kq a1 (wrap64 (1 + t154)) x14_4 s0_0 t157 (wrap64 (1 + t154)) t156 0 = some (r1, r2, r3, r4)) ∧ Aside0 (kq ≤ k) ∧ Aside0 (wc.heap[gb153]? = some (.cells #[.int .i64 0, .int .i64 0, .int .i64 0] 107 (0, 0))) ∧ Aside0 (wc.heap[gb158]? = some (.cells #[.int .i64 (wrap64 (1 + t154)), .int .i64 t156, .int .i64 0] 107 (0, 0))) ∧ Aside0 (IsS86 w0 wc g s0_0 t157) ∧ Aside0 (KeepBut w wc g none) ∧ Aside0 (Below w0.heap.size w0 wc))
 case first =>
  have H := HC5.out
  clear HC5
  by_cases c13 : (wrap64 (1 + t154)) = 1
  ·rw [if_pos c13] at H
   have c13b0 : ((wrap64 (1 + t154)) == 1) = true := beq_iff_eq.mpr c13
   have c13b1 : ((wrap64 (1 + t154)) != 1) = false := bne_eq_false_iff_eq.mpr c13
   clear c13
   (first | rw [c13b0] | (simp only [i64_w, i32_w]; rw [c13b0]) | skip)
   have H' := Aside0.mk H
   clear H
   go_wp2
   go_meet
   case rel => exact ⟨_, (((wrap64 (1 + t154)) == 1)), (by first | rfl | (simp; done) | (simp [*]; done)), H', ⟨by first | omega | exact Nat.le_refl _⟩, ⟨kF BK153.out NB153_158.out⟩, ⟨kP BK158.out⟩, ⟨(hI2 HI0.out NB0_153.out NB0_158.out)⟩, ⟨(hK2 HK.out GW153.out GW158.out)⟩, ⟨(hB3 HB.out (IsS86.ge HI0.out) GE153.out GE158.out)⟩⟩
  ·rw [if_neg c13] at H
   have c13b0 : ((wrap64 (1 + t154)) == 1) = false := beq_eq_false_iff_ne.mpr c13
   have c13b1 : ((wrap64 (1 + t154)) != 1) = true := bne_iff_ne.mpr c13
   (first | rw [c13b0] | (simp only [i64_w, i32_w]; rw [c13b0]) | skip)
   have H' := Aside0.mk H
   clear H
   go_wp2
   go_meet
   case rel => exact ⟨_, (((wrap64 (1 + t154)) == 3)), (by first | rfl | (simp; done) | (simp [*]; done)), H', ⟨by first | omega | exact Nat.le_refl _⟩, ⟨kF BK153.out NB153_158.out⟩, ⟨kP BK158.out⟩, ⟨(hI2 HI0.out NB0_153.out NB0_158.out)⟩, ⟨(hK2 HK.out GW153.out GW158.out)⟩, ⟨(hB3 HB.out (IsS86.ge HI0.out) GE153.out GE158.out)⟩⟩
 case rest =>
  clear HC5
  try clear c1
  try clear p2
  try clear c4
  try clear p6
  try clear c7
  try clear c10
  try clear c11
  try clear c13
  try clear c13b0
  try clear c13b1
  obtain ⟨kq, x14_4, rfl, HA, HJ4, BK153, BK158, HI0, HK, HB⟩ := hcut
  cases kq with
  | zero => exact absurd HA.out (by simp [spec_l15Op.j0])
  | succ kj4 =>
   have H := HA.out
   clear HA
   simp only [spec_l15Op.j0] at H
   by_cases c14 : x14_4 = true
   ·subst c14
    have H1 : ((spec_l1Rd_pick.f kj4 s0_0 t157 20).bind fun bt159 => ((spec_l1Rd_one.f kj4 s0_0 bt159.2 (([bt159.1, 9999, 1] : List Int))).bind fun bt164 => (some ((wrap64 (1 + t154)), t156, bt164.1, bt164.2)))) = some (r1, r2, r3, r4) := by rw [if_pos rfl] at H; exact H
    clear H
    have H := H1
    clear H1
    replace H := Option.bind_eq_some_iff.mp H
    obtain ⟨⟨t159, t160⟩, A150, H⟩ := H
    replace H : ((spec_l1Rd_one.f kj4 s0_0 t160 (([t159, 9999, 1] : List Int))).bind fun bt164 => (some ((wrap64 (1 + t154)), t156, bt164.1, bt164.2))) = some (r1, r2, r3, r4) := H
    have A15 := Aside0.mk A150
    clear A150
    obtain ⟨y161, hy161⟩ : ∃ y_ : List Int, y_ = (([t159, 9999, 1] : List Int)) := ⟨_, rfl⟩
    replace H : ((spec_l1Rd_one.f kj4 s0_0 t160 y161).bind fun bt164 => (some ((wrap64 (1 + t154)), t156, bt164.1, bt164.2))) = some (r1, r2, r3, r4) := by first | (rw [hy161]; with_reducible exact H) | (have H2_ := (Option.bind_some _ _).symm.trans H; rw [hy161]; with_reducible exact H2_) | (have H2_ := (Option.bind_some _ _).symm.trans H; with_reducible exact H2_) | with_reducible exact H | (rw [hy161]; exact H) | exact H
    have Ny161 := Aside0.mk hy161
    clear hy161
    replace H := Option.bind_eq_some_iff.mp H
    obtain ⟨⟨t164, t165⟩, A160, H⟩ := H
    replace H : (some ((wrap64 (1 + t154)), t156, t164, t165)) = some (r1, r2, r3, r4) := H
    have A16 := Aside0.mk A160
    clear A160
    simp only [Option.some.injEq, Prod.mk.injEq] at H
    obtain ⟨rfl, rfl, rfl, rfl⟩ := H
    go_wp2_with (first | ((with_reducible refine gate_callee (f := 46) rfl ?_); refine goesL_ (some 19) rfl rfl Tryd.func46 (by kernel_rfl) rfl #[.pointer (some ⟨g, 0, none⟩), .int .i64 20] rfl gl_ ?_; (with_reducible refine (spec_l1Rd_pick.calls kj4 g s0_0 t157 20 t159 t160 w0 _ ?side1 ?side2 A15.out).mono ?_); (case side1 => exact hI2 HI0.out NB0_153.out NB0_158.out); (case side2 => exact hB3 HB.out (IsS86.ge HI0.out) GE153.out GE158.out); rintro e w17 ⟨rfl, hi, hb, hk⟩; refine ⟨_, rfl, ?_⟩; have n0_ := m_ (KeepBut.blk hk (g' := gb153) (o := .cells #[.int .i64 0, .int .i64 0, .int .i64 0] 107 (0, 0)) (kN BK153.out) NB153_0.out (by simp)); have n1_ := m_ (KeepBut.blk hk (g' := gb158) (o := .cells #[.int .i64 (wrap64 (1 + t154)), .int .i64 t156, .int .i64 0] 107 (0, 0)) (kN BK158.out) NB158_0.out (by simp)); have n2_ := m_ (KeepBut.trans (hK2 HK.out GW153.out GW158.out) hk (.inl rfl)); have n3_ := m_ (hb); have n4_ := m_ (hi); clear BK153 BK158 HK HB HI0; have BK153 := n0_; have BK158 := n1_; have HK := n2_; have HB := n3_; have HI0 := n4_; clear n0_ n1_ n2_ n3_ n4_; (try clear hb); (try clear hb2); (try clear hk); (try clear hi)) | ((with_reducible refine gate_dst (N := 20) rfl ?_); refine Kd.R_lit (Kd.int .i64) _ 3 ?hg (N := 20) ?hd (xs := ([t159, 9999, 1] : List Int)) (inner := [.int .i64 t159, .int .i64 9999, .int .i64 1]) (ok := fun _ => True) (okp := fun _ => True) ?hr ?hp (fun _ hk => hk) trivial (Below.refl _ _) (Nat.le_refl _) (by simp) ?_; (case hd => rfl); (case hg => rfl); (case hr => first | (go_simp; done) | (go_simp; rfl)); (case hp => exact (Reps.one (show Kd.M (Kd.int .i64) _ _ _ t159 [.int .i64 t159] from rfl) (Reps.one (show Kd.M (Kd.int .i64) _ _ _ 9999 [.int .i64 9999] from rfl) (Reps.one (show Kd.M (Kd.int .i64) _ _ _ 1 [.int .i64 1] from rfl) (Reps.none _ _))))); intro v162 w18 ho19 hb hg_ hnew_; clear hg_ hnew_; (first | rw [← Ny161.out] at ho19 | (simp only [Int.reduceToNat] at ho19; rw [← Ny161.out] at ho19)); have n0_ := m_ (Kd.R_lower ho19 (keep_size (w := w) (g := g) (row := none) (hK2 HK.out GW153.out GW158.out))); have n1_ := m_ (blk_below (kN BK153.out) hb); have n2_ := m_ (blk_below (kN BK158.out) hb); have n3_ := m_ (IsS86.below ((hI2 HI0.out NB0_153.out NB0_158.out)) hb); have n4_ := m_ (KeepBut.trans (hK2 HK.out GW153.out GW158.out) (KeepBut.of_below hb g none) (.inl rfl)); have n5_ := m_ (below_step ((hB3 HB.out (IsS86.ge HI0.out) GE153.out GE158.out)) hb); clear BK153 BK158 HI0 HK HB; have HO163 := n0_; have BK153 := n1_; have BK158 := n2_; have HI0 := n3_; have HK := n4_; have HB := n5_; clear n0_ n1_ n2_ n3_ n4_ n5_ hb ho19; obtain ⟨Ao20, co20, eo20⟩ := Kd.R_slice HO163.out; subst eo20) | ((with_reducible refine gate_callee (f := 43) rfl ?_); refine goesL_ (some 21) rfl rfl Tryd.func43 (by kernel_rfl) rfl #[.pointer (some ⟨g, 0, none⟩), .slice Ao20 y161.length co20] rfl gl_ ?_; (with_reducible refine (spec_l1Rd_one.calls kj4 g s0_0 t160 _ _ y161 t164 t165 w0 _ ?side1 ?side2 ?side3 ?side4 ?side5 A16.out).mono ?_); (case side1 => exact hI2 HI0.out NB0_153.out NB0_158.out); (case side2 => exact hB3 HB.out (IsS86.ge HI0.out) GE153.out GE158.out); (case side3 => exact cN (Kd.R_reads' HO163.out).2.2); (case side4 => exact (Kd.R_reads' HO163.out).2.1); (case side5 => exact far_slice (IsS86.own_ne HI0.out HO163.out (by decide))); rintro e w21 ⟨rfl, hi, hb, hk⟩; refine ⟨_, rfl, ?_⟩; have n0_ := m_ (KeepBut.blk hk (g' := gb153) (o := .cells #[.int .i64 0, .int .i64 0, .int .i64 0] 107 (0, 0)) (kN BK153.out) NB153_0.out (by simp)); have n1_ := m_ (KeepBut.blk hk (g' := gb158) (o := .cells #[.int .i64 (wrap64 (1 + t154)), .int .i64 t156, .int .i64 0] 107 (0, 0)) (kN BK158.out) NB158_0.out (by simp)); have n2_ := m_ (rK (show IsS86 w0 _ g s0_0 t160 from (hI2 HI0.out NB0_153.out NB0_158.out)) (rN HO163.out) hk); have n3_ := m_ (KeepBut.trans (hK2 HK.out GW153.out GW158.out) hk (.inl rfl)); have n4_ := m_ (hb); have n5_ := m_ (hi); clear BK153 BK158 HO163 HK HB HI0; have BK153 := n0_; have BK158 := n1_; have HO163 := n2_; have HK := n3_; have HB := n4_; have HI0 := n5_; clear n0_ n1_ n2_ n3_ n4_ n5_; (try clear hb); (try clear hb2); (try clear hk); (try clear hi); have hnb22 := NB158_153.out; have hnc22 := NB153_158.out; have hnb23 := NB158_0.out; have hnc23 := NB0_158.out; have hcz24_0 : w21.cell? ⟨gb158, 0, none⟩ = some (.int .i64 (wrap64 (1 + t154))) := bc BK158 0; have hcz24_1 : w21.cell? ⟨gb158, 1, none⟩ = some (.int .i64 t156) := bc BK158 1; have hcz24_2 : w21.cell? ⟨gb158, 2, none⟩ = some (.int .i64 0) := bc BK158 2; have hfz24_0 := blk_frozen BK158.out 0; have hfz24_1 := blk_frozen BK158.out 1; have hfz24_2 := blk_frozen BK158.out 2; have hnb25 := NB153_0.out; have hnc25 := NB0_153.out; have hcz26_0 : w21.cell? ⟨gb153, 0, none⟩ = some (.int .i64 0) := bc BK153 0; have hcz26_1 : w21.cell? ⟨gb153, 1, none⟩ = some (.int .i64 0) := bc BK153 1; have hcz26_2 : w21.cell? ⟨gb153, 2, none⟩ = some (.int .i64 0) := bc BK153 2; have hfz26_0 := blk_frozen BK153.out 0; have hfz26_1 := blk_frozen BK153.out 1; have hfz26_2 := blk_frozen BK153.out 2))
    refine bodyPost_ret (results_cell_row rfl _ _ gb153 107 #[.int .i64 (wrap64 (1 + t154)), .int .i64 t156, .int .i64 t164] (0, 0) _ rfl (kR BK153.out NB153_158.out) Tryd.underlying107 rfl (by kernel_rfl)) rfl ?_
    exact ⟨rf_, (hI2 HI0.out NB0_153.out NB0_158.out), (hB3 HB.out (IsS86.ge HI0.out) GE153.out GE158.out), (hK2 HK.out GW153.out GW158.out)⟩
   ·replace c14 := Bool.eq_false_iff.mpr c14
    subst c14
    have H1 : (if (wrap64 (1 + t154)) = 2 then (spec_l15Op.j1 kj4 a1 (wrap64 (1 + t154)) ((wrap64 (1 + t154)) == 2) s0_0 t157 (wrap64 (1 + t154)) t156 0) else (spec_l15Op.j1 kj4 a1 (wrap64 (1 + t154)) ((wrap64 (1 + t154)) == 13) s0_0 t157 (wrap64 (1 + t154)) t156 0)) = some (r1, r2, r3, r4) := by rw [if_neg (show ¬ (false = true) by decide)] at H; exact H
    clear H
    have H := H1
    clear H1
    have HC27 := Aside0.mk H
    clear H
    go_upto_if 23 with (fail)
    go_cut [23] (fun v23 wc => ∃ (kq : Nat) (x23_26 : Bool), v23 = .bool x23_26 ∧ Aside0 (spec_l15Op.j1 kq a1 (wrap64 (1 + t154)) x23_26 s0_0 t157 (wrap64 (1 + t154)) t156 0 = some (r1, r2, r3, r4)) ∧ Aside0 (kq ≤ kj4) ∧ Aside0 (wc.heap[gb153]? = some (.cells #[.int .i64 0, .int .i64 0, .int .i64 0] 107 (0, 0))) ∧ Aside0 (wc.heap[gb158]? = some (.cells #[.int .i64 (wrap64 (1 + t154)), .int .i64 t156, .int .i64 0] 107 (0, 0))) ∧ Aside0 (IsS86 w0 wc g s0_0 t157) ∧ Aside0 (KeepBut w wc g none) ∧ Aside0 (Below w0.heap.size w0 wc))
    case first =>
     have H := HC27.out
     clear HC27
     by_cases c28 : (wrap64 (1 + t154)) = 2
     ·rw [if_pos c28] at H
      have c28b0 : ((wrap64 (1 + t154)) == 2) = true := beq_iff_eq.mpr c28
      have c28b1 : ((wrap64 (1 + t154)) != 2) = false := bne_eq_false_iff_eq.mpr c28
      clear c28
      (first | rw [c28b0] | (simp only [i64_w, i32_w]; rw [c28b0]) | skip)
      have H' := Aside0.mk H
      clear H
      go_wp2
      go_meet
      case rel => exact ⟨_, (((wrap64 (1 + t154)) == 2)), (by first | rfl | (simp; done) | (simp [*]; done)), H', ⟨by have := HJ4.out; first | omega | exact Nat.le_refl _⟩, ⟨kN BK153.out⟩, ⟨kN BK158.out⟩, ⟨(hI2 HI0.out NB0_153.out NB0_158.out)⟩, ⟨(hK2 HK.out GW153.out GW158.out)⟩, ⟨(hB3 HB.out (IsS86.ge HI0.out) GE153.out GE158.out)⟩⟩
     ·rw [if_neg c28] at H
      have c28b0 : ((wrap64 (1 + t154)) == 2) = false := beq_eq_false_iff_ne.mpr c28
      have c28b1 : ((wrap64 (1 + t154)) != 2) = true := bne_iff_ne.mpr c28
      (first | rw [c28b0] | (simp only [i64_w, i32_w]; rw [c28b0]) | skip)
      have H' := Aside0.mk H
      clear H
      go_wp2
      go_meet
      case rel => exact ⟨_, (((wrap64 (1 + t154)) == 13)), (by first | rfl | (simp; done) | (simp [*]; done)), H', ⟨by have := HJ4.out; first | omega | exact Nat.le_refl _⟩, ⟨kN BK153.out⟩, ⟨kN BK158.out⟩, ⟨(hI2 HI0.out NB0_153.out NB0_158.out)⟩, ⟨(hK2 HK.out GW153.out GW158.out)⟩, ⟨(hB3 HB.out (IsS86.ge HI0.out) GE153.out GE158.out)⟩⟩
    case rest =>
     clear HC27
     try clear c1
     try clear c2
     try clear p2
     try clear c4
     try clear p6
     try clear c7
     try clear c10
     try clear c11
     try clear c13
     try clear c13b0
     try clear c13b1
     try clear c14
     try clear c22
     try clear c23
     try clear c25
     try clear c28
     try clear c28b0
     try clear c28b1
     try clear p2
     try clear p6
     obtain ⟨kq, x23_26, rfl, HA, HJ26, BK153, BK158, HI0, HK, HB⟩ := hcut
     cases kq with
     | zero => exact absurd HA.out (by simp [spec_l15Op.j1])
     | succ kj26 =>
      have H := HA.out
      clear HA
      simp only [spec_l15Op.j1] at H
      by_cases c29 : x23_26 = true
      ·subst c29
       have H1 : ((spec_l1Rd_pick.f kj26 s0_0 t157 8).bind fun bt166 => (some ((wrap64 (1 + t154)), t156, bt166.1, bt166.2))) = some (r1, r2, r3, r4) := by rw [if_pos rfl] at H; exact H
       clear H
       have H := H1
       clear H1
       replace H := Option.bind_eq_some_iff.mp H
       obtain ⟨⟨t166, t167⟩, A300, H⟩ := H
       replace H : (some ((wrap64 (1 + t154)), t156, t166, t167)) = some (r1, r2, r3, r4) := H
       have A30 := Aside0.mk A300
       clear A300
       simp only [Option.some.injEq, Prod.mk.injEq] at H
       obtain ⟨rfl, rfl, rfl, rfl⟩ := H
       go_wp2_with (first | ((with_reducible refine gate_callee (f := 46) rfl ?_); refine goesL_ (some 27) rfl rfl Tryd.func46 (by kernel_rfl) rfl #[.pointer (some ⟨g, 0, none⟩), .int .i64 8] rfl gl_ ?_; (with_reducible refine (spec_l1Rd_pick.calls kj26 g s0_0 t157 8 t166 t167 w0 _ ?side1 ?side2 A30.out).mono ?_); (case side1 => exact hI2 HI0.out NB0_153.out NB0_158.out); (case side2 => exact hB3 HB.out (IsS86.ge HI0.out) GE153.out GE158.out); rintro e w31 ⟨rfl, hi, hb, hk⟩; refine ⟨_, rfl, ?_⟩; have n0_ := m_ (KeepBut.blk hk (g' := gb153) (o := .cells #[.int .i64 0, .int .i64 0, .int .i64 0] 107 (0, 0)) (kN BK153.out) NB153_0.out (by simp)); have n1_ := m_ (KeepBut.blk hk (g' := gb158) (o := .cells #[.int .i64 (wrap64 (1 + t154)), .int .i64 t156, .int .i64 0] 107 (0, 0)) (kN BK158.out) NB158_0.out (by simp)); have n2_ := m_ (KeepBut.trans (hK2 HK.out GW153.out GW158.out) hk (.inl rfl)); have n3_ := m_ (hb); have n4_ := m_ (hi); clear BK153 BK158 HK HB HI0; have BK153 := n0_; have BK158 := n1_; have HK := n2_; have HB := n3_; have HI0 := n4_; clear n0_ n1_ n2_ n3_ n4_; (try clear hb); (try clear hb2); (try clear hk); (try clear hi); have hnb32 := NB158_153.out; have hnc32 := NB153_158.out; have hnb33 := NB158_0.out; have hnc33 := NB0_158.out; have hcz34_0 : w31.cell? ⟨gb158, 0, none⟩ = some (.int .i64 (wrap64 (1 + t154))) := bc BK158 0; have hcz34_1 : w31.cell? ⟨gb158, 1, none⟩ = some (.int .i64 t156) := bc BK158 1; have hcz34_2 : w31.cell? ⟨gb158, 2, none⟩ = some (.int .i64 0) := bc BK158 2; have hfz34_0 := blk_frozen BK158.out 0; have hfz34_1 := blk_frozen BK158.out 1; have hfz34_2 := blk_frozen BK158.out 2; have hnb35 := NB153_0.out; have hnc35 := NB0_153.out; have hcz36_0 : w31.cell? ⟨gb153, 0, none⟩ = some (.int .i64 0) := bc BK153 0; have hcz36_1 : w31.cell? ⟨gb153, 1, none⟩ = some (.int .i64 0) := bc BK153 1; have hcz36_2 : w31.cell? ⟨gb153, 2, none⟩ = some (.int .i64 0) := bc BK153 2; have hfz36_0 := blk_frozen BK153.out 0; have hfz36_1 := blk_frozen BK153.out 1; have hfz36_2 := blk_frozen BK153.out 2))
       refine bodyPost_ret (results_cell_row rfl _ _ gb153 107 #[.int .i64 (wrap64 (1 + t154)), .int .i64 t156, .int .i64 t166] (0, 0) _ rfl (kR BK153.out NB153_158.out) Tryd.underlying107 rfl (by kernel_rfl)) rfl ?_
       exact ⟨rf_, (hI2 HI0.out NB0_153.out NB0_158.out), (hB3 HB.out (IsS86.ge HI0.out) GE153.out GE158.out), (hK2 HK.out GW153.out GW158.out)⟩
      ·replace c29 := Bool.eq_false_iff.mpr c29
       subst c29
       have H1 : (if (wrap64 (1 + t154)) = 5 then ((spec_l1Rd_pick.f kj26 s0_0 t157 a1).bind fun bt168 => (some ((wrap64 (1 + t154)), t156, bt168.1, bt168.2))) else (if (wrap64 (1 + t154)) = 9 then (spec_l15Op.j2 kj26 (wrap64 (1 + t154)) ((wrap64 (1 + t154)) == 9) s0_0 t157 (wrap64 (1 + t154)) t156 0) else (spec_l15Op.j2 kj26 (wrap64 (1 + t154)) ((wrap64 (1 + t154)) == 10) s0_0 t157 (wrap64 (1 + t154)) t156 0))) = some (r1, r2, r3, r4) := by rw [if_neg (show ¬ (false = true) by decide)] at H; exact H
       clear H
       have H := H1
       clear H1
       by_cases c37 : (wrap64 (1 + t154)) = 5
       ·rw [if_pos c37] at H
        have c37b0 : ((wrap64 (1 + t154)) == 5) = true := beq_iff_eq.mpr c37
        have c37b1 : ((wrap64 (1 + t154)) != 5) = false := bne_eq_false_iff_eq.mpr c37
        clear c37
        replace H := Option.bind_eq_some_iff.mp H
        obtain ⟨⟨t168, t169⟩, A380, H⟩ := H
        replace H : (some ((wrap64 (1 + t154)), t156, t168, t169)) = some (r1, r2, r3, r4) := H
        have A38 := Aside0.mk A380
        clear A380
        simp only [Option.some.injEq, Prod.mk.injEq] at H
        obtain ⟨rfl, rfl, rfl, rfl⟩ := H
        go_wp2_with (first | ((with_reducible refine gate_callee (f := 46) rfl ?_); refine goesL_ (some 33) rfl rfl Tryd.func46 (by kernel_rfl) rfl #[.pointer (some ⟨g, 0, none⟩), .int .i64 a1] rfl gl_ ?_; (with_reducible refine (spec_l1Rd_pick.calls kj26 g s0_0 t157 a1 t168 t169 w0 _ ?side1 ?side2 A38.out).mono ?_); (case side1 => exact hI2 HI0.out NB0_153.out NB0_158.out); (case side2 => exact hB3 HB.out (IsS86.ge HI0.out) GE153.out GE158.out); rintro e w39 ⟨rfl, hi, hb, hk⟩; refine ⟨_, rfl, ?_⟩; have n0_ := m_ (KeepBut.blk hk (g' := gb153) (o := .cells #[.int .i64 0, .int .i64 0, .int .i64 0] 107 (0, 0)) (kN BK153.out) NB153_0.out (by simp)); have n1_ := m_ (KeepBut.blk hk (g' := gb158) (o := .cells #[.int .i64 (wrap64 (1 + t154)), .int .i64 t156, .int .i64 0] 107 (0, 0)) (kN BK158.out) NB158_0.out (by simp)); have n2_ := m_ (KeepBut.trans (hK2 HK.out GW153.out GW158.out) hk (.inl rfl)); have n3_ := m_ (hb); have n4_ := m_ (hi); clear BK153 BK158 HK HB HI0; have BK153 := n0_; have BK158 := n1_; have HK := n2_; have HB := n3_; have HI0 := n4_; clear n0_ n1_ n2_ n3_ n4_; (try clear hb); (try clear hb2); (try clear hk); (try clear hi); have hnb40 := NB158_153.out; have hnc40 := NB153_158.out; have hnb41 := NB158_0.out; have hnc41 := NB0_158.out; have hcz42_0 : w39.cell? ⟨gb158, 0, none⟩ = some (.int .i64 (wrap64 (1 + t154))) := bc BK158 0; have hcz42_1 : w39.cell? ⟨gb158, 1, none⟩ = some (.int .i64 t156) := bc BK158 1; have hcz42_2 : w39.cell? ⟨gb158, 2, none⟩ = some (.int .i64 0) := bc BK158 2; have hfz42_0 := blk_frozen BK158.out 0; have hfz42_1 := blk_frozen BK158.out 1; have hfz42_2 := blk_frozen BK158.out 2; have hnb43 := NB153_0.out; have hnc43 := NB0_153.out; have hcz44_0 : w39.cell? ⟨gb153, 0, none⟩ = some (.int .i64 0) := bc BK153 0; have hcz44_1 : w39.cell? ⟨gb153, 1, none⟩ = some (.int .i64 0) := bc BK153 1; have hcz44_2 : w39.cell? ⟨gb153, 2, none⟩ = some (.int .i64 0) := bc BK153 2; have hfz44_0 := blk_frozen BK153.out 0; have hfz44_1 := blk_frozen BK153.out 1; have hfz44_2 := blk_frozen BK153.out 2))
        refine bodyPost_ret (results_cell_row rfl _ _ gb153 107 #[.int .i64 (wrap64 (1 + t154)), .int .i64 t156, .int .i64 t168] (0, 0) _ rfl (kR BK153.out NB153_158.out) Tryd.underlying107 rfl (by kernel_rfl)) rfl ?_
        exact ⟨rf_, (hI2 HI0.out NB0_153.out NB0_158.out), (hB3 HB.out (IsS86.ge HI0.out) GE153.out GE158.out), (hK2 HK.out GW153.out GW158.out)⟩
       ·rw [if_neg c37] at H
        have c37b0 : ((wrap64 (1 + t154)) == 5) = false := beq_eq_false_iff_ne.mpr c37
        have c37b1 : ((wrap64 (1 + t154)) != 5) = true := bne_iff_ne.mpr c37
        have HC45 := Aside0.mk H
        clear H
        go_upto_if 35 with (fail)
        go_cut [35] (fun v35 wc => ∃ (kq : Nat) (x35_44 : Bool), v35 = .bool x35_44 ∧ Aside0 (spec_l15Op.j2 kq (wrap64 (1 + t154)) x35_44 s0_0 t157 (wrap64 (1 + t154)) t156 0 = some (r1, r2, r3, r4)) ∧ Aside0 (kq ≤ kj26) ∧ Aside0 (wc.heap[gb153]? = some (.cells #[.int .i64 0, .int .i64 0, .int .i64 0] 107 (0, 0))) ∧ Aside0 (wc.heap[gb158]? = some (.cells #[.int .i64 (wrap64 (1 + t154)), .int .i64 t156, .int .i64 0] 107 (0, 0))) ∧ Aside0 (IsS86 w0 wc g s0_0 t157) ∧ Aside0 (KeepBut w wc g none) ∧ Aside0 (Below w0.heap.size w0 wc))
        case first =>
         have H := HC45.out
         clear HC45
         by_cases c46 : (wrap64 (1 + t154)) = 9
         ·rw [if_pos c46] at H
          have c46b0 : ((wrap64 (1 + t154)) == 9) = true := beq_iff_eq.mpr c46
          have c46b1 : ((wrap64 (1 + t154)) != 9) = false := bne_eq_false_iff_eq.mpr c46
          clear c46
          (first | rw [c46b0] | (simp only [i64_w, i32_w]; rw [c46b0]) | skip)
          have H' := Aside0.mk H
          clear H
          go_wp2
          go_meet
          case rel => exact ⟨_, (((wrap64 (1 + t154)) == 9)), (by first | rfl | (simp; done) | (simp [*]; done)), H', ⟨by have := HJ4.out; have := HJ26.out; first | omega | exact Nat.le_refl _⟩, ⟨kN BK153.out⟩, ⟨kN BK158.out⟩, ⟨(hI2 HI0.out NB0_153.out NB0_158.out)⟩, ⟨(hK2 HK.out GW153.out GW158.out)⟩, ⟨(hB3 HB.out (IsS86.ge HI0.out) GE153.out GE158.out)⟩⟩
         ·rw [if_neg c46] at H
          have c46b0 : ((wrap64 (1 + t154)) == 9) = false := beq_eq_false_iff_ne.mpr c46
          have c46b1 : ((wrap64 (1 + t154)) != 9) = true := bne_iff_ne.mpr c46
          (first | rw [c46b0] | (simp only [i64_w, i32_w]; rw [c46b0]) | skip)
          have H' := Aside0.mk H
          clear H
          go_wp2
          go_meet
          case rel => exact ⟨_, (((wrap64 (1 + t154)) == 10)), (by first | rfl | (simp; done) | (simp [*]; done)), H', ⟨by have := HJ4.out; have := HJ26.out; first | omega | exact Nat.le_refl _⟩, ⟨kN BK153.out⟩, ⟨kN BK158.out⟩, ⟨(hI2 HI0.out NB0_153.out NB0_158.out)⟩, ⟨(hK2 HK.out GW153.out GW158.out)⟩, ⟨(hB3 HB.out (IsS86.ge HI0.out) GE153.out GE158.out)⟩⟩
        case rest =>
         clear HC45
         try clear c1
         try clear c2
         try clear p2
         try clear c3
         try clear c4
         try clear p6
         try clear c7
         try clear c10
         try clear c11
         try clear c13
         try clear c13b0
         try clear c13b1
         try clear c14
         try clear c22
         try clear c23
         try clear c25
         try clear c28
         try clear c28b0
         try clear c28b1
         try clear c29
         try clear c32
         try clear c33
         try clear c35
         try clear c37
         try clear c37b0
         try clear c37b1
         try clear c40
         try clear c41
         try clear c43
         try clear c46
         try clear c46b0
         try clear c46b1
         try clear p2
         try clear p6
         obtain ⟨kq, x35_44, rfl, HA, HJ44, BK153, BK158, HI0, HK, HB⟩ := hcut
         cases kq with
         | zero => exact absurd HA.out (by simp [spec_l15Op.j2])
         | succ kj44 =>
          have H := HA.out
          clear HA
          simp only [spec_l15Op.j2] at H
          by_cases c47 : x35_44 = true
          ·subst c47
           have H1 : ((spec_l1Rd_pick.f kj44 s0_0 t157 4).bind fun bt170 => (some ((wrap64 (1 + t154)), t156, bt170.1, bt170.2))) = some (r1, r2, r3, r4) := by rw [if_pos rfl] at H; exact H
           clear H
           have H := H1
           clear H1
           replace H := Option.bind_eq_some_iff.mp H
           obtain ⟨⟨t170, t171⟩, A480, H⟩ := H
           replace H : (some ((wrap64 (1 + t154)), t156, t170, t171)) = some (r1, r2, r3, r4) := H
           have A48 := Aside0.mk A480
           clear A480
           simp only [Option.some.injEq, Prod.mk.injEq] at H
           obtain ⟨rfl, rfl, rfl, rfl⟩ := H
           go_wp2_with (first | ((with_reducible refine gate_callee (f := 46) rfl ?_); refine goesL_ (some 39) rfl rfl Tryd.func46 (by kernel_rfl) rfl #[.pointer (some ⟨g, 0, none⟩), .int .i64 4] rfl gl_ ?_; (with_reducible refine (spec_l1Rd_pick.calls kj44 g s0_0 t157 4 t170 t171 w0 _ ?side1 ?side2 A48.out).mono ?_); (case side1 => exact hI2 HI0.out NB0_153.out NB0_158.out); (case side2 => exact hB3 HB.out (IsS86.ge HI0.out) GE153.out GE158.out); rintro e w49 ⟨rfl, hi, hb, hk⟩; refine ⟨_, rfl, ?_⟩; have n0_ := m_ (KeepBut.blk hk (g' := gb153) (o := .cells #[.int .i64 0, .int .i64 0, .int .i64 0] 107 (0, 0)) (kN BK153.out) NB153_0.out (by simp)); have n1_ := m_ (KeepBut.blk hk (g' := gb158) (o := .cells #[.int .i64 (wrap64 (1 + t154)), .int .i64 t156, .int .i64 0] 107 (0, 0)) (kN BK158.out) NB158_0.out (by simp)); have n2_ := m_ (KeepBut.trans (hK2 HK.out GW153.out GW158.out) hk (.inl rfl)); have n3_ := m_ (hb); have n4_ := m_ (hi); clear BK153 BK158 HK HB HI0; have BK153 := n0_; have BK158 := n1_; have HK := n2_; have HB := n3_; have HI0 := n4_; clear n0_ n1_ n2_ n3_ n4_; (try clear hb); (try clear hb2); (try clear hk); (try clear hi); have hnb50 := NB158_153.out; have hnc50 := NB153_158.out; have hnb51 := NB158_0.out; have hnc51 := NB0_158.out; have hcz52_0 : w49.cell? ⟨gb158, 0, none⟩ = some (.int .i64 (wrap64 (1 + t154))) := bc BK158 0; have hcz52_1 : w49.cell? ⟨gb158, 1, none⟩ = some (.int .i64 t156) := bc BK158 1; have hcz52_2 : w49.cell? ⟨gb158, 2, none⟩ = some (.int .i64 0) := bc BK158 2; have hfz52_0 := blk_frozen BK158.out 0; have hfz52_1 := blk_frozen BK158.out 1; have hfz52_2 := blk_frozen BK158.out 2; have hnb53 := NB153_0.out; have hnc53 := NB0_153.out; have hcz54_0 : w49.cell? ⟨gb153, 0, none⟩ = some (.int .i64 0) := bc BK153 0; have hcz54_1 : w49.cell? ⟨gb153, 1, none⟩ = some (.int .i64 0) := bc BK153 1; have hcz54_2 : w49.cell? ⟨gb153, 2, none⟩ = some (.int .i64 0) := bc BK153 2; have hfz54_0 := blk_frozen BK153.out 0; have hfz54_1 := blk_frozen BK153.out 1; have hfz54_2 := blk_frozen BK153.out 2))
           refine bodyPost_ret (results_cell_row rfl _ _ gb153 107 #[.int .i64 (wrap64 (1 + t154)), .int .i64 t156, .int .i64 t170] (0, 0) _ rfl (kR BK153.out NB153_158.out) Tryd.underlying107 rfl (by kernel_rfl)) rfl ?_
           exact ⟨rf_, (hI2 HI0.out NB0_153.out NB0_158.out), (hB3 HB.out (IsS86.ge HI0.out) GE153.out GE158.out), (hK2 HK.out GW153.out GW158.out)⟩
          ·replace c47 := Bool.eq_false_iff.mpr c47
           subst c47
           have H1 : (if (wrap64 (1 + t154)) = 11 then (some ((wrap64 (1 + t154)), 0, 0, t157)) else (some ((wrap64 (1 + t154)), t156, 0, t157))) = some (r1, r2, r3, r4) := by rw [if_neg (show ¬ (false = true) by decide)] at H; exact H
           clear H
           have H := H1
           clear H1
           by_cases c55 : (wrap64 (1 + t154)) = 11
           ·rw [if_pos c55] at H
            have c55b0 : ((wrap64 (1 + t154)) == 11) = true := beq_iff_eq.mpr c55
            have c55b1 : ((wrap64 (1 + t154)) != 11) = false := bne_eq_false_iff_eq.mpr c55
            clear c55
            simp only [Option.some.injEq, Prod.mk.injEq] at H
            obtain ⟨rfl, rfl, rfl, rfl⟩ := H
            have hnb56 := NB158_153.out
            have hnc56 := NB153_158.out
            have hnb57 := NB158_0.out
            have hnc57 := NB0_158.out
            have hcz58_0 : wc.cell? ⟨gb158, 0, none⟩ = some (.int .i64 (wrap64 (1 + t154))) := bc BK158 0
            have hcz58_1 : wc.cell? ⟨gb158, 1, none⟩ = some (.int .i64 t156) := bc BK158 1
            have hcz58_2 : wc.cell? ⟨gb158, 2, none⟩ = some (.int .i64 0) := bc BK158 2
            have hfz58_0 := blk_frozen BK158.out 0
            have hfz58_1 := blk_frozen BK158.out 1
            have hfz58_2 := blk_frozen BK158.out 2
            have hnb59 := NB153_0.out
            have hnc59 := NB0_153.out
            have hcz60_0 : wc.cell? ⟨gb153, 0, none⟩ = some (.int .i64 0) := bc BK153 0
            have hcz60_1 : wc.cell? ⟨gb153, 1, none⟩ = some (.int .i64 0) := bc BK153 1
            have hcz60_2 : wc.cell? ⟨gb153, 2, none⟩ = some (.int .i64 0) := bc BK153 2
            have hfz60_0 := blk_frozen BK153.out 0
            have hfz60_1 := blk_frozen BK153.out 1
            have hfz60_2 := blk_frozen BK153.out 2
            go_wp2
            refine bodyPost_ret (results_cell_row rfl _ _ gb153 107 #[.int .i64 (wrap64 (1 + t154)), .int .i64 0, .int .i64 0] (0, 0) _ rfl (kR BK153.out NB153_158.out) Tryd.underlying107 rfl (by kernel_rfl)) rfl ?_
            exact ⟨rf_, (hI2 HI0.out NB0_153.out NB0_158.out), (hB3 HB.out (IsS86.ge HI0.out) GE153.out GE158.out), (hK2 HK.out GW153.out GW158.out)⟩
           ·rw [if_neg c55] at H
            have c55b0 : ((wrap64 (1 + t154)) == 11) = false := beq_eq_false_iff_ne.mpr c55
            have c55b1 : ((wrap64 (1 + t154)) != 11) = true := bne_iff_ne.mpr c55
            simp only [Option.some.injEq, Prod.mk.injEq] at H
            obtain ⟨rfl, rfl, rfl, rfl⟩ := H
            have hnb61 := NB158_153.out
            have hnc61 := NB153_158.out
            have hnb62 := NB158_0.out
            have hnc62 := NB0_158.out
            have hcz63_0 : wc.cell? ⟨gb158, 0, none⟩ = some (.int .i64 (wrap64 (1 + t154))) := bc BK158 0
            have hcz63_1 : wc.cell? ⟨gb158, 1, none⟩ = some (.int .i64 t156) := bc BK158 1
            have hcz63_2 : wc.cell? ⟨gb158, 2, none⟩ = some (.int .i64 0) := bc BK158 2
            have hfz63_0 := blk_frozen BK158.out 0
            have hfz63_1 := blk_frozen BK158.out 1
            have hfz63_2 := blk_frozen BK158.out 2
            have hnb64 := NB153_0.out
            have hnc64 := NB0_153.out
            have hcz65_0 : wc.cell? ⟨gb153, 0, none⟩ = some (.int .i64 0) := bc BK153 0
            have hcz65_1 : wc.cell? ⟨gb153, 1, none⟩ = some (.int .i64 0) := bc BK153 1
            have hcz65_2 : wc.cell? ⟨gb153, 2, none⟩ = some (.int .i64 0) := bc BK153 2
            have hfz65_0 := blk_frozen BK153.out 0
            have hfz65_1 := blk_frozen BK153.out 1
            have hfz65_2 := blk_frozen BK153.out 2
            go_wp2
            refine bodyPost_ret (results_cell_row rfl _ _ gb153 107 #[.int .i64 (wrap64 (1 + t154)), .int .i64 t156, .int .i64 0] (0, 0) _ rfl (kP BK153.out) Tryd.underlying107 rfl (by kernel_rfl)) rfl ?_
            exact ⟨rf_, (hI2 HI0.out NB0_153.out NB0_158.out), (hB3 HB.out (IsS86.ge HI0.out) GE153.out GE158.out), (hK2 HK.out GW153.out GW158.out)⟩

end Go.Proofs.YtcenmlpfbpogoaaDoor.P
