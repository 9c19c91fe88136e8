/- The machine side of these statements, function by function: what each Go function answers (as a Lean function), and that it does. Written by a program (mp.py) for this claim. -/
import Derived.Test.YtcenmlpfbpogoaaDoorPx0
import Derived.Test.YtcenmlpfbpogoaaDoorPx1
namespace Go.Proofs.YtcenmlpfbpogoaaDoor.P
open Go.RowKit Go.Proofs.YtcenmlpfbpogoaaDoorW.PrintWords Go.Proofs.YtcenmlpfbpogoaaDoorW.PrintLast Go.Proofs.YtcenmlpfbpogoaaDoorW.PrintMore
attribute [local go_sem] max2_int min2_int max_two min_two max_three min_three max_four min_four   -- for this text's walks alone
set_option linter.unusedVariables false
set_option linter.unusedSimpArgs false

/-! ### spec_l1Open: function 35 -/
def spec_l1Open.f (l0 : List Int) : Option (List Int × Int) := if (l0.length : Int) > 2000 then (if 2000 ≤ (l0.length : Int) then (some (l0.take 2000, 0)) else (none)) else (some (l0, 0))
set_option maxHeartbeats 8000000 in
set_option maxRecDepth 100000 in
theorem spec_l1Open.calls (A0 : Option Addr) (c0 : Nat) (l0 : List Int) (r1 : List Int) (r2 : Int) (w0 w : World) (hB : Below w0.heap.size w0 w) (hr0 : Kd.C (Kd.int .u8) w0 A0 l0.length l0) (hc0 : l0.length ≤ c0) (h : spec_l1Open.f l0 = some (r1, r2)) :
  Calls Tryd.prog 35 #[.slice A0 l0.length c0] w fun e w' => ∃ g_ : Nat, e = .returned (.pointer (some ⟨g_, 0, none⟩)) ∧ IsS86 w0 w' g_ r1 r2 ∧ Below w0.heap.size w0 w' ∧ Below w.heap.size w w' := by
 have hu86 := Tryd.underlying86
 have HR0 := Aside0.mk hr0
 have HC0 := Aside0.mk hc0
 clear hr0 hc0
 have HBW := m_ (Below.refl w.heap.size w)
 have HW0 := Aside0.mk hB.size
 have HB := Aside0.mk hB
 clear hB
 have H : (if (l0.length : Int) > 2000 then (if 2000 ≤ (l0.length : Int) then (some (l0.take 2000, 0)) else (none)) else (some (l0, 0))) = some (r1, r2) := h
 clear h
 by_cases c2 : (l0.length : Int) > 2000
 ·rw [if_pos c2] at H
  have c2b0 : decide (2000 < (l0.length : Int)) = true := decide_eq_true c2
  have c2b1 : decide (2000 < l0.length) = true := decide_eq_true (by omega)
  clear c2
  by_cases c3 : 2000 ≤ (l0.length : Int)
  ·rw [if_pos c3] at H
   have c3b0 := eq_true c3
   have c3b1 : decide (2000 ≤ (l0.length : Int)) = true := decide_eq_true c3
   clear c3
   simp only [Option.some.injEq, Prod.mk.injEq] at H
   obtain ⟨rfl, rfl⟩ := H
   obtain ⟨i04, hi04, _, hsz4, _⟩ := info_parts info5
   obtain ⟨hcut4, hA4, hC4⟩ := print_take_of (P := Tryd.prog) (Value.int .u8) 0 36 5 .i64 Tryd.underlying36 hi04 hsz4 A0 c0 l0 2000 (by omega) (of_decide_eq_true (by first | (with_reducible assumption) | assumption)) HC0.out
   have HR360 := m_ (Kd.C_of_reads (h1 := fun _ => rfl) (hA4 _ (Kd.reads_of_C HR0.out)))
   have HC360 := Aside0.mk hC4
   clear hA4 hC4 hi04 hsz4
   go_enter Tryd.func35, Tryd.ntmps35
   go_wp2_with (first | ((with_reducible refine gate_dst (N := 10) rfl ?_); refine box_event ?hg (N := 10) ?hd (cs := #[.slice A0 (l0.take 2000).length c0, .int .i64 0]) (t := 86) ?hr ?_; (case hd => rfl); (case hg => rfl); (case hr => first | (go_simp; done) | (go_simp; rfl)); intro gb361 hg w5 hbox hb; have n0_ := m_ (below_step HBW.out hb); have n1_ := m_ (below_step (bN HB.out) hb); have n2_ := m_ (hbox); have n3_ := m_ ((by rw [hg]; exact (below_size (by repeat (first | (with_reducible first | exact HBW.out | apply below_alloc | apply pw_below_drewN | apply below_drew1) | exact HBW.out))) : w.heap.size ≤ gb361)); have n4_ := m_ ((Nat.le_trans HW0.out (by rw [hg]; exact (below_size (by repeat (first | (with_reducible first | exact HBW.out | apply below_alloc | apply pw_below_drewN | apply below_drew1) | exact HBW.out))) : w.heap.size ≤ gb361) : w0.heap.size ≤ gb361)); clear HBW HB; have HBW := n0_; have HB := n1_; have BK361 := n2_; have GW361 := n3_; have GE361 := n4_; clear n0_ n1_ n2_ n3_ n4_ hb hbox hg))
   go_ret
   exact ⟨_, rfl, (show IsS86 w0 _ gb361 (l0.take 2000) 0 from ⟨_, _, by (with_reducible repeat (first | refine blk_drewN ?_ _ | refine blk_drew ?_ | refine blk_alloc ?_ _)); exact BK361.out, GE361.out, HR360.out⟩), (hB1 HB.out GE361.out), by repeat (first | (with_reducible first | exact HBW.out | apply below_alloc | apply pw_below_drewN | apply below_drew1 | refine below_set ?_ GW361.out) | exact HBW.out)⟩
  ·rw [if_neg c3] at H
   exact absurd H (by simp)
 ·rw [if_neg c2] at H
  have c2b0 : decide (2000 < (l0.length : Int)) = false := decide_eq_false c2
  have c2b1 : decide (2000 < l0.length) = false := decide_eq_false (by omega)
  clear c2
  simp only [Option.some.injEq, Prod.mk.injEq] at H
  obtain ⟨rfl, rfl⟩ := H
  go_enter Tryd.func35, Tryd.ntmps35
  go_wp2_with (first | ((with_reducible refine gate_dst (N := 10) rfl ?_); refine box_event ?hg (N := 10) ?hd (cs := #[.slice A0 l0.length c0, .int .i64 0]) (t := 86) ?hr ?_; (case hd => rfl); (case hg => rfl); (case hr => first | (go_simp; done) | (go_simp; rfl)); intro gb362 hg w6 hbox hb; have n0_ := m_ (below_step HBW.out hb); have n1_ := m_ (below_step (bN HB.out) hb); have n2_ := m_ (hbox); have n3_ := m_ ((by rw [hg]; exact (below_size (by repeat (first | (with_reducible first | exact HBW.out | apply below_alloc | apply pw_below_drewN | apply below_drew1) | exact HBW.out))) : w.heap.size ≤ gb362)); have n4_ := m_ ((Nat.le_trans HW0.out (by rw [hg]; exact (below_size (by repeat (first | (with_reducible first | exact HBW.out | apply below_alloc | apply pw_below_drewN | apply below_drew1) | exact HBW.out))) : w.heap.size ≤ gb362) : w0.heap.size ≤ gb362)); clear HBW HB; have HBW := n0_; have HB := n1_; have BK362 := n2_; have GW362 := n3_; have GE362 := n4_; clear n0_ n1_ n2_ n3_ n4_ hb hbox hg))
  go_ret
  exact ⟨_, rfl, (show IsS86 w0 _ gb362 l0 0 from ⟨_, _, by (with_reducible repeat (first | refine blk_drewN ?_ _ | refine blk_drew ?_ | refine blk_alloc ?_ _)); exact BK362.out, GE362.out, HR0.out⟩), (hB1 HB.out GE362.out), by repeat (first | (with_reducible first | exact HBW.out | apply below_alloc | apply pw_below_drewN | apply below_drew1 | refine below_set ?_ GW362.out) | exact HBW.out)⟩

/-! ### spec_l1In: function 25 -/
def spec_l1In.f (a0 : Int) (a1 : Int) (a2 : Int) : Option (Bool) := if a0 ≥ a1 then (some (decide (a0 ≤ a2))) else (some false)
set_option maxHeartbeats 8000000 in
set_option maxRecDepth 100000 in
theorem spec_l1In.calls (a0 : Int) (a1 : Int) (a2 : Int) (r : Bool) (w : World) (h : spec_l1In.f a0 a1 a2 = some r) :
  Calls Tryd.prog 25 #[.int .i64 a0, .int .i64 a1, .int .i64 a2] w fun e w' => e = .returned (.bool r) ∧ Drawn0 w w' := by
 have H : (if a0 ≥ a1 then (some (decide (a0 ≤ a2))) else (some false)) = some r := h
 clear h
 by_cases c4 : a0 ≥ a1
 ·rw [if_pos c4] at H
  have c4b0 : decide (a1 ≤ a0) = true := decide_eq_true c4
  clear c4
  obtain rfl := Option.some.inj H
  go_enter Tryd.func25, Tryd.ntmps25
  go_wp2
  go_ret
  exact ⟨by first | rfl | (simp; done) | (simp [*]; done), by repeat (first | exact Drawn0.refl _ | apply Drawn0.step)⟩
 ·rw [if_neg c4] at H
  have c4b0 : decide (a1 ≤ a0) = false := decide_eq_false c4
  clear c4
  obtain rfl := Option.some.inj H
  go_enter Tryd.func25, Tryd.ntmps25
  go_wp2
  go_ret
  exact ⟨by first | rfl | (simp; done) | (simp [*]; done), by repeat (first | exact Drawn0.refl _ | apply Drawn0.step)⟩

/-! ### spec_l10Cell: function 77 -/
def spec_l10Cell.f (a0 : Int) : Option (Bool) := (spec_l1In.f a0 0 7).bind fun t392 => (some t392)
set_option maxHeartbeats 8000000 in
set_option maxRecDepth 100000 in
theorem spec_l10Cell.calls (a0 : Int) (r : Bool) (w : World) (h : spec_l10Cell.f a0 = some r) :
  Calls Tryd.prog 77 #[.int .i64 a0] w fun e w' => e = .returned (.bool r) ∧ Drawn0 w w' := by
 have H : ((spec_l1In.f a0 0 7).bind fun t392 => (some t392)) = some r := h
 clear h
 replace H := Option.bind_eq_some_iff.mp H
 obtain ⟨t392, A20, H⟩ := H
 replace H : (some t392) = some r := H
 have A2 := Aside0.mk A20
 clear A20
 obtain rfl := Option.some.inj H
 go_enter Tryd.func77, Tryd.ntmps77
 go_wp2_with (first | ((with_reducible refine gate_callee (f := 25) rfl ?_); refine goesL_ (some 4) rfl rfl Tryd.func25 (by kernel_rfl) rfl #[.int .i64 a0, .int .i64 0, .int .i64 7] rfl gl_ ?_; (with_reducible refine (spec_l1In.calls a0 0 7 t392 _ A2.out).mono ?_); rintro e w' ⟨rfl, ⟨nd, rfl⟩⟩; refine ⟨_, rfl, ?_⟩))
 go_ret
 exact ⟨by first | rfl | (simp; done) | (simp [*]; done), by repeat (first | exact Drawn0.refl _ | apply Drawn0.step)⟩

/-! ### spec_l10Ok: function 74 -/
mutual
def spec_l10Ok.j0 : Nat → Int → Int → Bool → Int → Int → Int → Option (Bool)
 | 0, _, _, _, _, _, _ => none
 | k + 1, x1, x6, x7, x394000, x394001, x394002 => if x7 = true then ((spec_l10Cell.f x394001).bind fun t394 => (if t394 = true then ((spec_l1In.f x394002 0 9999).bind fun t395 => (some t395)) else (some false))) else (if x6 = 2 then (spec_l10Ok.j1 k x1 x6 (x6 == 2) x394000 x394001 x394002) else (spec_l10Ok.j1 k x1 x6 (x6 == 13) x394000 x394001 x394002))
def spec_l10Ok.j1 : Nat → Int → Int → Bool → Int → Int → Int → Option (Bool)
 | 0, _, _, _, _, _, _ => none
 | k + 1, x1, x6, x18, x394000, x394001, x394002 => if x18 = true then ((spec_l10Cell.f x394001).bind fun t396 => (if t396 = true then ((spec_l10Cell.f x394002).bind fun t397 => (some t397)) else (some false))) else (if x6 = 5 then ((spec_l10Cell.f x394001).bind fun t398 => (if t398 = true then ((spec_l1In.f x394002 0 (wrap64 (x1 - 1))).bind fun t399 => (some t399)) else (some false))) else (if x6 = 9 then (spec_l10Ok.j2 k x6 (x6 == 9) x394000 x394001 x394002) else (spec_l10Ok.j2 k x6 (x6 == 10) x394000 x394001 x394002)))
def spec_l10Ok.j2 : Nat → Int → Bool → Int → Int → Int → Option (Bool)
 | 0, _, _, _, _, _ => none
 | k + 1, x6, x41, x394000, x394001, x394002 => if x41 = true then ((spec_l10Cell.f x394001).bind fun t400 => (if t400 = true then ((spec_l1In.f x394002 0 3).bind fun t401 => (some t401)) else (some false))) else (if x6 = 4 then (spec_l10Ok.j3 k x6 (x6 == 4) x394000 x394001 x394002) else (if x6 = 6 then (spec_l10Ok.j3 k x6 (x6 == 6) x394000 x394001 x394002) else (if x6 = 7 then (spec_l10Ok.j3 k x6 (x6 == 7) x394000 x394001 x394002) else (if x6 = 8 then (spec_l10Ok.j3 k x6 (x6 == 8) x394000 x394001 x394002) else (spec_l10Ok.j3 k x6 (x6 == 12) x394000 x394001 x394002)))))
def spec_l10Ok.j3 : Nat → Int → Bool → Int → Int → Int → Option (Bool)
 | 0, _, _, _, _, _ => none
 | k + 1, x6, x52, x394000, x394001, x394002 => if x52 = true then ((spec_l10Cell.f x394001).bind fun t402 => (if t402 = true then (some (x394002 == 0)) else (some false))) else (if x6 = 11 then (if x394001 = 0 then (some (x394002 == 0)) else (some false)) else (some false))
end
def spec_l10Ok.f (k : Nat) (a0_0 : Int) (a0_1 : Int) (a0_2 : Int) (a1 : Int) : Option (Bool) := if a0_0 = 1 then (spec_l10Ok.j0 k a1 a0_0 (a0_0 == 1) a0_0 a0_1 a0_2) else (spec_l10Ok.j0 k a1 a0_0 (a0_0 == 3) a0_0 a0_1 a0_2)
theorem spec_l10Ok.mono_l : ∀ k, (∀ y0 y1 y2 y3 y4 y5, LeO (spec_l10Ok.j0 k y0 y1 y2 y3 y4 y5) (spec_l10Ok.j0 (k + 1) y0 y1 y2 y3 y4 y5)) ∧ (∀ y0 y1 y2 y3 y4 y5, LeO (spec_l10Ok.j1 k y0 y1 y2 y3 y4 y5) (spec_l10Ok.j1 (k + 1) y0 y1 y2 y3 y4 y5)) ∧ (∀ y0 y1 y2 y3 y4, LeO (spec_l10Ok.j2 k y0 y1 y2 y3 y4) (spec_l10Ok.j2 (k + 1) y0 y1 y2 y3 y4)) ∧ (∀ y0 y1 y2 y3 y4, LeO (spec_l10Ok.j3 k y0 y1 y2 y3 y4) (spec_l10Ok.j3 (k + 1) y0 y1 y2 y3 y4))
 | 0 => ⟨fun _ _ _ _ _ _ r h => by simp [spec_l10Ok.j0] at h, fun _ _ _ _ _ _ r h => by simp [spec_l10Ok.j1] at h, fun _ _ _ _ _ r h => by simp [spec_l10Ok.j2] at h, fun _ _ _ _ _ r h => by simp [spec_l10Ok.j3] at h⟩
 | k + 1 => by
  obtain ⟨ih0, ih1, ih2, ih3⟩ := spec_l10Ok.mono_l k
  refine ⟨?_, ?_, ?_, ?_⟩
  ·intro y0 y1 y2 y3 y4 y5
   unfold spec_l10Ok.j0
   repeat' first
   | (with_reducible exact ih0 _ _ _ _ _ _)
   | (with_reducible exact ih1 _ _ _ _ _ _)
   | (with_reducible exact ih2 _ _ _ _ _)
   | (with_reducible exact ih3 _ _ _ _ _)
   | (with_reducible exact LeO.refl _)
   | (with_reducible exact LeO.none _)
   | (with_reducible refine LeO.ite ?_ ?_)
   | (with_reducible refine LeO.bind ?_ (fun _ => ?_))
   | exact ih0 _ _ _ _ _ _
   | exact ih1 _ _ _ _ _ _
   | exact ih2 _ _ _ _ _
   | exact ih3 _ _ _ _ _
   | exact LeO.none _
   | refine LeO.ite ?_ ?_
   | refine LeO.bind ?_ (fun _ => ?_)
  ·intro y0 y1 y2 y3 y4 y5
   unfold spec_l10Ok.j1
   repeat' first
   | (with_reducible exact ih0 _ _ _ _ _ _)
   | (with_reducible exact ih1 _ _ _ _ _ _)
   | (with_reducible exact ih2 _ _ _ _ _)
   | (with_reducible exact ih3 _ _ _ _ _)
   | (with_reducible exact LeO.refl _)
   | (with_reducible exact LeO.none _)
   | (with_reducible refine LeO.ite ?_ ?_)
   | (with_reducible refine LeO.bind ?_ (fun _ => ?_))
   | exact ih0 _ _ _ _ _ _
   | exact ih1 _ _ _ _ _ _
   | exact ih2 _ _ _ _ _
   | exact ih3 _ _ _ _ _
   | exact LeO.none _
   | refine LeO.ite ?_ ?_
   | refine LeO.bind ?_ (fun _ => ?_)
  ·intro y0 y1 y2 y3 y4
   unfold spec_l10Ok.j2
   repeat' first
   | (with_reducible exact ih0 _ _ _ _ _ _)
   | (with_reducible exact ih1 _ _ _ _ _ _)
   | (with_reducible exact ih2 _ _ _ _ _)
   | (with_reducible exact ih3 _ _ _ _ _)
   | (with_reducible exact LeO.refl _)
   | (with_reducible exact LeO.none _)
   | (with_reducible refine LeO.ite ?_ ?_)
   | (with_reducible refine LeO.bind ?_ (fun _ => ?_))
   | exact ih0 _ _ _ _ _ _
   | exact ih1 _ _ _ _ _ _
   | exact ih2 _ _ _ _ _
   | exact ih3 _ _ _ _ _
   | exact LeO.none _
   | refine LeO.ite ?_ ?_
   | refine LeO.bind ?_ (fun _ => ?_)
  ·intro y0 y1 y2 y3 y4
   unfold spec_l10Ok.j3
   repeat' first
   | (with_reducible exact ih0 _ _ _ _ _ _)
   | (with_reducible exact ih1 _ _ _ _ _ _)
   | (with_reducible exact ih2 _ _ _ _ _)
   | (with_reducible exact ih3 _ _ _ _ _)
   | (with_reducible exact LeO.refl _)
   | (with_reducible exact LeO.none _)
   | (with_reducible refine LeO.ite ?_ ?_)
   | (with_reducible refine LeO.bind ?_ (fun _ => ?_))
   | exact ih0 _ _ _ _ _ _
   | exact ih1 _ _ _ _ _ _
   | exact ih2 _ _ _ _ _
   | exact ih3 _ _ _ _ _
   | exact LeO.none _
   | refine LeO.ite ?_ ?_
   | refine LeO.bind ?_ (fun _ => ?_)
theorem spec_l10Ok.mono : ∀ a0 a1 a2 a3 k, LeO (spec_l10Ok.f k a0 a1 a2 a3) (spec_l10Ok.f (k + 1) a0 a1 a2 a3) := by
 intro a0 a1 a2 a3 k
 obtain ⟨ih0, ih1, ih2, ih3⟩ := spec_l10Ok.mono_l k
 unfold spec_l10Ok.f
 repeat' first
   | (with_reducible exact ih0 _ _ _ _ _ _)
   | (with_reducible exact ih1 _ _ _ _ _ _)
   | (with_reducible exact ih2 _ _ _ _ _)
   | (with_reducible exact ih3 _ _ _ _ _)
   | (with_reducible exact LeO.refl _)
   | (with_reducible exact LeO.none _)
   | (with_reducible refine LeO.ite ?_ ?_)
   | (with_reducible refine LeO.bind ?_ (fun _ => ?_))
   | exact ih0 _ _ _ _ _ _
   | exact ih1 _ _ _ _ _ _
   | exact ih2 _ _ _ _ _
   | exact ih3 _ _ _ _ _
   | exact LeO.none _
   | refine LeO.ite ?_ ?_
   | refine LeO.bind ?_ (fun _ => ?_)
set_option maxHeartbeats 8000000 in
set_option maxRecDepth 100000 in
theorem spec_l10Ok.calls (k : Nat) (a0_0 : Int) (a0_1 : Int) (a0_2 : Int) (a1 : Int) (r : Bool) (w : World) (h : spec_l10Ok.f k a0_0 a0_1 a0_2 a1 = some r) :
  Calls Tryd.prog 74 #[.agg #[.int .i64 a0_0, .int .i64 a0_1, .int .i64 a0_2], .int .i64 a1] w fun e w' => e = .returned (.bool r) ∧ Below w.heap.size w w' := by
 have hu107 := Tryd.underlying107
 have HB := m_ (Below.refl w.heap.size w)
 have H : (if a0_0 = 1 then (spec_l10Ok.j0 k a1 a0_0 (a0_0 == 1) a0_0 a0_1 a0_2) else (spec_l10Ok.j0 k a1 a0_0 (a0_0 == 3) a0_0 a0_1 a0_2)) = some r := h
 clear h
 have HC3 := Aside0.mk H
 clear H
 go_enter Tryd.func74, Tryd.ntmps74
 go_upto_if 7 with (first | ((with_reducible refine gate_dst (N := 2) rfl ?_); refine box_event ?hg (N := 2) ?hd (cs := #[.int .i64 a0_0, .int .i64 a0_1, .int .i64 a0_2]) (t := 107) ?hr ?_; (case hd => rfl); (case hg => rfl); (case hr => first | (go_simp; done) | (go_simp; rfl)); intro gb393 hg w4 hbox hb; have n0_ := m_ (below_step (bN HB.out) hb); have n1_ := m_ (hbox); have n2_ := m_ ((by rw [hg]; exact (below_size (bN HB.out)) : w.heap.size ≤ gb393)); have n3_ := m_ ((by rw [hg]; exact (below_size (bN HB.out)) : w.heap.size ≤ gb393)); clear HB; have HB := n0_; have BK393 := n1_; have GW393 := n2_; have GE393 := n3_; clear n0_ n1_ n2_ n3_ hb hbox hg; have hcz5_0 : w4.cell? ⟨gb393, 0, none⟩ = some (.int .i64 a0_0) := bc BK393 0; have hcz5_1 : w4.cell? ⟨gb393, 1, none⟩ = some (.int .i64 a0_1) := bc BK393 1; have hcz5_2 : w4.cell? ⟨gb393, 2, none⟩ = some (.int .i64 a0_2) := bc BK393 2; have hfz5_0 := blk_frozen BK393.out 0; have hfz5_1 := blk_frozen BK393.out 1; have hfz5_2 := blk_frozen BK393.out 2))
 (try simp only [Act.put, List.setIfInBounds_toArray, List.set_cons_zero, List.set_cons_succ])
 go_cut [7] (fun v7 wc => ∃ (kq : Nat) (x7_2 : Bool), v7 = .bool x7_2 ∧ Aside0 (spec_l10Ok.j0 kq a1 a0_0 x7_2 a0_0 a0_1 a0_2 = some r) ∧ Aside0 (kq ≤ k) ∧ Aside0 (wc.heap[gb393]? = some (.cells #[.int .i64 a0_0, .int .i64 a0_1, .int .i64 a0_2] 107 (0, 0))) ∧ Aside0 (Below w.heap.size w wc))
 case first =>
  have H := HC3.out
  clear HC3
  by_cases c6 : a0_0 = 1
  ·rw [if_pos c6] at H
   have c6b0 : (a0_0 == 1) = true := beq_iff_eq.mpr c6
   have c6b1 : (a0_0 != 1) = false := bne_eq_false_iff_eq.mpr c6
   clear c6
   (first | rw [c6b0] | (simp only [i64_w, i32_w]; rw [c6b0]) | skip)
   have H' := Aside0.mk H
   clear H
   go_wp2
   go_meet
   case rel => exact ⟨_, ((a0_0 == 1)), (by first | rfl | (simp; done) | (simp [*]; done)), H', ⟨by first | omega | exact Nat.le_refl _⟩, ⟨kN BK393.out⟩, ⟨(hB1 HB.out GE393.out)⟩⟩
  ·rw [if_neg c6] at H
   have c6b0 : (a0_0 == 1) = false := beq_eq_false_iff_ne.mpr c6
   have c6b1 : (a0_0 != 1) = true := bne_iff_ne.mpr c6
   (first | rw [c6b0] | (simp only [i64_w, i32_w]; rw [c6b0]) | skip)
   have H' := Aside0.mk H
   clear H
   go_wp2
   go_meet
   case rel => exact ⟨_, ((a0_0 == 3)), (by first | rfl | (simp; done) | (simp [*]; done)), H', ⟨by first | omega | exact Nat.le_refl _⟩, ⟨kN BK393.out⟩, ⟨(hB1 HB.out GE393.out)⟩⟩
 case rest =>
  clear HC3
  try clear p2
  try clear c6
  try clear c6b0
  try clear c6b1
  obtain ⟨kq, x7_2, rfl, HA, HJ2, BK393, HB⟩ := hcut
  cases kq with
  | zero => exact absurd HA.out (by simp [spec_l10Ok.j0])
  | succ kj2 =>
   have H := HA.out
   clear HA
   simp only [spec_l10Ok.j0] at H
   by_cases c7 : x7_2 = true
   ·subst c7
    have H1 : ((spec_l10Cell.f a0_1).bind fun t394 => (if t394 = true then ((spec_l1In.f a0_2 0 9999).bind fun t395 => (some t395)) else (some false))) = some r := by rw [if_pos rfl] at H; exact H
    clear H
    have H := H1
    clear H1
    replace H := Option.bind_eq_some_iff.mp H
    obtain ⟨t394, A80, H⟩ := H
    replace H : (if t394 = true then ((spec_l1In.f a0_2 0 9999).bind fun t395 => (some t395)) else (some false)) = some r := H
    have A8 := Aside0.mk A80
    clear A80
    by_cases c9 : t394 = true
    ·subst c9
     have H1 : ((spec_l1In.f a0_2 0 9999).bind fun t395 => (some t395)) = some r := by rw [if_pos rfl] at H; exact H
     clear H
     have H := H1
     clear H1
     replace H := Option.bind_eq_some_iff.mp H
     obtain ⟨t395, A100, H⟩ := H
     replace H : (some t395) = some r := H
     have A10 := Aside0.mk A100
     clear A100
     obtain rfl := Option.some.inj H
     have hcz11_0 : wc.cell? ⟨gb393, 0, none⟩ = some (.int .i64 a0_0) := bc BK393 0
     have hcz11_1 : wc.cell? ⟨gb393, 1, none⟩ = some (.int .i64 a0_1) := bc BK393 1
     have hcz11_2 : wc.cell? ⟨gb393, 2, none⟩ = some (.int .i64 a0_2) := bc BK393 2
     have hfz11_0 := blk_frozen BK393.out 0
     have hfz11_1 := blk_frozen BK393.out 1
     have hfz11_2 := blk_frozen BK393.out 2
     go_wp2_with (first | ((with_reducible refine gate_callee (f := 77) rfl ?_); refine goesL_ (some 12) rfl rfl Tryd.func77 (by kernel_rfl) rfl #[.int .i64 a0_1] rfl gl_ ?_; (with_reducible refine (spec_l10Cell.calls a0_1 true _ A8.out).mono ?_); rintro e w' ⟨rfl, ⟨nd, rfl⟩⟩; refine ⟨_, rfl, ?_⟩) | (go_at_call 25; (with_reducible refine (spec_l1In.calls a0_2 0 9999 t395 _ A10.out).mono ?_); rintro e w' ⟨rfl, ⟨nd, rfl⟩⟩))
     go_ret
     exact ⟨rf_, (hB1 HB.out GE393.out)⟩
    ·replace c9 := Bool.eq_false_iff.mpr c9
     subst c9
     have H1 : (some false) = some r := by rw [if_neg (show ¬ (false = true) by decide)] at H; exact H
     clear H
     have H := H1
     clear H1
     obtain rfl := Option.some.inj H
     have hcz12_0 : wc.cell? ⟨gb393, 0, none⟩ = some (.int .i64 a0_0) := bc BK393 0
     have hcz12_1 : wc.cell? ⟨gb393, 1, none⟩ = some (.int .i64 a0_1) := bc BK393 1
     have hcz12_2 : wc.cell? ⟨gb393, 2, none⟩ = some (.int .i64 a0_2) := bc BK393 2
     have hfz12_0 := blk_frozen BK393.out 0
     have hfz12_1 := blk_frozen BK393.out 1
     have hfz12_2 := blk_frozen BK393.out 2
     go_wp2_with (first | ((with_reducible refine gate_callee (f := 77) rfl ?_); refine goesL_ (some 12) rfl rfl Tryd.func77 (by kernel_rfl) rfl #[.int .i64 a0_1] rfl gl_ ?_; (with_reducible refine (spec_l10Cell.calls a0_1 false _ A8.out).mono ?_); rintro e w' ⟨rfl, ⟨nd, rfl⟩⟩; refine ⟨_, rfl, ?_⟩))
     go_ret
     exact ⟨rf_, (hB1 HB.out GE393.out)⟩
   ·replace c7 := Bool.eq_false_iff.mpr c7
    subst c7
    have H1 : (if a0_0 = 2 then (spec_l10Ok.j1 kj2 a1 a0_0 (a0_0 == 2) a0_0 a0_1 a0_2) else (spec_l10Ok.j1 kj2 a1 a0_0 (a0_0 == 13) a0_0 a0_1 a0_2)) = some r := by rw [if_neg (show ¬ (false = true) by decide)] at H; exact H
    clear H
    have H := H1
    clear H1
    have HC13 := Aside0.mk H
    clear H
    go_upto_if 18 with (fail)
    go_cut [18] (fun v18 wc => ∃ (kq : Nat) (x18_12 : Bool), v18 = .bool x18_12 ∧ Aside0 (spec_l10Ok.j1 kq a1 a0_0 x18_12 a0_0 a0_1 a0_2 = some r) ∧ Aside0 (kq ≤ kj2) ∧ Aside0 (wc.heap[gb393]? = some (.cells #[.int .i64 a0_0, .int .i64 a0_1, .int .i64 a0_2] 107 (0, 0))) ∧ Aside0 (Below w.heap.size w wc))
    case first =>
     have H := HC13.out
     clear HC13
     by_cases c14 : a0_0 = 2
     ·rw [if_pos c14] at H
      have c14b0 : (a0_0 == 2) = true := beq_iff_eq.mpr c14
      have c14b1 : (a0_0 != 2) = false := bne_eq_false_iff_eq.mpr c14
      clear c14
      (first | rw [c14b0] | (simp only [i64_w, i32_w]; rw [c14b0]) | skip)
      have H' := Aside0.mk H
      clear H
      go_wp2
      go_meet
      case rel => exact ⟨_, ((a0_0 == 2)), (by first | rfl | (simp; done) | (simp [*]; done)), H', ⟨by have := HJ2.out; first | omega | exact Nat.le_refl _⟩, ⟨kN BK393.out⟩, ⟨(hB1 HB.out GE393.out)⟩⟩
     ·rw [if_neg c14] at H
      have c14b0 : (a0_0 == 2) = false := beq_eq_false_iff_ne.mpr c14
      have c14b1 : (a0_0 != 2) = true := bne_iff_ne.mpr c14
      (first | rw [c14b0] | (simp only [i64_w, i32_w]; rw [c14b0]) | skip)
      have H' := Aside0.mk H
      clear H
      go_wp2
      go_meet
      case rel => exact ⟨_, ((a0_0 == 13)), (by first | rfl | (simp; done) | (simp [*]; done)), H', ⟨by have := HJ2.out; first | omega | exact Nat.le_refl _⟩, ⟨kN BK393.out⟩, ⟨(hB1 HB.out GE393.out)⟩⟩
    case rest =>
     clear HC13
     try clear c1
     try clear p2
     try clear c6
     try clear c6b0
     try clear c6b1
     try clear c7
     try clear c9
     try clear c14
     try clear c14b0
     try clear c14b1
     try clear p2
     obtain ⟨kq, x18_12, rfl, HA, HJ12, BK393, HB⟩ := hcut
     cases kq with
     | zero => exact absurd HA.out (by simp [spec_l10Ok.j1])
     | succ kj12 =>
      have H := HA.out
      clear HA
      simp only [spec_l10Ok.j1] at H
      by_cases c15 : x18_12 = true
      ·subst c15
       have H1 : ((spec_l10Cell.f a0_1).bind fun t396 => (if t396 = true then ((spec_l10Cell.f a0_2).bind fun t397 => (some t397)) else (some false))) = some r := by rw [if_pos rfl] at H; exact H
       clear H
       have H := H1
       clear H1
       replace H := Option.bind_eq_some_iff.mp H
       obtain ⟨t396, A160, H⟩ := H
       replace H : (if t396 = true then ((spec_l10Cell.f a0_2).bind fun t397 => (some t397)) else (some false)) = some r := H
       have A16 := Aside0.mk A160
       clear A160
       by_cases c17 : t396 = true
       ·subst c17
        have H1 : ((spec_l10Cell.f a0_2).bind fun t397 => (some t397)) = some r := by rw [if_pos rfl] at H; exact H
        clear H
        have H := H1
        clear H1
        replace H := Option.bind_eq_some_iff.mp H
        obtain ⟨t397, A180, H⟩ := H
        replace H : (some t397) = some r := H
        have A18 := Aside0.mk A180
        clear A180
        obtain rfl := Option.some.inj H
        have hcz19_0 : wc.cell? ⟨gb393, 0, none⟩ = some (.int .i64 a0_0) := bc BK393 0
        have hcz19_1 : wc.cell? ⟨gb393, 1, none⟩ = some (.int .i64 a0_1) := bc BK393 1
        have hcz19_2 : wc.cell? ⟨gb393, 2, none⟩ = some (.int .i64 a0_2) := bc BK393 2
        have hfz19_0 := blk_frozen BK393.out 0
        have hfz19_1 := blk_frozen BK393.out 1
        have hfz19_2 := blk_frozen BK393.out 2
        go_wp2_with (first | ((with_reducible refine gate_callee (f := 77) rfl ?_); refine goesL_ (some 23) rfl rfl Tryd.func77 (by kernel_rfl) rfl #[.int .i64 a0_1] rfl gl_ ?_; (with_reducible refine (spec_l10Cell.calls a0_1 true _ A16.out).mono ?_); rintro e w' ⟨rfl, ⟨nd, rfl⟩⟩; refine ⟨_, rfl, ?_⟩) | (go_at_call 77; (with_reducible refine (spec_l10Cell.calls a0_2 t397 _ A18.out).mono ?_); rintro e w' ⟨rfl, ⟨nd, rfl⟩⟩))
        go_ret
        exact ⟨rf_, (hB1 HB.out GE393.out)⟩
       ·replace c17 := Bool.eq_false_iff.mpr c17
        subst c17
        have H1 : (some false) = some r := by rw [if_neg (show ¬ (false = true) by decide)] at H; exact H
        clear H
        have H := H1
        clear H1
        obtain rfl := Option.some.inj H
        have hcz20_0 : wc.cell? ⟨gb393, 0, none⟩ = some (.int .i64 a0_0) := bc BK393 0
        have hcz20_1 : wc.cell? ⟨gb393, 1, none⟩ = some (.int .i64 a0_1) := bc BK393 1
        have hcz20_2 : wc.cell? ⟨gb393, 2, none⟩ = some (.int .i64 a0_2) := bc BK393 2
        have hfz20_0 := blk_frozen BK393.out 0
        have hfz20_1 := blk_frozen BK393.out 1
        have hfz20_2 := blk_frozen BK393.out 2
        go_wp2_with (first | ((with_reducible refine gate_callee (f := 77) rfl ?_); refine goesL_ (some 23) rfl rfl Tryd.func77 (by kernel_rfl) rfl #[.int .i64 a0_1] rfl gl_ ?_; (with_reducible refine (spec_l10Cell.calls a0_1 false _ A16.out).mono ?_); rintro e w' ⟨rfl, ⟨nd, rfl⟩⟩; refine ⟨_, rfl, ?_⟩))
        go_ret
        exact ⟨rf_, (hB1 HB.out GE393.out)⟩
      ·replace c15 := Bool.eq_false_iff.mpr c15
       subst c15
       have H1 : (if a0_0 = 5 then ((spec_l10Cell.f a0_1).bind fun t398 => (if t398 = true then ((spec_l1In.f a0_2 0 (wrap64 (a1 - 1))).bind fun t399 => (some t399)) else (some false))) else (if a0_0 = 9 then (spec_l10Ok.j2 kj12 a0_0 (a0_0 == 9) a0_0 a0_1 a0_2) else (spec_l10Ok.j2 kj12 a0_0 (a0_0 == 10) a0_0 a0_1 a0_2))) = some r := by rw [if_neg (show ¬ (false = true) by decide)] at H; exact H
       clear H
       have H := H1
       clear H1
       by_cases c21 : a0_0 = 5
       ·rw [if_pos c21] at H
        have c21b0 : (a0_0 == 5) = true := beq_iff_eq.mpr c21
        have c21b1 : (a0_0 != 5) = false := bne_eq_false_iff_eq.mpr c21
        clear c21
        replace H := Option.bind_eq_some_iff.mp H
        obtain ⟨t398, A220, H⟩ := H
        replace H : (if t398 = true then ((spec_l1In.f a0_2 0 (wrap64 (a1 - 1))).bind fun t399 => (some t399)) else (some false)) = some r := H
        have A22 := Aside0.mk A220
        clear A220
        by_cases c23 : t398 = true
        ·subst c23
         have H1 : ((spec_l1In.f a0_2 0 (wrap64 (a1 - 1))).bind fun t399 => (some t399)) = some r := by rw [if_pos rfl] at H; exact H
         clear H
         have H := H1
         clear H1
         replace H := Option.bind_eq_some_iff.mp H
         obtain ⟨t399, A240, H⟩ := H
         replace H : (some t399) = some r := H
         have A24 := Aside0.mk A240
         clear A240
         obtain rfl := Option.some.inj H
         have hcz25_0 : wc.cell? ⟨gb393, 0, none⟩ = some (.int .i64 a0_0) := bc BK393 0
         have hcz25_1 : wc.cell? ⟨gb393, 1, none⟩ = some (.int .i64 a0_1) := bc BK393 1
         have hcz25_2 : wc.cell? ⟨gb393, 2, none⟩ = some (.int .i64 a0_2) := bc BK393 2
         have hfz25_0 := blk_frozen BK393.out 0
         have hfz25_1 := blk_frozen BK393.out 1
         have hfz25_2 := blk_frozen BK393.out 2
         go_wp2_with (first | ((with_reducible refine gate_callee (f := 77) rfl ?_); refine goesL_ (some 33) rfl rfl Tryd.func77 (by kernel_rfl) rfl #[.int .i64 a0_1] rfl gl_ ?_; (with_reducible refine (spec_l10Cell.calls a0_1 true _ A22.out).mono ?_); rintro e w' ⟨rfl, ⟨nd, rfl⟩⟩; refine ⟨_, rfl, ?_⟩) | (go_at_call 25; (with_reducible refine (spec_l1In.calls a0_2 0 (wrap64 (a1 - 1)) t399 _ A24.out).mono ?_); rintro e w' ⟨rfl, ⟨nd, rfl⟩⟩))
         go_ret
         exact ⟨rf_, (hB1 HB.out GE393.out)⟩
        ·replace c23 := Bool.eq_false_iff.mpr c23
         subst c23
         have H1 : (some false) = some r := by rw [if_neg (show ¬ (false = true) by decide)] at H; exact H
         clear H
         have H := H1
         clear H1
         obtain rfl := Option.some.inj H
         have hcz26_0 : wc.cell? ⟨gb393, 0, none⟩ = some (.int .i64 a0_0) := bc BK393 0
         have hcz26_1 : wc.cell? ⟨gb393, 1, none⟩ = some (.int .i64 a0_1) := bc BK393 1
         have hcz26_2 : wc.cell? ⟨gb393, 2, none⟩ = some (.int .i64 a0_2) := bc BK393 2
         have hfz26_0 := blk_frozen BK393.out 0
         have hfz26_1 := blk_frozen BK393.out 1
         have hfz26_2 := blk_frozen BK393.out 2
         go_wp2_with (first | ((with_reducible refine gate_callee (f := 77) rfl ?_); refine goesL_ (some 33) rfl rfl Tryd.func77 (by kernel_rfl) rfl #[.int .i64 a0_1] rfl gl_ ?_; (with_reducible refine (spec_l10Cell.calls a0_1 false _ A22.out).mono ?_); rintro e w' ⟨rfl, ⟨nd, rfl⟩⟩; refine ⟨_, rfl, ?_⟩))
         go_ret
         exact ⟨rf_, (hB1 HB.out GE393.out)⟩
       ·rw [if_neg c21] at H
        have c21b0 : (a0_0 == 5) = false := beq_eq_false_iff_ne.mpr c21
        have c21b1 : (a0_0 != 5) = true := bne_iff_ne.mpr c21
        have HC27 := Aside0.mk H
        clear H
        go_upto_if 41 with (fail)
        go_cut [41] (fun v41 wc => ∃ (kq : Nat) (x41_26 : Bool), v41 = .bool x41_26 ∧ Aside0 (spec_l10Ok.j2 kq a0_0 x41_26 a0_0 a0_1 a0_2 = some r) ∧ Aside0 (kq ≤ kj12) ∧ Aside0 (wc.heap[gb393]? = some (.cells #[.int .i64 a0_0, .int .i64 a0_1, .int .i64 a0_2] 107 (0, 0))) ∧ Aside0 (Below w.heap.size w wc))
        case first =>
         have H := HC27.out
         clear HC27
         by_cases c28 : a0_0 = 9
         ·rw [if_pos c28] at H
          have c28b0 : (a0_0 == 9) = true := beq_iff_eq.mpr c28
          have c28b1 : (a0_0 != 9) = false := bne_eq_false_iff_eq.mpr c28
          clear c28
          (first | rw [c28b0] | (simp only [i64_w, i32_w]; rw [c28b0]) | skip)
          have H' := Aside0.mk H
          clear H
          go_wp2
          go_meet
          case rel => exact ⟨_, ((a0_0 == 9)), (by first | rfl | (simp; done) | (simp [*]; done)), H', ⟨by have := HJ2.out; have := HJ12.out; first | omega | exact Nat.le_refl _⟩, ⟨kN BK393.out⟩, ⟨(hB1 HB.out GE393.out)⟩⟩
         ·rw [if_neg c28] at H
          have c28b0 : (a0_0 == 9) = false := beq_eq_false_iff_ne.mpr c28
          have c28b1 : (a0_0 != 9) = true := bne_iff_ne.mpr c28
          (first | rw [c28b0] | (simp only [i64_w, i32_w]; rw [c28b0]) | skip)
          have H' := Aside0.mk H
          clear H
          go_wp2
          go_meet
          case rel => exact ⟨_, ((a0_0 == 10)), (by first | rfl | (simp; done) | (simp [*]; done)), H', ⟨by have := HJ2.out; have := HJ12.out; first | omega | exact Nat.le_refl _⟩, ⟨kN BK393.out⟩, ⟨(hB1 HB.out GE393.out)⟩⟩
        case rest =>
         clear HC27
         try clear c1
         try clear c2
         try clear p2
         try clear c6
         try clear c6b0
         try clear c6b1
         try clear p6
         try clear c7
         try clear c9
         try clear c14
         try clear c14b0
         try clear c14b1
         try clear c15
         try clear c17
         try clear c21
         try clear c21b0
         try clear c21b1
         try clear c23
         try clear c28
         try clear c28b0
         try clear c28b1
         try clear p2
         obtain ⟨kq, x41_26, rfl, HA, HJ26, BK393, HB⟩ := hcut
         cases kq with
         | zero => exact absurd HA.out (by simp [spec_l10Ok.j2])
         | succ kj26 =>
          have H := HA.out
          clear HA
          simp only [spec_l10Ok.j2] at H
          by_cases c29 : x41_26 = true
          ·subst c29
           have H1 : ((spec_l10Cell.f a0_1).bind fun t400 => (if t400 = true then ((spec_l1In.f a0_2 0 3).bind fun t401 => (some t401)) else (some false))) = some r := by rw [if_pos rfl] at H; exact H
           clear H
           have H := H1
           clear H1
           replace H := Option.bind_eq_some_iff.mp H
           obtain ⟨t400, A300, H⟩ := H
           replace H : (if t400 = true then ((spec_l1In.f a0_2 0 3).bind fun t401 => (some t401)) else (some false)) = some r := H
           have A30 := Aside0.mk A300
           clear A300
           by_cases c31 : t400 = true
           ·subst c31
            have H1 : ((spec_l1In.f a0_2 0 3).bind fun t401 => (some t401)) = some r := by rw [if_pos rfl] at H; exact H
            clear H
            have H := H1
            clear H1
            replace H := Option.bind_eq_some_iff.mp H
            obtain ⟨t401, A320, H⟩ := H
            replace H : (some t401) = some r := H
            have A32 := Aside0.mk A320
            clear A320
            obtain rfl := Option.some.inj H
            have hcz33_0 : wc.cell? ⟨gb393, 0, none⟩ = some (.int .i64 a0_0) := bc BK393 0
            have hcz33_1 : wc.cell? ⟨gb393, 1, none⟩ = some (.int .i64 a0_1) := bc BK393 1
            have hcz33_2 : wc.cell? ⟨gb393, 2, none⟩ = some (.int .i64 a0_2) := bc BK393 2
            have hfz33_0 := blk_frozen BK393.out 0
            have hfz33_1 := blk_frozen BK393.out 1
            have hfz33_2 := blk_frozen BK393.out 2
            go_wp2_with (first | ((with_reducible refine gate_callee (f := 77) rfl ?_); refine goesL_ (some 46) rfl rfl Tryd.func77 (by kernel_rfl) rfl #[.int .i64 a0_1] rfl gl_ ?_; (with_reducible refine (spec_l10Cell.calls a0_1 true _ A30.out).mono ?_); rintro e w' ⟨rfl, ⟨nd, rfl⟩⟩; refine ⟨_, rfl, ?_⟩) | (go_at_call 25; (with_reducible refine (spec_l1In.calls a0_2 0 3 t401 _ A32.out).mono ?_); rintro e w' ⟨rfl, ⟨nd, rfl⟩⟩))
            go_ret
            exact ⟨rf_, (hB1 HB.out GE393.out)⟩
           ·replace c31 := Bool.eq_false_iff.mpr c31
            subst c31
            have H1 : (some false) = some r := by rw [if_neg (show ¬ (false = true) by decide)] at H; exact H
            clear H
            have H := H1
            clear H1
            obtain rfl := Option.some.inj H
            have hcz34_0 : wc.cell? ⟨gb393, 0, none⟩ = some (.int .i64 a0_0) := bc BK393 0
            have hcz34_1 : wc.cell? ⟨gb393, 1, none⟩ = some (.int .i64 a0_1) := bc BK393 1
            have hcz34_2 : wc.cell? ⟨gb393, 2, none⟩ = some (.int .i64 a0_2) := bc BK393 2
            have hfz34_0 := blk_frozen BK393.out 0
            have hfz34_1 := blk_frozen BK393.out 1
            have hfz34_2 := blk_frozen BK393.out 2
            go_wp2_with (first | ((with_reducible refine gate_callee (f := 77) rfl ?_); refine goesL_ (some 46) rfl rfl Tryd.func77 (by kernel_rfl) rfl #[.int .i64 a0_1] rfl gl_ ?_; (with_reducible refine (spec_l10Cell.calls a0_1 false _ A30.out).mono ?_); rintro e w' ⟨rfl, ⟨nd, rfl⟩⟩; refine ⟨_, rfl, ?_⟩))
            go_ret
            exact ⟨rf_, (hB1 HB.out GE393.out)⟩
          ·replace c29 := Bool.eq_false_iff.mpr c29
           subst c29
           have H1 : (if a0_0 = 4 then (spec_l10Ok.j3 kj26 a0_0 (a0_0 == 4) a0_0 a0_1 a0_2) else (if a0_0 = 6 then (spec_l10Ok.j3 kj26 a0_0 (a0_0 == 6) a0_0 a0_1 a0_2) else (if a0_0 = 7 then (spec_l10Ok.j3 kj26 a0_0 (a0_0 == 7) a0_0 a0_1 a0_2) else (if a0_0 = 8 then (spec_l10Ok.j3 kj26 a0_0 (a0_0 == 8) a0_0 a0_1 a0_2) else (spec_l10Ok.j3 kj26 a0_0 (a0_0 == 12) a0_0 a0_1 a0_2))))) = some r := by rw [if_neg (show ¬ (false = true) by decide)] at H; exact H
           clear H
           have H := H1
           clear H1
           have HC35 := Aside0.mk H
           clear H
           go_upto_if 52 with (fail)
           go_cut [52] (fun v52 wc => ∃ (kq : Nat) (x52_34 : Bool), v52 = .bool x52_34 ∧ Aside0 (spec_l10Ok.j3 kq a0_0 x52_34 a0_0 a0_1 a0_2 = some r) ∧ Aside0 (kq ≤ kj26) ∧ Aside0 (wc.heap[gb393]? = some (.cells #[.int .i64 a0_0, .int .i64 a0_1, .int .i64 a0_2] 107 (0, 0))) ∧ Aside0 (Below w.heap.size w wc))
           case first =>
            have H := HC35.out
            clear HC35
            by_cases c36 : a0_0 = 4
            ·rw [if_pos c36] at H
             have c36b0 : (a0_0 == 4) = true := beq_iff_eq.mpr c36
             have c36b1 : (a0_0 != 4) = false := bne_eq_false_iff_eq.mpr c36
             clear c36
             (first | rw [c36b0] | (simp only [i64_w, i32_w]; rw [c36b0]) | skip)
             have H' := Aside0.mk H
             clear H
             go_wp2
             go_meet
             case rel => exact ⟨_, ((a0_0 == 4)), (by first | rfl | (simp; done) | (simp [*]; done)), H', ⟨by have := HJ2.out; have := HJ12.out; have := HJ26.out; first | omega | exact Nat.le_refl _⟩, ⟨kN BK393.out⟩, ⟨(hB1 HB.out GE393.out)⟩⟩
            ·rw [if_neg c36] at H
             have c36b0 : (a0_0 == 4) = false := beq_eq_false_iff_ne.mpr c36
             have c36b1 : (a0_0 != 4) = true := bne_iff_ne.mpr c36
             (first | rw [c36b0] | (simp only [i64_w, i32_w]; rw [c36b0]) | skip)
             by_cases c37 : a0_0 = 6
             ·rw [if_pos c37] at H
              have c37b0 : (a0_0 == 6) = true := beq_iff_eq.mpr c37
              have c37b1 : (a0_0 != 6) = false := bne_eq_false_iff_eq.mpr c37
              clear c37
              have H' := Aside0.mk H
              clear H
              go_wp2
              go_meet
              case rel => exact ⟨_, ((a0_0 == 6)), (by first | rfl | (simp; done) | (simp [*]; done)), H', ⟨by have := HJ2.out; have := HJ12.out; have := HJ26.out; first | omega | exact Nat.le_refl _⟩, ⟨kN BK393.out⟩, ⟨(hB1 HB.out GE393.out)⟩⟩
             ·rw [if_neg c37] at H
              have c37b0 : (a0_0 == 6) = false := beq_eq_false_iff_ne.mpr c37
              have c37b1 : (a0_0 != 6) = true := bne_iff_ne.mpr c37
              by_cases c38 : a0_0 = 7
              ·rw [if_pos c38] at H
               have c38b0 : (a0_0 == 7) = true := beq_iff_eq.mpr c38
               have c38b1 : (a0_0 != 7) = false := bne_eq_false_iff_eq.mpr c38
               clear c38
               have H' := Aside0.mk H
               clear H
               go_wp2
               go_meet
               case rel => exact ⟨_, ((a0_0 == 7)), (by first | rfl | (simp; done) | (simp [*]; done)), H', ⟨by have := HJ2.out; have := HJ12.out; have := HJ26.out; first | omega | exact Nat.le_refl _⟩, ⟨kN BK393.out⟩, ⟨(hB1 HB.out GE393.out)⟩⟩
              ·rw [if_neg c38] at H
               have c38b0 : (a0_0 == 7) = false := beq_eq_false_iff_ne.mpr c38
               have c38b1 : (a0_0 != 7) = true := bne_iff_ne.mpr c38
               by_cases c39 : a0_0 = 8
               ·rw [if_pos c39] at H
                have c39b0 : (a0_0 == 8) = true := beq_iff_eq.mpr c39
                have c39b1 : (a0_0 != 8) = false := bne_eq_false_iff_eq.mpr c39
                clear c39
                have H' := Aside0.mk H
                clear H
                go_wp2
                go_meet
                case rel => exact ⟨_, ((a0_0 == 8)), (by first | rfl | (simp; done) | (simp [*]; done)), H', ⟨by have := HJ2.out; have := HJ12.out; have := HJ26.out; first | omega | exact Nat.le_refl _⟩, ⟨kN BK393.out⟩, ⟨(hB1 HB.out GE393.out)⟩⟩
               ·rw [if_neg c39] at H
                have c39b0 : (a0_0 == 8) = false := beq_eq_false_iff_ne.mpr c39
                have c39b1 : (a0_0 != 8) = true := bne_iff_ne.mpr c39
                have H' := Aside0.mk H
                clear H
                go_wp2
                go_meet
                case rel => exact ⟨_, ((a0_0 == 12)), (by first | rfl | (simp; done) | (simp [*]; done)), H', ⟨by have := HJ2.out; have := HJ12.out; have := HJ26.out; first | omega | exact Nat.le_refl _⟩, ⟨kN BK393.out⟩, ⟨(hB1 HB.out GE393.out)⟩⟩
           case rest =>
            clear HC35
            try clear c1
            try clear c2
            try clear p2
            try clear c3
            try clear c6
            try clear c6b0
            try clear c6b1
            try clear p6
            try clear c7
            try clear c9
            try clear c14
            try clear c14b0
            try clear c14b1
            try clear c15
            try clear c17
            try clear c21
            try clear c21b0
            try clear c21b1
            try clear c23
            try clear c28
            try clear c28b0
            try clear c28b1
            try clear c29
            try clear c31
            try clear c36
            try clear c36b0
            try clear c36b1
            try clear c37
            try clear c37b0
            try clear c37b1
            try clear c38
            try clear c38b0
            try clear c38b1
            try clear c39
            try clear c39b0
            try clear c39b1
            try clear p2
            try clear p6
            obtain ⟨kq, x52_34, rfl, HA, HJ34, BK393, HB⟩ := hcut
            cases kq with
            | zero => exact absurd HA.out (by simp [spec_l10Ok.j3])
            | succ kj34 =>
             have H := HA.out
             clear HA
             simp only [spec_l10Ok.j3] at H
             by_cases c40 : x52_34 = true
             ·subst c40
              have H1 : ((spec_l10Cell.f a0_1).bind fun t402 => (if t402 = true then (some (a0_2 == 0)) else (some false))) = some r := by rw [if_pos rfl] at H; exact H
              clear H
              have H := H1
              clear H1
              replace H := Option.bind_eq_some_iff.mp H
              obtain ⟨t402, A410, H⟩ := H
              replace H : (if t402 = true then (some (a0_2 == 0)) else (some false)) = some r := H
              have A41 := Aside0.mk A410
              clear A410
              by_cases c42 : t402 = true
              ·subst c42
               have H1 : (some (a0_2 == 0)) = some r := by rw [if_pos rfl] at H; exact H
               clear H
               have H := H1
               clear H1
               obtain rfl := Option.some.inj H
               have hcz43_0 : wc.cell? ⟨gb393, 0, none⟩ = some (.int .i64 a0_0) := bc BK393 0
               have hcz43_1 : wc.cell? ⟨gb393, 1, none⟩ = some (.int .i64 a0_1) := bc BK393 1
               have hcz43_2 : wc.cell? ⟨gb393, 2, none⟩ = some (.int .i64 a0_2) := bc BK393 2
               have hfz43_0 := blk_frozen BK393.out 0
               have hfz43_1 := blk_frozen BK393.out 1
               have hfz43_2 := blk_frozen BK393.out 2
               go_wp2_with (first | ((with_reducible refine gate_callee (f := 77) rfl ?_); refine goesL_ (some 60) rfl rfl Tryd.func77 (by kernel_rfl) rfl #[.int .i64 a0_1] rfl gl_ ?_; (with_reducible refine (spec_l10Cell.calls a0_1 true _ A41.out).mono ?_); rintro e w' ⟨rfl, ⟨nd, rfl⟩⟩; refine ⟨_, rfl, ?_⟩))
               go_ret
               exact ⟨rf_, (hB1 HB.out GE393.out)⟩
              ·replace c42 := Bool.eq_false_iff.mpr c42
               subst c42
               have H1 : (some false) = some r := by rw [if_neg (show ¬ (false = true) by decide)] at H; exact H
               clear H
               have H := H1
               clear H1
               obtain rfl := Option.some.inj H
               have hcz44_0 : wc.cell? ⟨gb393, 0, none⟩ = some (.int .i64 a0_0) := bc BK393 0
               have hcz44_1 : wc.cell? ⟨gb393, 1, none⟩ = some (.int .i64 a0_1) := bc BK393 1
               have hcz44_2 : wc.cell? ⟨gb393, 2, none⟩ = some (.int .i64 a0_2) := bc BK393 2
               have hfz44_0 := blk_frozen BK393.out 0
               have hfz44_1 := blk_frozen BK393.out 1
               have hfz44_2 := blk_frozen BK393.out 2
               go_wp2_with (first | ((with_reducible refine gate_callee (f := 77) rfl ?_); refine goesL_ (some 60) rfl rfl Tryd.func77 (by kernel_rfl) rfl #[.int .i64 a0_1] rfl gl_ ?_; (with_reducible refine (spec_l10Cell.calls a0_1 false _ A41.out).mono ?_); rintro e w' ⟨rfl, ⟨nd, rfl⟩⟩; refine ⟨_, rfl, ?_⟩))
               go_ret
               exact ⟨rf_, (hB1 HB.out GE393.out)⟩
             ·replace c40 := Bool.eq_false_iff.mpr c40
              subst c40
              have H1 : (if a0_0 = 11 then (if a0_1 = 0 then (some (a0_2 == 0)) else (some false)) else (some false)) = some r := by rw [if_neg (show ¬ (false = true) by decide)] at H; exact H
              clear H
              have H := H1
              clear H1
              by_cases c45 : a0_0 = 11
              ·rw [if_pos c45] at H
               have c45b0 : (a0_0 == 11) = true := beq_iff_eq.mpr c45
               have c45b1 : (a0_0 != 11) = false := bne_eq_false_iff_eq.mpr c45
               clear c45
               by_cases c46 : a0_1 = 0
               ·rw [if_pos c46] at H
                have c46b0 : (a0_1 == 0) = true := beq_iff_eq.mpr c46
                have c46b1 : (a0_1 != 0) = false := bne_eq_false_iff_eq.mpr c46
                clear c46
                obtain rfl := Option.some.inj H
                have hcz47_0 : wc.cell? ⟨gb393, 0, none⟩ = some (.int .i64 a0_0) := bc BK393 0
                have hcz47_1 : wc.cell? ⟨gb393, 1, none⟩ = some (.int .i64 a0_1) := bc BK393 1
                have hcz47_2 : wc.cell? ⟨gb393, 2, none⟩ = some (.int .i64 a0_2) := bc BK393 2
                have hfz47_0 := blk_frozen BK393.out 0
                have hfz47_1 := blk_frozen BK393.out 1
                have hfz47_2 := blk_frozen BK393.out 2
                go_wp2
                go_ret
                exact ⟨rf_, (hB1 HB.out GE393.out)⟩
               ·rw [if_neg c46] at H
                have c46b0 : (a0_1 == 0) = false := beq_eq_false_iff_ne.mpr c46
                have c46b1 : (a0_1 != 0) = true := bne_iff_ne.mpr c46
                obtain rfl := Option.some.inj H
                have hcz48_0 : wc.cell? ⟨gb393, 0, none⟩ = some (.int .i64 a0_0) := bc BK393 0
                have hcz48_1 : wc.cell? ⟨gb393, 1, none⟩ = some (.int .i64 a0_1) := bc BK393 1
                have hcz48_2 : wc.cell? ⟨gb393, 2, none⟩ = some (.int .i64 a0_2) := bc BK393 2
                have hfz48_0 := blk_frozen BK393.out 0
                have hfz48_1 := blk_frozen BK393.out 1
                have hfz48_2 := blk_frozen BK393.out 2
                go_wp2
                go_ret
                exact ⟨rf_, (hB1 HB.out GE393.out)⟩
              ·rw [if_neg c45] at H
               have c45b0 : (a0_0 == 11) = false := beq_eq_false_iff_ne.mpr c45
               have c45b1 : (a0_0 != 11) = true := bne_iff_ne.mpr c45
               obtain rfl := Option.some.inj H
               go_wp2
               go_ret
               exact ⟨rf_, (hB1 HB.out GE393.out)⟩

end Go.Proofs.YtcenmlpfbpogoaaDoor.P
