/- The machine side of these statements, function by function: what each Go function answers (as a Lean function), and that it does. Written by a program (mp.py) for this claim. -/
import Derived.Test.YtnlhaiihbcdmoaaPx0
import Derived.Test.YtnlhaiihbcdmoaaPx3
import Derived.Test.YtnlhaiihbcdmoaaPx4
import Derived.Test.YtnlhaiihbcdmoaaPx5
import Derived.Test.YtnlhaiihbcdmoaaPx6
namespace Go.Proofs.Ytnlhaiihbcdmoaa.P
open Go.RowKit Go.Proofs.YtnlhaiihbcdmoaaW.PrintWords Go.Proofs.YtnlhaiihbcdmoaaW.PrintLast Go.Proofs.YtnlhaiihbcdmoaaW.PrintMore
attribute [local go_sem] max2_int min2_int max_two min_two max_three min_three max_four min_four   -- for this text's walks alone
set_option linter.unusedVariables false
set_option linter.unusedSimpArgs false

/-! ### impl_FarmOk: function 46 -/
def impl_FarmOk.f (a0_0 : Bool) (a0_1 : Bool) (a0_2 : Bool) (a0_3 : Int) (a0_4 : Int) : Option (Bool) := (impl_within.f a0_3 3).bind fun t382 => (if t382 = true then ((impl_within.f a0_4 255).bind fun t383 => (if t383 = true then (if a0_2 = true then (some true) else (some (!a0_1))) else (some false))) else (some false))
set_option maxHeartbeats 8000000 in
set_option maxRecDepth 100000 in
theorem impl_FarmOk.calls (a0_0 : Bool) (a0_1 : Bool) (a0_2 : Bool) (a0_3 : Int) (a0_4 : Int) (r : Bool) (w : World) (h : impl_FarmOk.f a0_0 a0_1 a0_2 a0_3 a0_4 = some r) :
  Calls Try.prog 46 #[.agg #[.bool a0_0, .bool a0_1, .bool a0_2, .int .i64 a0_3, .int .i64 a0_4]] w fun e w' => e = .returned (.bool r) ∧ Below w.heap.size w w' := by
 have hu39 := Try.underlying39
 have HB := m_ (Below.refl w.heap.size w)
 have H : ((impl_within.f a0_3 3).bind fun t382 => (if t382 = true then ((impl_within.f a0_4 255).bind fun t383 => (if t383 = true then (if a0_2 = true then (some true) else (some (!a0_1))) else (some false))) else (some false))) = some r := h
 clear h
 replace H := Option.bind_eq_some_iff.mp H
 obtain ⟨t382, A20, H⟩ := H
 replace H : (if t382 = true then ((impl_within.f a0_4 255).bind fun t383 => (if t383 = true then (if a0_2 = true then (some true) else (some (!a0_1))) else (some false))) else (some false)) = some r := H
 have A2 := Aside0.mk A20
 clear A20
 by_cases c3 : t382 = true
 ·subst c3
  have H1 : ((impl_within.f a0_4 255).bind fun t383 => (if t383 = true then (if a0_2 = true then (some true) else (some (!a0_1))) else (some false))) = some r := by rw [if_pos rfl] at H; exact H
  clear H
  have H := H1
  clear H1
  replace H := Option.bind_eq_some_iff.mp H
  obtain ⟨t383, A40, H⟩ := H
  replace H : (if t383 = true then (if a0_2 = true then (some true) else (some (!a0_1))) else (some false)) = some r := H
  have A4 := Aside0.mk A40
  clear A40
  by_cases c5 : t383 = true
  ·subst c5
   have H1 : (if a0_2 = true then (some true) else (some (!a0_1))) = some r := by rw [if_pos rfl] at H; exact H
   clear H
   have H := H1
   clear H1
   by_cases c6 : a0_2 = true
   ·subst c6
    have H1 : (some true) = some r := by rw [if_pos rfl] at H; exact H
    clear H
    have H := H1
    clear H1
    obtain rfl := Option.some.inj H
    go_enter Try.func46, Try.ntmps46
    go_wp2_with (first | ((with_reducible refine gate_dst (N := 1) rfl ?_); refine box_event ?hg (N := 1) ?hd (cs := #[.bool a0_0, .bool a0_1, .bool true, .int .i64 a0_3, .int .i64 a0_4]) (t := 39) ?hr ?_; (case hd => rfl); (case hg => rfl); (case hr => first | (go_simp; done) | (go_simp; rfl)); intro gb381 hg w7 hbox hb; have n0_ := m_ (below_step (bN HB.out) hb); have n1_ := m_ (hbox); have n2_ := m_ ((by rw [hg]; exact (below_size (bN HB.out)) : w.heap.size ≤ gb381)); have n3_ := m_ ((by rw [hg]; exact (below_size (bN HB.out)) : w.heap.size ≤ gb381)); clear HB; have HB := n0_; have BK381 := n1_; have GW381 := n2_; have GE381 := n3_; clear n0_ n1_ n2_ n3_; clear hb hbox hg; have hcz8_0 : w7.cell? ⟨gb381, 0, none⟩ = some (.bool a0_0) := bc BK381 0; have hcz8_1 : w7.cell? ⟨gb381, 1, none⟩ = some (.bool a0_1) := bc BK381 1; have hcz8_2 : w7.cell? ⟨gb381, 2, none⟩ = some (.bool true) := bc BK381 2; have hcz8_3 : w7.cell? ⟨gb381, 3, none⟩ = some (.int .i64 a0_3) := bc BK381 3; have hcz8_4 : w7.cell? ⟨gb381, 4, none⟩ = some (.int .i64 a0_4) := bc BK381 4; have hfz8_0 := blk_frozen BK381.out 0; have hfz8_1 := blk_frozen BK381.out 1; have hfz8_2 := blk_frozen BK381.out 2; have hfz8_3 := blk_frozen BK381.out 3; have hfz8_4 := blk_frozen BK381.out 4) | ((with_reducible refine gate_callee (f := 43) rfl ?_); refine goesL_ (some 5) rfl rfl Try.func43 (by kernel_rfl) rfl #[.int .i64 a0_3, .int .i64 3] rfl gl_ ?_; (with_reducible refine (impl_within.calls a0_3 3 true _ A2.out).mono ?_); rintro e w' ⟨rfl, ⟨nd, rfl⟩⟩; refine ⟨_, rfl, ?_⟩) | (go_at_call 43; (with_reducible refine (impl_within.calls a0_4 255 true _ A4.out).mono ?_); rintro e w' ⟨rfl, ⟨nd, rfl⟩⟩))
    go_ret
    exact ⟨by first | rfl | (simp [errW_none, errW_some] <;> rfl) | (simp [*, errW_none, errW_some] <;> rfl), by repeat (first | (with_reducible first | exact HB.out | apply below_alloc | apply pw_below_drewN | apply below_drew1 | refine below_set ?_ GE381.out) | exact HB.out)⟩
   ·replace c6 := Bool.eq_false_iff.mpr c6
    subst c6
    have H1 : (some (!a0_1)) = some r := by rw [if_neg (show ¬ (false = true) by decide)] at H; exact H
    clear H
    have H := H1
    clear H1
    obtain rfl := Option.some.inj H
    go_enter Try.func46, Try.ntmps46
    go_wp2_with (first | ((with_reducible refine gate_dst (N := 1) rfl ?_); refine box_event ?hg (N := 1) ?hd (cs := #[.bool a0_0, .bool a0_1, .bool false, .int .i64 a0_3, .int .i64 a0_4]) (t := 39) ?hr ?_; (case hd => rfl); (case hg => rfl); (case hr => first | (go_simp; done) | (go_simp; rfl)); intro gb381 hg w9 hbox hb; have n0_ := m_ (below_step (bN HB.out) hb); have n1_ := m_ (hbox); have n2_ := m_ ((by rw [hg]; exact (below_size (bN HB.out)) : w.heap.size ≤ gb381)); have n3_ := m_ ((by rw [hg]; exact (below_size (bN HB.out)) : w.heap.size ≤ gb381)); clear HB; have HB := n0_; have BK381 := n1_; have GW381 := n2_; have GE381 := n3_; clear n0_ n1_ n2_ n3_; clear hb hbox hg; have hcz10_0 : w9.cell? ⟨gb381, 0, none⟩ = some (.bool a0_0) := bc BK381 0; have hcz10_1 : w9.cell? ⟨gb381, 1, none⟩ = some (.bool a0_1) := bc BK381 1; have hcz10_2 : w9.cell? ⟨gb381, 2, none⟩ = some (.bool false) := bc BK381 2; have hcz10_3 : w9.cell? ⟨gb381, 3, none⟩ = some (.int .i64 a0_3) := bc BK381 3; have hcz10_4 : w9.cell? ⟨gb381, 4, none⟩ = some (.int .i64 a0_4) := bc BK381 4; have hfz10_0 := blk_frozen BK381.out 0; have hfz10_1 := blk_frozen BK381.out 1; have hfz10_2 := blk_frozen BK381.out 2; have hfz10_3 := blk_frozen BK381.out 3; have hfz10_4 := blk_frozen BK381.out 4) | ((with_reducible refine gate_callee (f := 43) rfl ?_); refine goesL_ (some 5) rfl rfl Try.func43 (by kernel_rfl) rfl #[.int .i64 a0_3, .int .i64 3] rfl gl_ ?_; (with_reducible refine (impl_within.calls a0_3 3 true _ A2.out).mono ?_); rintro e w' ⟨rfl, ⟨nd, rfl⟩⟩; refine ⟨_, rfl, ?_⟩) | (go_at_call 43; (with_reducible refine (impl_within.calls a0_4 255 true _ A4.out).mono ?_); rintro e w' ⟨rfl, ⟨nd, rfl⟩⟩))
    go_ret
    exact ⟨by first | rfl | (simp [errW_none, errW_some] <;> rfl) | (simp [*, errW_none, errW_some] <;> rfl), by repeat (first | (with_reducible first | exact HB.out | apply below_alloc | apply pw_below_drewN | apply below_drew1 | refine below_set ?_ GE381.out) | exact HB.out)⟩
  ·replace c5 := Bool.eq_false_iff.mpr c5
   subst c5
   have H1 : (some false) = some r := by rw [if_neg (show ¬ (false = true) by decide)] at H; exact H
   clear H
   have H := H1
   clear H1
   obtain rfl := Option.some.inj H
   go_enter Try.func46, Try.ntmps46
   go_wp2_with (first | ((with_reducible refine gate_dst (N := 1) rfl ?_); refine box_event ?hg (N := 1) ?hd (cs := #[.bool a0_0, .bool a0_1, .bool a0_2, .int .i64 a0_3, .int .i64 a0_4]) (t := 39) ?hr ?_; (case hd => rfl); (case hg => rfl); (case hr => first | (go_simp; done) | (go_simp; rfl)); intro gb381 hg w11 hbox hb; have n0_ := m_ (below_step (bN HB.out) hb); have n1_ := m_ (hbox); have n2_ := m_ ((by rw [hg]; exact (below_size (bN HB.out)) : w.heap.size ≤ gb381)); have n3_ := m_ ((by rw [hg]; exact (below_size (bN HB.out)) : w.heap.size ≤ gb381)); clear HB; have HB := n0_; have BK381 := n1_; have GW381 := n2_; have GE381 := n3_; clear n0_ n1_ n2_ n3_; clear hb hbox hg; have hcz12_0 : w11.cell? ⟨gb381, 0, none⟩ = some (.bool a0_0) := bc BK381 0; have hcz12_1 : w11.cell? ⟨gb381, 1, none⟩ = some (.bool a0_1) := bc BK381 1; have hcz12_2 : w11.cell? ⟨gb381, 2, none⟩ = some (.bool a0_2) := bc BK381 2; have hcz12_3 : w11.cell? ⟨gb381, 3, none⟩ = some (.int .i64 a0_3) := bc BK381 3; have hcz12_4 : w11.cell? ⟨gb381, 4, none⟩ = some (.int .i64 a0_4) := bc BK381 4; have hfz12_0 := blk_frozen BK381.out 0; have hfz12_1 := blk_frozen BK381.out 1; have hfz12_2 := blk_frozen BK381.out 2; have hfz12_3 := blk_frozen BK381.out 3; have hfz12_4 := blk_frozen BK381.out 4) | ((with_reducible refine gate_callee (f := 43) rfl ?_); refine goesL_ (some 5) rfl rfl Try.func43 (by kernel_rfl) rfl #[.int .i64 a0_3, .int .i64 3] rfl gl_ ?_; (with_reducible refine (impl_within.calls a0_3 3 true _ A2.out).mono ?_); rintro e w' ⟨rfl, ⟨nd, rfl⟩⟩; refine ⟨_, rfl, ?_⟩) | (go_at_call 43; (with_reducible refine (impl_within.calls a0_4 255 false _ A4.out).mono ?_); rintro e w' ⟨rfl, ⟨nd, rfl⟩⟩))
   go_ret
   exact ⟨by first | rfl | (simp [errW_none, errW_some] <;> rfl) | (simp [*, errW_none, errW_some] <;> rfl), by repeat (first | (with_reducible first | exact HB.out | apply below_alloc | apply pw_below_drewN | apply below_drew1 | refine below_set ?_ GE381.out) | exact HB.out)⟩
 ·replace c3 := Bool.eq_false_iff.mpr c3
  subst c3
  have H1 : (some false) = some r := by rw [if_neg (show ¬ (false = true) by decide)] at H; exact H
  clear H
  have H := H1
  clear H1
  obtain rfl := Option.some.inj H
  go_enter Try.func46, Try.ntmps46
  go_wp2_with (first | ((with_reducible refine gate_dst (N := 1) rfl ?_); refine box_event ?hg (N := 1) ?hd (cs := #[.bool a0_0, .bool a0_1, .bool a0_2, .int .i64 a0_3, .int .i64 a0_4]) (t := 39) ?hr ?_; (case hd => rfl); (case hg => rfl); (case hr => first | (go_simp; done) | (go_simp; rfl)); intro gb381 hg w13 hbox hb; have n0_ := m_ (below_step (bN HB.out) hb); have n1_ := m_ (hbox); have n2_ := m_ ((by rw [hg]; exact (below_size (bN HB.out)) : w.heap.size ≤ gb381)); have n3_ := m_ ((by rw [hg]; exact (below_size (bN HB.out)) : w.heap.size ≤ gb381)); clear HB; have HB := n0_; have BK381 := n1_; have GW381 := n2_; have GE381 := n3_; clear n0_ n1_ n2_ n3_; clear hb hbox hg; have hcz14_0 : w13.cell? ⟨gb381, 0, none⟩ = some (.bool a0_0) := bc BK381 0; have hcz14_1 : w13.cell? ⟨gb381, 1, none⟩ = some (.bool a0_1) := bc BK381 1; have hcz14_2 : w13.cell? ⟨gb381, 2, none⟩ = some (.bool a0_2) := bc BK381 2; have hcz14_3 : w13.cell? ⟨gb381, 3, none⟩ = some (.int .i64 a0_3) := bc BK381 3; have hcz14_4 : w13.cell? ⟨gb381, 4, none⟩ = some (.int .i64 a0_4) := bc BK381 4; have hfz14_0 := blk_frozen BK381.out 0; have hfz14_1 := blk_frozen BK381.out 1; have hfz14_2 := blk_frozen BK381.out 2; have hfz14_3 := blk_frozen BK381.out 3; have hfz14_4 := blk_frozen BK381.out 4) | ((with_reducible refine gate_callee (f := 43) rfl ?_); refine goesL_ (some 5) rfl rfl Try.func43 (by kernel_rfl) rfl #[.int .i64 a0_3, .int .i64 3] rfl gl_ ?_; (with_reducible refine (impl_within.calls a0_3 3 false _ A2.out).mono ?_); rintro e w' ⟨rfl, ⟨nd, rfl⟩⟩; refine ⟨_, rfl, ?_⟩))
  go_ret
  exact ⟨by first | rfl | (simp [errW_none, errW_some] <;> rfl) | (simp [*, errW_none, errW_some] <;> rfl), by repeat (first | (with_reducible first | exact HB.out | apply below_alloc | apply pw_below_drewN | apply below_drew1 | refine below_set ?_ GE381.out) | exact HB.out)⟩

/-! ### impl_goesRound_behind: function 47 -/
def impl_goesRound_behind.f (a0 : Int) (a1 : Int) : Option (Int) := (impl_goesRound_plus.f a0 (wrap64 (-a1))).bind fun t384 => (some t384)
set_option maxHeartbeats 8000000 in
set_option maxRecDepth 100000 in
theorem impl_goesRound_behind.calls (a0 : Int) (a1 : Int) (r : Int) (w : World) (h : impl_goesRound_behind.f a0 a1 = some r) :
  Calls Try.prog 47 #[.int .i64 a0, .int .i64 a1] w fun e w' => e = .returned (.int .i64 r) ∧ Drawn0 w w' := by
 have H : ((impl_goesRound_plus.f a0 (wrap64 (-a1))).bind fun t384 => (some t384)) = some r := h
 clear h
 replace H := Option.bind_eq_some_iff.mp H
 obtain ⟨t384, A30, H⟩ := H
 replace H : (some t384) = some r := H
 have A3 := Aside0.mk A30
 clear A30
 obtain rfl := Option.some.inj H
 go_enter Try.func47, Try.ntmps47
 go_wp2_with (first | ((with_reducible refine gate_callee (f := 38) rfl ?_); refine goesL_ (some 8) rfl rfl Try.func38 (by kernel_rfl) rfl #[.int .i64 a0, .int .i64 (wrap64 (-a1))] rfl gl_ ?_; (with_reducible refine (impl_goesRound_plus.calls a0 (wrap64 (-a1)) t384 _ A3.out).mono ?_); rintro e w' ⟨rfl, ⟨nd, rfl⟩⟩; refine ⟨_, rfl, ?_⟩))
 go_ret
 exact ⟨by first | rfl | (simp; done) | (simp [*]; done), by repeat (first | exact Drawn0.refl _ | apply Drawn0.step)⟩

/-! ### impl_FopHear: function 16 -/
def impl_FopHear.c (a0_0 a0_1 a0_2 : Int) (l0_3 : List ByteArray) (a0_4 : Bool) : Option (Int × Int × Int × List ByteArray × Bool × Bool) :=
  (impl_fopCopy.f a0_0 a0_1 a0_2 l0_3 a0_4).bind fun c => some (c.1, c.2.1, c.2.2.1, c.2.2.2.1, c.2.2.2.2, false)
def impl_FopHear.f (k : Nat) (a0_0 a0_1 a0_2 : Int) (l0_3 : List ByteArray) (a0_4 a1_0 a1_1 a1_2 : Bool) (a1_3 a1_4 : Int) : Option (Int × Int × Int × List ByteArray × Bool × Bool) :=
  (impl_FopOk.f k a0_0 a0_1 a0_2 l0_3 a0_4).bind fun o => if o = true then
    (impl_FarmOk.f a1_0 a1_1 a1_2 a1_3 a1_4).bind fun p => if p = true then
      (impl_FopFirst.f k a0_0 a0_1 a0_2 l0_3 a0_4).bind fun f => (impl_goesRound_behind.f a1_4 f).bind fun n =>
        if n > (l0_3.length : Int) then impl_FopHear.c a0_0 a0_1 a0_2 l0_3 a0_4
        else if l0_3.length ≤ 4 ∧ 0 ≤ n then some (a0_0, a0_1, a0_2, l0_3.drop n.toNat, a1_0, true) else none
    else impl_FopHear.c a0_0 a0_1 a0_2 l0_3 a0_4
  else some (0, 0, 0, [], false, false)
theorem impl_FopHear.mono : ∀ a0 a1 a2 a3 a4 a5 a6 a7 a8 a9 k, LeO (impl_FopHear.f k a0 a1 a2 a3 a4 a5 a6 a7 a8 a9) (impl_FopHear.f (k + 1) a0 a1 a2 a3 a4 a5 a6 a7 a8 a9) := by
  intro a0 a1 a2 a3 a4 a5 a6 a7 a8 a9 k
  unfold impl_FopHear.f
  repeat' first
  | (with_reducible exact impl_FopOk.mono _ _ _ _ _ _)
  | (with_reducible exact impl_FopFirst.mono _ _ _ _ _ _)
  | (with_reducible exact LeO.refl _)
  | (with_reducible exact LeO.none _)
  | (with_reducible refine LeO.ite ?_ ?_)
  | (with_reducible refine LeO.bind ?_ (fun _ => ?_))
set_option maxHeartbeats 8000000 in
set_option maxRecDepth 100000 in
theorem impl_FopHear.calls (k : Nat) (a0_0 : Int) (a0_1 : Int) (a0_2 : Int) (A0_3 : Option Addr) (c0_3 : Nat) (l0_3 : List ByteArray) (a0_4 : Bool) (a1_0 : Bool) (a1_1 : Bool) (a1_2 : Bool) (a1_3 : Int) (a1_4 : Int) (r1 : Int) (r2 : Int) (r3 : Int) (r4 : List ByteArray) (r5 : Bool) (r6 : Bool) (w : World) (hr0_3 : Kd.C Kd.string w A0_3 l0_3.length l0_3) (hc0_3 : l0_3.length ≤ c0_3) (h : impl_FopHear.f k a0_0 a0_1 a0_2 l0_3 a0_4 a1_0 a1_1 a1_2 a1_3 a1_4 = some (r1, r2, r3, r4, r5, r6)) :
  Calls Try.prog 16 #[.agg #[.int .i64 a0_0, .int .i64 a0_1, .int .i64 a0_2, .slice A0_3 l0_3.length c0_3, .bool a0_4], .agg #[.bool a1_0, .bool a1_1, .bool a1_2, .int .i64 a1_3, .int .i64 a1_4]] w fun e w' => ∃ v3_ : Value, e = .returned (.tuple #[.agg #[.int .i64 r1, .int .i64 r2, .int .i64 r3, v3_, .bool r5], .bool r6]) ∧ Kd.R Kd.string 9 w' w.heap.size (fun _ => True) v3_ r4 ∧ Below w.heap.size w w' := by
  have HH := h
  clear h
  unfold impl_FopHear.f at HH
  have HR := Aside0.mk hr0_3
  have HC := Aside0.mk hc0_3
  clear hr0_3 hc0_3
  obtain ⟨o, A1, HH⟩ := Option.bind_eq_some_iff.mp HH
  replace A1 := Aside0.mk A1
  have F0 : Aside0 ((((w.alloc (.cells #[.int .i64 a0_0, .int .i64 a0_1, .int .i64 a0_2, .slice A0_3 l0_3.length c0_3, .bool a0_4] 25)).alloc (.cells #[.bool a1_0, .bool a1_1, .bool a1_2, .int .i64 a1_3, .int .i64 a1_4] 39)).alloc (.cells #[.int .i64 0, .int .i64 0, .int .i64 0, .slice none 0 0, .bool false] 25)).heap[w.heap.size]? = some (.cells #[.int .i64 a0_0, .int .i64 a0_1, .int .i64 a0_2, .slice A0_3 l0_3.length c0_3, .bool a0_4] 25 (0, 0))) := ⟨blk_alloc (blk_alloc (heap_alloc_new _ _) _) _⟩
  have X0 : Aside0 ((((w.alloc (.cells #[.int .i64 a0_0, .int .i64 a0_1, .int .i64 a0_2, .slice A0_3 l0_3.length c0_3, .bool a0_4] 25)).alloc (.cells #[.bool a1_0, .bool a1_1, .bool a1_2, .int .i64 a1_3, .int .i64 a1_4] 39)).alloc (.cells #[.int .i64 0, .int .i64 0, .int .i64 0, .slice none 0 0, .bool false] 25)).heap[w.heap.size + 1]? = some (.cells #[.bool a1_0, .bool a1_1, .bool a1_2, .int .i64 a1_3, .int .i64 a1_4] 39 (0, 0))) := ⟨blk_alloc (heap_alloc2_new _ _ _) _⟩
  have Z0 : Aside0 ((((w.alloc (.cells #[.int .i64 a0_0, .int .i64 a0_1, .int .i64 a0_2, .slice A0_3 l0_3.length c0_3, .bool a0_4] 25)).alloc (.cells #[.bool a1_0, .bool a1_1, .bool a1_2, .int .i64 a1_3, .int .i64 a1_4] 39)).alloc (.cells #[.int .i64 0, .int .i64 0, .int .i64 0, .slice none 0 0, .bool false] 25)).heap[w.heap.size + 2]? = some (.cells #[.int .i64 0, .int .i64 0, .int .i64 0, .slice none 0 0, .bool false] 25 (0, 0))) := ⟨by have := heap_alloc_new ((w.alloc (.cells #[.int .i64 a0_0, .int .i64 a0_1, .int .i64 a0_2, .slice A0_3 l0_3.length c0_3, .bool a0_4] 25)).alloc (.cells #[.bool a1_0, .bool a1_1, .bool a1_2, .int .i64 a1_3, .int .i64 a1_4] 39)) (.cells #[.int .i64 0, .int .i64 0, .int .i64 0, .slice none 0 0, .bool false] 25); simpa using this⟩
  have G0 : Aside0 (Below w.heap.size w (((w.alloc (.cells #[.int .i64 a0_0, .int .i64 a0_1, .int .i64 a0_2, .slice A0_3 l0_3.length c0_3, .bool a0_4] 25)).alloc (.cells #[.bool a1_0, .bool a1_1, .bool a1_2, .int .i64 a1_3, .int .i64 a1_4] 39)).alloc (.cells #[.int .i64 0, .int .i64 0, .int .i64 0, .slice none 0 0, .bool false] 25))) := ⟨(((Below.refl _ _).alloc (Nat.le_refl _) _).alloc (by simp) _).alloc (by simp; omega) _⟩
  go_enter Try.func16, Try.ntmps16
  go_wp2_with fail
  refine (impl_FopOk.calls k a0_0 a0_1 a0_2 A0_3 c0_3 l0_3 a0_4 _ _ (Kd.C_below HR.out G0.out) HC.out A1.out).mono ?_
  rintro e w1 ⟨rfl, B1⟩
  have F1 := Aside0.mk (blk_below F0.out B1)
  have X1 := Aside0.mk (blk_below X0.out B1)
  have Z1 := Aside0.mk (blk_below Z0.out B1)
  have G1 := Aside0.mk (below_then G0.out G0.out.size B1)
  clear F0 X0 Z0 G0 B1
  obtain ⟨⟨c0, c1, c2, c3, c4⟩, f0, f1, f2, f3, f4⟩ := fop_row F1.out
  obtain ⟨⟨x0, x1, x2, x3, x4⟩, y0, y1, y2, y3, y4⟩ := fop_row X1.out
  obtain ⟨⟨z0, z1, z2, z3, z4⟩, u0, u1, u2, u3, u4⟩ := fop_row Z1.out
  cases o with
  | false =>
    rw [if_neg (by simp)] at HH
    simp only [Option.some.injEq, Prod.mk.injEq] at HH
    obtain ⟨rfl, rfl, rfl, rfl, rfl, rfl⟩ := HH
    go_wp2_with fail
    refine bodyPost_ret (results_ct rfl _ _ (w.heap.size + 2) 25 #[.int .i64 0, .int .i64 0, .int .i64 0, .slice none 0 0, .bool false] (0, 0) _ rfl (fop_set Z1.out _ _ _ _ _) Try.underlying25 rfl (by kernel_rfl)) rfl ?_
    exact ⟨_, rfl, Kd.R_nil _ _ _ _ _, fop_set_below G1.out (by omega) _ _ _ _ _⟩
  | true =>
    rw [if_pos rfl] at HH
    obtain ⟨p, A2, HH⟩ := Option.bind_eq_some_iff.mp HH
    replace A2 := Aside0.mk A2
    go_wp2_with fail
    refine (impl_FarmOk.calls a1_0 a1_1 a1_2 a1_3 a1_4 _ _ A2.out).mono ?_
    rintro e w2 ⟨rfl, B2⟩
    have F2 := Aside0.mk (blk_below F1.out B2)
    have X2 := Aside0.mk (blk_below X1.out B2)
    have Z2 := Aside0.mk (blk_below Z1.out B2)
    have G2 := Aside0.mk (below_then G1.out G1.out.size B2)
    clear c0 c1 c2 c3 c4 f0 f1 f2 f3 f4 x0 x1 x2 x3 x4 y0 y1 y2 y3 y4 z0 z1 z2 z3 z4 u0 u1 u2 u3 u4
    clear F1 X1 Z1 G1 B2
    obtain ⟨⟨c0, c1, c2, c3, c4⟩, f0, f1, f2, f3, f4⟩ := fop_row F2.out
    obtain ⟨⟨x0, x1, x2, x3, x4⟩, y0, y1, y2, y3, y4⟩ := fop_row X2.out
    obtain ⟨⟨z0, z1, z2, z3, z4⟩, u0, u1, u2, u3, u4⟩ := fop_row Z2.out
    cases p with
    | false =>
      rw [if_neg (by simp)] at HH
      unfold impl_FopHear.c at HH
      obtain ⟨⟨q1, q2, q3, q4, q5⟩, AC, HH⟩ := Option.bind_eq_some_iff.mp HH
      simp only [Option.some.injEq, Prod.mk.injEq] at HH
      obtain ⟨rfl, rfl, rfl, rfl, rfl, rfl⟩ := HH
      go_wp2_with fail
      refine (impl_fopCopy.calls a0_0 a0_1 a0_2 A0_3 c0_3 l0_3 a0_4 _ _ _ _ _ _ (Kd.C_below HR.out G2.out) HC.out AC).mono ?_
      rintro e w9 ⟨v9, rfl, O9, B9⟩
      obtain ⟨A9, c9, rfl⟩ := Kd.R_slice O9
      have F9 := Aside0.mk (blk_below F2.out B9)
      have X9 := Aside0.mk (blk_below X2.out B9)
      have Z9 := Aside0.mk (blk_below Z2.out B9)
      have G9 := Aside0.mk (below_then G2.out G2.out.size B9)
      have L9 := G2.out.size
      clear c0 c1 c2 c3 c4 f0 f1 f2 f3 f4 x0 x1 x2 x3 x4 y0 y1 y2 y3 y4 z0 z1 z2 z3 z4 u0 u1 u2 u3 u4
      obtain ⟨⟨c0, c1, c2, c3, c4⟩, f0, f1, f2, f3, f4⟩ := fop_row F9.out
      obtain ⟨⟨x0, x1, x2, x3, x4⟩, y0, y1, y2, y3, y4⟩ := fop_row X9.out
      obtain ⟨⟨z0, z1, z2, z3, z4⟩, u0, u1, u2, u3, u4⟩ := fop_row Z9.out
      go_wp2_with fail
      refine bodyPost_ret (results_ct rfl _ _ (w.heap.size + 2) 25 #[.int .i64 _, .int .i64 _, .int .i64 _, .slice _ _ _, .bool _] (0, 0) _ rfl (fop_set Z9.out _ _ _ _ _) Try.underlying25 rfl (by kernel_rfl)) rfl ?_
      exact ⟨_, rfl, Kd.R_lower (fop_set_R O9 Z9.out (by decide) _ _ _ _ _) L9, fop_set_below G9.out (by omega) _ _ _ _ _⟩
    | true =>
      rw [if_pos rfl] at HH
      obtain ⟨f, A3, HH⟩ := Option.bind_eq_some_iff.mp HH
      replace A3 := Aside0.mk A3
      obtain ⟨n, A4, HH⟩ := Option.bind_eq_some_iff.mp HH
      replace A4 := Aside0.mk A4
      have HHA := Aside0.mk HH
      clear HH
      go_wp2_with fail
      have F3 : Aside0 (w2.drew.heap[w.heap.size]? = some (.cells #[.int .i64 a0_0, .int .i64 a0_1, .int .i64 a0_2, .slice A0_3 l0_3.length c0_3, .bool a0_4] 25 (0, 0))) := F2
      have X3 : Aside0 (w2.drew.heap[w.heap.size + 1]? = some (.cells #[.bool a1_0, .bool a1_1, .bool a1_2, .int .i64 a1_3, .int .i64 a1_4] 39 (0, 0))) := X2
      have Z3 : Aside0 (w2.drew.heap[w.heap.size + 2]? = some (.cells #[.int .i64 0, .int .i64 0, .int .i64 0, .slice none 0 0, .bool false] 25 (0, 0))) := Z2
      have G3 : Aside0 (Below w.heap.size w w2.drew) := ⟨G2.out.drew⟩
      clear c0 c1 c2 c3 c4 f0 f1 f2 f3 f4 x0 x1 x2 x3 x4 y0 y1 y2 y3 y4 z0 z1 z2 z3 z4 u0 u1 u2 u3 u4
      obtain ⟨⟨c0, c1, c2, c3, c4⟩, f0, f1, f2, f3, f4⟩ := fop_row F3.out
      obtain ⟨⟨x0, x1, x2, x3, x4⟩, y0, y1, y2, y3, y4⟩ := fop_row X3.out
      obtain ⟨⟨z0, z1, z2, z3, z4⟩, u0, u1, u2, u3, u4⟩ := fop_row Z3.out
      refine start_ (n := 6) (S := fun w' => w'.cell? ⟨w.heap.size + 1, 4, none⟩ = some (.int .i64 a1_4) ∧ w'.cell? ⟨w.heap.size, 0, none⟩ = some (.int .i64 a0_0) ∧ w'.cell? ⟨w.heap.size, 1, none⟩ = some (.int .i64 a0_1) ∧ w'.cell? ⟨w.heap.size, 2, none⟩ = some (.int .i64 a0_2) ∧ w'.cell? ⟨w.heap.size, 3, none⟩ = some (.slice A0_3 l0_3.length c0_3) ∧ w'.cell? ⟨w.heap.size, 4, none⟩ = some (.bool a0_4)) (ds := [4]) #[false, false, false, false, false, false] (by kernel_rfl) rfl rfl (⟨x4, c0, c1, c2, c3, c4⟩) (fun hHeld => ?_)
      generalize w2.drew = w3 at F3 X3 Z3 G3 hHeld ⊢
      clear c0 c1 c2 c3 c4 f0 f1 f2 f3 f4 x0 x1 x2 x3 x4 y0 y1 y2 y3 y4 z0 z1 z2 z3 z4 u0 u1 u2 u3 u4
      clear F2 X2 Z2 G2
      refine pure_ (i := 0) (N := some 17) (v := ?_) (a' := ?_) #[true, false, false, false, false, false] rfl rfl (by kernel_rfl) (fun _ _ _ h => h) (Or.inl ⟨by rfl, ?_⟩) ?_ ?_
      rotate_left
      · intro w'
        go_simp
        with_reducible rfl
      rotate_left
      · simp only [Act.put, List.setIfInBounds_toArray, List.set_cons_zero, List.set_cons_succ, i64_w, i32_w]
        rfl
      refine take_ (i := 1) (N := some 18) (v := ?_) (a' := ?_) #[true, true, false, false, false, false] rfl rfl (by kernel_rfl) (fun _ _ _ h => h) (Or.inl ⟨by rfl, ?_⟩) hHeld ?_ ?_
      rotate_left
      · intro w' s0
        obtain ⟨s0, s1, s2, s3, s4, s5⟩ := s0
        go_simp
        with_reducible rfl
      rotate_left
      · simp only [Act.put, List.setIfInBounds_toArray, List.set_cons_zero, List.set_cons_succ, i64_w, i32_w]
        rfl
      refine take_ (i := 2) (N := some 19) (v := ?_) (a' := ?_) #[true, true, true, false, false, false] rfl rfl (by kernel_rfl) (fun _ _ _ h => h) (Or.inl ⟨by rfl, ?_⟩) hHeld ?_ ?_
      rotate_left
      · intro w' s0
        obtain ⟨s0, s1, s2, s3, s4, s5⟩ := s0
        go_simp
        with_reducible rfl
      rotate_left
      · simp only [Act.put, List.setIfInBounds_toArray, List.set_cons_zero, List.set_cons_succ, i64_w, i32_w]
        rfl
      refine one_ (i := 3) (N := some 20) #[true, true, true, true, false, false] rfl rfl (by kernel_rfl) (by decide) (fun K hK => ?_)
      refine goes_ Try.func14 (by kernel_rfl) rfl #[.agg #[.int .i64 a0_0, .int .i64 a0_1, .int .i64 a0_2, .slice A0_3 l0_3.length c0_3, .bool a0_4]] (by rfl) rfl rfl gl_ ?_
      refine (impl_FopFirst.calls k a0_0 a0_1 a0_2 A0_3 c0_3 l0_3 a0_4 _ _ (Kd.C_below HR.out G3.out) HC.out A3.out).mono ?_
      rintro e w4 ⟨rfl, B4⟩
      have F4 := Aside0.mk (blk_below F3.out B4)
      have X4 := Aside0.mk (blk_below X3.out B4)
      have Z4 := Aside0.mk (blk_below Z3.out B4)
      have G4 := Aside0.mk (below_then G3.out G3.out.size B4)
      clear F3 X3 Z3 G3 B4
      refine ⟨_, rfl, ?_⟩
      obtain ⟨⟨c0, c1, c2, c3, c4⟩, f0, f1, f2, f3, f4⟩ := fop_row F4.out
      obtain ⟨⟨x0, x1, x2, x3, x4⟩, y0, y1, y2, y3, y4⟩ := fop_row X4.out
      obtain ⟨⟨z0, z1, z2, z3, z4⟩, u0, u1, u2, u3, u4⟩ := fop_row Z4.out
      refine hK.out _ _ ⟨x4, c0, c1, c2, c3, c4⟩ (fun hHeld => ?_)
      clear hK K
      refine norm_ (a' := ?_) ?_ ?_
      rotate_left
      · show Act.put _ (some 20) _ = _
        simp only [Act.put, List.setIfInBounds_toArray, List.set_cons_zero, List.set_cons_succ, i64_w, i32_w]
        rfl
      refine last_ (i := 4) (N := some 21) #[true, true, true, true, true, false] rfl rfl (by kernel_rfl) (by decide) (fun K hK => ?_)
      refine goes_ Try.func47 (by kernel_rfl) rfl #[.int .i64 a1_4, .int .i64 f] (by rfl) rfl rfl gl_ ?_
      refine (impl_goesRound_behind.calls a1_4 f _ _ A4.out).mono ?_
      rintro e w5 ⟨rfl, ⟨⟨nd, rfl⟩⟩⟩
      refine ⟨_, rfl, ?_⟩
      refine hK.out _ _ ?_
      clear hK K
      refine norm_ (a' := ?_) ?_ ?_
      rotate_left
      · show Act.put _ (some 21) _ = _
        simp only [Act.put, List.setIfInBounds_toArray, List.set_cons_zero, List.set_cons_succ, i64_w, i32_w]
        rfl
      refine pure_ (i := 5) (N := some 6) (v := ?_) (a' := ?_) #[true, true, true, true, true, true] rfl rfl (by kernel_rfl) (fun _ _ _ h => h) (Or.inl ⟨by rfl, ?_⟩) ?_ ?_
      rotate_left
      · intro w'
        go_simp
        with_reducible rfl
      rotate_left
      · simp only [Act.put, List.setIfInBounds_toArray, List.set_cons_zero, List.set_cons_succ, i64_w, i32_w]
        rfl
      refine done_ (by kernel_rfl) ?_
      have F5 : Aside0 ((w4.drewN nd).heap[w.heap.size]? = some (.cells #[.int .i64 a0_0, .int .i64 a0_1, .int .i64 a0_2, .slice A0_3 l0_3.length c0_3, .bool a0_4] 25 (0, 0))) := ⟨blk_drewN F4.out _⟩
      have X5 : Aside0 ((w4.drewN nd).heap[w.heap.size + 1]? = some (.cells #[.bool a1_0, .bool a1_1, .bool a1_2, .int .i64 a1_3, .int .i64 a1_4] 39 (0, 0))) := ⟨blk_drewN X4.out _⟩
      have Z5 : Aside0 ((w4.drewN nd).heap[w.heap.size + 2]? = some (.cells #[.int .i64 0, .int .i64 0, .int .i64 0, .slice none 0 0, .bool false] 25 (0, 0))) := ⟨blk_drewN Z4.out _⟩
      have G5 : Aside0 (Below w.heap.size w (w4.drewN nd)) := ⟨pw_below_drewN G4.out _⟩
      clear c0 c1 c2 c3 c4 f0 f1 f2 f3 f4 x0 x1 x2 x3 x4 y0 y1 y2 y3 y4 z0 z1 z2 z3 z4 u0 u1 u2 u3 u4
      generalize w4.drewN nd = w5 at F5 X5 Z5 G5 ⊢
      clear F4 X4 Z4 G4
      obtain ⟨⟨c0, c1, c2, c3, c4⟩, f0, f1, f2, f3, f4⟩ := fop_row F5.out
      obtain ⟨⟨x0, x1, x2, x3, x4⟩, y0, y1, y2, y3, y4⟩ := fop_row X5.out
      obtain ⟨⟨z0, z1, z2, z3, z4⟩, u0, u1, u2, u3, u4⟩ := fop_row Z5.out
      have HH := HHA.out
      by_cases hn : n > (l0_3.length : Int)
      · skip
        rw [if_pos hn] at HH
        have d1 : decide ((l0_3.length : Int) < n) = true := decide_eq_true hn
        unfold impl_FopHear.c at HH
        obtain ⟨⟨q1, q2, q3, q4, q5⟩, AC, HH⟩ := Option.bind_eq_some_iff.mp HH
        simp only [Option.some.injEq, Prod.mk.injEq] at HH
        obtain ⟨rfl, rfl, rfl, rfl, rfl, rfl⟩ := HH
        go_wp2_with fail
        refine (impl_fopCopy.calls a0_0 a0_1 a0_2 A0_3 c0_3 l0_3 a0_4 _ _ _ _ _ _ (Kd.C_below HR.out G5.out) HC.out AC).mono ?_
        rintro e w9 ⟨v9, rfl, O9, B9⟩
        obtain ⟨A9, c9, rfl⟩ := Kd.R_slice O9
        have F9 := Aside0.mk (blk_below F5.out B9)
        have X9 := Aside0.mk (blk_below X5.out B9)
        have Z9 := Aside0.mk (blk_below Z5.out B9)
        have G9 := Aside0.mk (below_then G5.out G5.out.size B9)
        have L9 := G5.out.size
        clear c0 c1 c2 c3 c4 f0 f1 f2 f3 f4 x0 x1 x2 x3 x4 y0 y1 y2 y3 y4 z0 z1 z2 z3 z4 u0 u1 u2 u3 u4
        obtain ⟨⟨c0, c1, c2, c3, c4⟩, f0, f1, f2, f3, f4⟩ := fop_row F9.out
        obtain ⟨⟨x0, x1, x2, x3, x4⟩, y0, y1, y2, y3, y4⟩ := fop_row X9.out
        obtain ⟨⟨z0, z1, z2, z3, z4⟩, u0, u1, u2, u3, u4⟩ := fop_row Z9.out
        go_wp2_with fail
        refine bodyPost_ret (results_ct rfl _ _ (w.heap.size + 2) 25 #[.int .i64 _, .int .i64 _, .int .i64 _, .slice _ _ _, .bool _] (0, 0) _ rfl (fop_set Z9.out _ _ _ _ _) Try.underlying25 rfl (by kernel_rfl)) rfl ?_
        exact ⟨_, rfl, Kd.R_lower (fop_set_R O9 Z9.out (by decide) _ _ _ _ _) L9, fop_set_below G9.out (by omega) _ _ _ _ _⟩
      · skip
        rw [if_neg hn] at HH
        have d1 : decide ((l0_3.length : Int) < n) = false := decide_eq_false hn
        split at HH
        case isFalse => cases HH
        rename_i hh
        obtain ⟨hl4, hn0⟩ := hh
        simp only [Option.some.injEq, Prod.mk.injEq] at HH
        obtain ⟨rfl, rfl, rfl, rfl, rfl, rfl⟩ := HH
        obtain ⟨m, rfl⟩ := Int.eq_ofNat_of_zero_le hn0
        go_wp2_with fail
        refine (ring_of A0_3 c0_3 l0_3 _ (Kd.C_below HR.out G5.out) HC.out hl4).mono ?_
        rintro e w6 ⟨rfl, B6⟩
        unfold ringV
        have F6 := Aside0.mk (blk_below F5.out B6)
        have X6 := Aside0.mk (blk_below X5.out B6)
        have Z6 := Aside0.mk (blk_below Z5.out B6)
        have G6 := Aside0.mk (below_then G5.out G5.out.size B6)
        have L6 : Aside0 (w.heap.size + 2 < w6.heap.size) := ⟨blk_lt Z6.out⟩
        clear c0 c1 c2 c3 c4 f0 f1 f2 f3 f4 x0 x1 x2 x3 x4 y0 y1 y2 y3 y4 z0 z1 z2 z3 z4 u0 u1 u2 u3 u4
        clear F5 X5 Z5 G5 B6
        obtain ⟨⟨c0, c1, c2, c3, c4⟩, f0, f1, f2, f3, f4⟩ := fop_row F6.out
        obtain ⟨⟨x0, x1, x2, x3, x4⟩, y0, y1, y2, y3, y4⟩ := fop_row X6.out
        obtain ⟨⟨z0, z1, z2, z3, z4⟩, u0, u1, u2, u3, u4⟩ := fop_row Z6.out
        go_wp2_with fail
        have hm : m ≤ l0_3.length := by omega
        refine (ring_drop w6.heap.size _ _ _ _ l0_3.length m _ (heap_alloc_new _ _) hm hl4).mono ?_
        rintro e w7 ⟨rfl, Q7, K7, D7⟩
        have F7 := Aside0.mk (K7.blk (blk_alloc F6.out _) (by have := L6.out; omega) (by simp))
        have X7 := Aside0.mk (K7.blk (blk_alloc X6.out _) (by have := L6.out; omega) (by simp))
        have Z7 := Aside0.mk (K7.blk (blk_alloc Z6.out _) (by have := L6.out; omega) (by simp))
        have G7 := Aside0.mk ((G6.out.alloc G6.out.size _).trans (D7.mono (by have := L6.out; omega)))
        clear c0 c1 c2 c3 c4 f0 f1 f2 f3 f4 x0 x1 x2 x3 x4 y0 y1 y2 y3 y4 z0 z1 z2 z3 z4 u0 u1 u2 u3 u4
        clear F6 X6 Z6 G6 K7 D7
        obtain ⟨⟨c0, c1, c2, c3, c4⟩, f0, f1, f2, f3, f4⟩ := fop_row F7.out
        obtain ⟨⟨x0, x1, x2, x3, x4⟩, y0, y1, y2, y3, y4⟩ := fop_row X7.out
        obtain ⟨⟨z0, z1, z2, z3, z4⟩, u0, u1, u2, u3, u4⟩ := fop_row Z7.out
        go_wp2_with fail
        refine (ring_list w6.heap.size (tx l0_3) (m % 4) (l0_3.length - m) w7 Q7 (by omega) (by omega)).mono ?_
        rintro e w8 ⟨v8, rfl, O8, B8⟩
        rw [ringOut_drop _ _ hm hl4] at O8
        obtain ⟨A8, c8, rfl⟩ := Kd.R_slice O8
        rw [List.length_drop] at O8
        have L8 := G7.out.size
        have F8 := Aside0.mk (blk_below F7.out B8)
        have X8 := Aside0.mk (blk_below X7.out B8)
        have Z8 := Aside0.mk (blk_below Z7.out B8)
        have G8 := Aside0.mk (below_then G7.out G7.out.size B8)
        clear c0 c1 c2 c3 c4 f0 f1 f2 f3 f4 x0 x1 x2 x3 x4 y0 y1 y2 y3 y4 z0 z1 z2 z3 z4 u0 u1 u2 u3 u4
        clear F7 X7 Z7 G7 B8
        obtain ⟨⟨c0, c1, c2, c3, c4⟩, f0, f1, f2, f3, f4⟩ := fop_row F8.out
        obtain ⟨⟨x0, x1, x2, x3, x4⟩, y0, y1, y2, y3, y4⟩ := fop_row X8.out
        obtain ⟨⟨z0, z1, z2, z3, z4⟩, u0, u1, u2, u3, u4⟩ := fop_row Z8.out
        go_wp2_with fail
        refine bodyPost_ret (results_ct rfl _ _ (w.heap.size + 2) 25 #[.int .i64 _, .int .i64 _, .int .i64 _, .slice _ _ _, .bool _] (0, 0) _ rfl (fop_set (blk_far (blk_far Z8.out (p := ⟨w.heap.size, 3, none⟩) (by simp) _) (p := ⟨w.heap.size, 4, none⟩) (by simp) _) _ _ _ _ _) Try.underlying25 rfl (by kernel_rfl)) rfl ?_
        exact ⟨_, rfl, by rw [Int.toNat_natCast]; exact Kd.R_lower (fop_set_R (R_one (R_one O8 F8.out (by decide)) (blk_set F8.out 3 _) (by decide)) (blk_far (blk_far Z8.out (p := ⟨w.heap.size, 3, none⟩) (by simp) _) (p := ⟨w.heap.size, 4, none⟩) (by simp) _) (by decide) _ _ _ _ _) L8, fop_set_below ((G8.out.setCell (Nat.le_refl _) _).setCell (Nat.le_refl _) _) (by omega) _ _ _ _ _⟩

/-! ### spec_FarmOk: function 49 -/
def spec_FarmOk.f (a0_0 : Bool) (a0_1 : Bool) (a0_2 : Bool) (a0_3 : Int) (a0_4 : Int) : Option (Bool) := (spec_l1In.f a0_3 0 3).bind fun t386 => (if t386 = true then ((spec_l1In.f a0_4 0 255).bind fun t387 => (if t387 = true then (if a0_1 = true then (some a0_2) else (some true)) else (some false))) else (some false))
set_option maxHeartbeats 8000000 in
set_option maxRecDepth 100000 in
theorem spec_FarmOk.calls (a0_0 : Bool) (a0_1 : Bool) (a0_2 : Bool) (a0_3 : Int) (a0_4 : Int) (r : Bool) (w : World) (h : spec_FarmOk.f a0_0 a0_1 a0_2 a0_3 a0_4 = some r) :
  Calls Try.prog 49 #[.agg #[.bool a0_0, .bool a0_1, .bool a0_2, .int .i64 a0_3, .int .i64 a0_4]] w fun e w' => e = .returned (.bool r) ∧ Below w.heap.size w w' := by
 have hu39 := Try.underlying39
 have HB := m_ (Below.refl w.heap.size w)
 have H : ((spec_l1In.f a0_3 0 3).bind fun t386 => (if t386 = true then ((spec_l1In.f a0_4 0 255).bind fun t387 => (if t387 = true then (if a0_1 = true then (some a0_2) else (some true)) else (some false))) else (some false))) = some r := h
 clear h
 replace H := Option.bind_eq_some_iff.mp H
 obtain ⟨t386, A20, H⟩ := H
 replace H : (if t386 = true then ((spec_l1In.f a0_4 0 255).bind fun t387 => (if t387 = true then (if a0_1 = true then (some a0_2) else (some true)) else (some false))) else (some false)) = some r := H
 have A2 := Aside0.mk A20
 clear A20
 by_cases c3 : t386 = true
 ·subst c3
  have H1 : ((spec_l1In.f a0_4 0 255).bind fun t387 => (if t387 = true then (if a0_1 = true then (some a0_2) else (some true)) else (some false))) = some r := by rw [if_pos rfl] at H; exact H
  clear H
  have H := H1
  clear H1
  replace H := Option.bind_eq_some_iff.mp H
  obtain ⟨t387, A40, H⟩ := H
  replace H : (if t387 = true then (if a0_1 = true then (some a0_2) else (some true)) else (some false)) = some r := H
  have A4 := Aside0.mk A40
  clear A40
  by_cases c5 : t387 = true
  ·subst c5
   have H1 : (if a0_1 = true then (some a0_2) else (some true)) = some r := by rw [if_pos rfl] at H; exact H
   clear H
   have H := H1
   clear H1
   by_cases c6 : a0_1 = true
   ·subst c6
    have H1 : (some a0_2) = some r := by rw [if_pos rfl] at H; exact H
    clear H
    have H := H1
    clear H1
    obtain rfl := Option.some.inj H
    go_enter Try.func49, Try.ntmps49
    go_wp2_with (first | ((with_reducible refine gate_dst (N := 1) rfl ?_); refine box_event ?hg (N := 1) ?hd (cs := #[.bool a0_0, .bool true, .bool a0_2, .int .i64 a0_3, .int .i64 a0_4]) (t := 39) ?hr ?_; (case hd => rfl); (case hg => rfl); (case hr => first | (go_simp; done) | (go_simp; rfl)); intro gb385 hg w7 hbox hb; have n0_ := m_ (below_step (bN HB.out) hb); have n1_ := m_ (hbox); have n2_ := m_ ((by rw [hg]; exact (below_size (bN HB.out)) : w.heap.size ≤ gb385)); have n3_ := m_ ((by rw [hg]; exact (below_size (bN HB.out)) : w.heap.size ≤ gb385)); clear HB; have HB := n0_; have BK385 := n1_; have GW385 := n2_; have GE385 := n3_; clear n0_ n1_ n2_ n3_; clear hb hbox hg; have hcz8_0 : w7.cell? ⟨gb385, 0, none⟩ = some (.bool a0_0) := bc BK385 0; have hcz8_1 : w7.cell? ⟨gb385, 1, none⟩ = some (.bool true) := bc BK385 1; have hcz8_2 : w7.cell? ⟨gb385, 2, none⟩ = some (.bool a0_2) := bc BK385 2; have hcz8_3 : w7.cell? ⟨gb385, 3, none⟩ = some (.int .i64 a0_3) := bc BK385 3; have hcz8_4 : w7.cell? ⟨gb385, 4, none⟩ = some (.int .i64 a0_4) := bc BK385 4; have hfz8_0 := blk_frozen BK385.out 0; have hfz8_1 := blk_frozen BK385.out 1; have hfz8_2 := blk_frozen BK385.out 2; have hfz8_3 := blk_frozen BK385.out 3; have hfz8_4 := blk_frozen BK385.out 4) | ((with_reducible refine gate_callee (f := 40) rfl ?_); refine goesL_ (some 5) rfl rfl Try.func40 (by kernel_rfl) rfl #[.int .i64 a0_3, .int .i64 0, .int .i64 3] rfl gl_ ?_; (with_reducible refine (spec_l1In.calls a0_3 0 3 true _ A2.out).mono ?_); rintro e w' ⟨rfl, ⟨nd, rfl⟩⟩; refine ⟨_, rfl, ?_⟩) | (go_at_call 40; (with_reducible refine (spec_l1In.calls a0_4 0 255 true _ A4.out).mono ?_); rintro e w' ⟨rfl, ⟨nd, rfl⟩⟩))
    go_ret
    exact ⟨by first | rfl | (simp [errW_none, errW_some] <;> rfl) | (simp [*, errW_none, errW_some] <;> rfl), by repeat (first | (with_reducible first | exact HB.out | apply below_alloc | apply pw_below_drewN | apply below_drew1 | refine below_set ?_ GE385.out) | exact HB.out)⟩
   ·replace c6 := Bool.eq_false_iff.mpr c6
    subst c6
    have H1 : (some true) = some r := by rw [if_neg (show ¬ (false = true) by decide)] at H; exact H
    clear H
    have H := H1
    clear H1
    obtain rfl := Option.some.inj H
    go_enter Try.func49, Try.ntmps49
    go_wp2_with (first | ((with_reducible refine gate_dst (N := 1) rfl ?_); refine box_event ?hg (N := 1) ?hd (cs := #[.bool a0_0, .bool false, .bool a0_2, .int .i64 a0_3, .int .i64 a0_4]) (t := 39) ?hr ?_; (case hd => rfl); (case hg => rfl); (case hr => first | (go_simp; done) | (go_simp; rfl)); intro gb385 hg w9 hbox hb; have n0_ := m_ (below_step (bN HB.out) hb); have n1_ := m_ (hbox); have n2_ := m_ ((by rw [hg]; exact (below_size (bN HB.out)) : w.heap.size ≤ gb385)); have n3_ := m_ ((by rw [hg]; exact (below_size (bN HB.out)) : w.heap.size ≤ gb385)); clear HB; have HB := n0_; have BK385 := n1_; have GW385 := n2_; have GE385 := n3_; clear n0_ n1_ n2_ n3_; clear hb hbox hg; have hcz10_0 : w9.cell? ⟨gb385, 0, none⟩ = some (.bool a0_0) := bc BK385 0; have hcz10_1 : w9.cell? ⟨gb385, 1, none⟩ = some (.bool false) := bc BK385 1; have hcz10_2 : w9.cell? ⟨gb385, 2, none⟩ = some (.bool a0_2) := bc BK385 2; have hcz10_3 : w9.cell? ⟨gb385, 3, none⟩ = some (.int .i64 a0_3) := bc BK385 3; have hcz10_4 : w9.cell? ⟨gb385, 4, none⟩ = some (.int .i64 a0_4) := bc BK385 4; have hfz10_0 := blk_frozen BK385.out 0; have hfz10_1 := blk_frozen BK385.out 1; have hfz10_2 := blk_frozen BK385.out 2; have hfz10_3 := blk_frozen BK385.out 3; have hfz10_4 := blk_frozen BK385.out 4) | ((with_reducible refine gate_callee (f := 40) rfl ?_); refine goesL_ (some 5) rfl rfl Try.func40 (by kernel_rfl) rfl #[.int .i64 a0_3, .int .i64 0, .int .i64 3] rfl gl_ ?_; (with_reducible refine (spec_l1In.calls a0_3 0 3 true _ A2.out).mono ?_); rintro e w' ⟨rfl, ⟨nd, rfl⟩⟩; refine ⟨_, rfl, ?_⟩) | (go_at_call 40; (with_reducible refine (spec_l1In.calls a0_4 0 255 true _ A4.out).mono ?_); rintro e w' ⟨rfl, ⟨nd, rfl⟩⟩))
    go_ret
    exact ⟨by first | rfl | (simp [errW_none, errW_some] <;> rfl) | (simp [*, errW_none, errW_some] <;> rfl), by repeat (first | (with_reducible first | exact HB.out | apply below_alloc | apply pw_below_drewN | apply below_drew1 | refine below_set ?_ GE385.out) | exact HB.out)⟩
  ·replace c5 := Bool.eq_false_iff.mpr c5
   subst c5
   have H1 : (some false) = some r := by rw [if_neg (show ¬ (false = true) by decide)] at H; exact H
   clear H
   have H := H1
   clear H1
   obtain rfl := Option.some.inj H
   go_enter Try.func49, Try.ntmps49
   go_wp2_with (first | ((with_reducible refine gate_dst (N := 1) rfl ?_); refine box_event ?hg (N := 1) ?hd (cs := #[.bool a0_0, .bool a0_1, .bool a0_2, .int .i64 a0_3, .int .i64 a0_4]) (t := 39) ?hr ?_; (case hd => rfl); (case hg => rfl); (case hr => first | (go_simp; done) | (go_simp; rfl)); intro gb385 hg w11 hbox hb; have n0_ := m_ (below_step (bN HB.out) hb); have n1_ := m_ (hbox); have n2_ := m_ ((by rw [hg]; exact (below_size (bN HB.out)) : w.heap.size ≤ gb385)); have n3_ := m_ ((by rw [hg]; exact (below_size (bN HB.out)) : w.heap.size ≤ gb385)); clear HB; have HB := n0_; have BK385 := n1_; have GW385 := n2_; have GE385 := n3_; clear n0_ n1_ n2_ n3_; clear hb hbox hg; have hcz12_0 : w11.cell? ⟨gb385, 0, none⟩ = some (.bool a0_0) := bc BK385 0; have hcz12_1 : w11.cell? ⟨gb385, 1, none⟩ = some (.bool a0_1) := bc BK385 1; have hcz12_2 : w11.cell? ⟨gb385, 2, none⟩ = some (.bool a0_2) := bc BK385 2; have hcz12_3 : w11.cell? ⟨gb385, 3, none⟩ = some (.int .i64 a0_3) := bc BK385 3; have hcz12_4 : w11.cell? ⟨gb385, 4, none⟩ = some (.int .i64 a0_4) := bc BK385 4; have hfz12_0 := blk_frozen BK385.out 0; have hfz12_1 := blk_frozen BK385.out 1; have hfz12_2 := blk_frozen BK385.out 2; have hfz12_3 := blk_frozen BK385.out 3; have hfz12_4 := blk_frozen BK385.out 4) | ((with_reducible refine gate_callee (f := 40) rfl ?_); refine goesL_ (some 5) rfl rfl Try.func40 (by kernel_rfl) rfl #[.int .i64 a0_3, .int .i64 0, .int .i64 3] rfl gl_ ?_; (with_reducible refine (spec_l1In.calls a0_3 0 3 true _ A2.out).mono ?_); rintro e w' ⟨rfl, ⟨nd, rfl⟩⟩; refine ⟨_, rfl, ?_⟩) | (go_at_call 40; (with_reducible refine (spec_l1In.calls a0_4 0 255 false _ A4.out).mono ?_); rintro e w' ⟨rfl, ⟨nd, rfl⟩⟩))
   go_ret
   exact ⟨by first | rfl | (simp [errW_none, errW_some] <;> rfl) | (simp [*, errW_none, errW_some] <;> rfl), by repeat (first | (with_reducible first | exact HB.out | apply below_alloc | apply pw_below_drewN | apply below_drew1 | refine below_set ?_ GE385.out) | exact HB.out)⟩
 ·replace c3 := Bool.eq_false_iff.mpr c3
  subst c3
  have H1 : (some false) = some r := by rw [if_neg (show ¬ (false = true) by decide)] at H; exact H
  clear H
  have H := H1
  clear H1
  obtain rfl := Option.some.inj H
  go_enter Try.func49, Try.ntmps49
  go_wp2_with (first | ((with_reducible refine gate_dst (N := 1) rfl ?_); refine box_event ?hg (N := 1) ?hd (cs := #[.bool a0_0, .bool a0_1, .bool a0_2, .int .i64 a0_3, .int .i64 a0_4]) (t := 39) ?hr ?_; (case hd => rfl); (case hg => rfl); (case hr => first | (go_simp; done) | (go_simp; rfl)); intro gb385 hg w13 hbox hb; have n0_ := m_ (below_step (bN HB.out) hb); have n1_ := m_ (hbox); have n2_ := m_ ((by rw [hg]; exact (below_size (bN HB.out)) : w.heap.size ≤ gb385)); have n3_ := m_ ((by rw [hg]; exact (below_size (bN HB.out)) : w.heap.size ≤ gb385)); clear HB; have HB := n0_; have BK385 := n1_; have GW385 := n2_; have GE385 := n3_; clear n0_ n1_ n2_ n3_; clear hb hbox hg; have hcz14_0 : w13.cell? ⟨gb385, 0, none⟩ = some (.bool a0_0) := bc BK385 0; have hcz14_1 : w13.cell? ⟨gb385, 1, none⟩ = some (.bool a0_1) := bc BK385 1; have hcz14_2 : w13.cell? ⟨gb385, 2, none⟩ = some (.bool a0_2) := bc BK385 2; have hcz14_3 : w13.cell? ⟨gb385, 3, none⟩ = some (.int .i64 a0_3) := bc BK385 3; have hcz14_4 : w13.cell? ⟨gb385, 4, none⟩ = some (.int .i64 a0_4) := bc BK385 4; have hfz14_0 := blk_frozen BK385.out 0; have hfz14_1 := blk_frozen BK385.out 1; have hfz14_2 := blk_frozen BK385.out 2; have hfz14_3 := blk_frozen BK385.out 3; have hfz14_4 := blk_frozen BK385.out 4) | ((with_reducible refine gate_callee (f := 40) rfl ?_); refine goesL_ (some 5) rfl rfl Try.func40 (by kernel_rfl) rfl #[.int .i64 a0_3, .int .i64 0, .int .i64 3] rfl gl_ ?_; (with_reducible refine (spec_l1In.calls a0_3 0 3 false _ A2.out).mono ?_); rintro e w' ⟨rfl, ⟨nd, rfl⟩⟩; refine ⟨_, rfl, ?_⟩))
  go_ret
  exact ⟨by first | rfl | (simp [errW_none, errW_some] <;> rfl) | (simp [*, errW_none, errW_some] <;> rfl), by repeat (first | (with_reducible first | exact HB.out | apply below_alloc | apply pw_below_drewN | apply below_drew1 | refine below_set ?_ GE385.out) | exact HB.out)⟩

/-! ### spec_l5First: function 50 -/
def spec_l5First.f (a0_0 : Int) (a0_1 : Int) (a0_2 : Int) (l0_3 : List ByteArray) (a0_4 : Bool) : Option (Int) := (spec_l4Mod.f (wrap64 (a0_2 - (l0_3.length : Int)))).bind fun t389 => (some t389)
set_option maxHeartbeats 8000000 in
set_option maxRecDepth 100000 in
theorem spec_l5First.calls (a0_0 : Int) (a0_1 : Int) (a0_2 : Int) (A0_3 : Option Addr) (c0_3 : Nat) (l0_3 : List ByteArray) (a0_4 : Bool) (r : Int) (w : World) (hr0_3 : Kd.C Kd.string w A0_3 l0_3.length l0_3) (hc0_3 : l0_3.length ≤ c0_3) (h : spec_l5First.f a0_0 a0_1 a0_2 l0_3 a0_4 = some r) :
  Calls Try.prog 50 #[.agg #[.int .i64 a0_0, .int .i64 a0_1, .int .i64 a0_2, .slice A0_3 l0_3.length c0_3, .bool a0_4]] w fun e w' => e = .returned (.int .i64 r) ∧ Below w.heap.size w w' := by
 have hu25 := Try.underlying25
 have HR0_3 := Aside0.mk hr0_3
 have HC0_3 := Aside0.mk hc0_3
 clear hr0_3 hc0_3
 have HB := m_ (Below.refl w.heap.size w)
 have H : ((spec_l4Mod.f (wrap64 (a0_2 - (l0_3.length : Int)))).bind fun t389 => (some t389)) = some r := h
 clear h
 replace H := Option.bind_eq_some_iff.mp H
 obtain ⟨t389, A20, H⟩ := H
 replace H : (some t389) = some r := H
 have A2 := Aside0.mk A20
 clear A20
 obtain rfl := Option.some.inj H
 go_enter Try.func50, Try.ntmps50
 go_wp2_with (first | ((with_reducible refine gate_dst (N := 1) rfl ?_); refine box_event ?hg (N := 1) ?hd (cs := #[.int .i64 a0_0, .int .i64 a0_1, .int .i64 a0_2, .slice A0_3 l0_3.length c0_3, .bool a0_4]) (t := 25) ?hr ?_; (case hd => rfl); (case hg => rfl); (case hr => first | (go_simp; done) | (go_simp; rfl)); intro gb388 hg w3 hbox hb; have n0_ := m_ (below_step (bN HB.out) hb); have n1_ := m_ (hbox); have n2_ := m_ ((by rw [hg]; exact (below_size (bN HB.out)) : w.heap.size ≤ gb388)); have n3_ := m_ ((by rw [hg]; exact (below_size (bN HB.out)) : w.heap.size ≤ gb388)); clear HB; have HB := n0_; have BK388 := n1_; have GW388 := n2_; have GE388 := n3_; clear n0_ n1_ n2_ n3_; clear hb hbox hg; have hcz4_0 : w3.cell? ⟨gb388, 0, none⟩ = some (.int .i64 a0_0) := bc BK388 0; have hcz4_1 : w3.cell? ⟨gb388, 1, none⟩ = some (.int .i64 a0_1) := bc BK388 1; have hcz4_2 : w3.cell? ⟨gb388, 2, none⟩ = some (.int .i64 a0_2) := bc BK388 2; have hcz4_3 : w3.cell? ⟨gb388, 3, none⟩ = some (.slice A0_3 l0_3.length c0_3) := bc BK388 3; have hcz4_4 : w3.cell? ⟨gb388, 4, none⟩ = some (.bool a0_4) := bc BK388 4; have hfz4_0 := blk_frozen BK388.out 0; have hfz4_1 := blk_frozen BK388.out 1; have hfz4_2 := blk_frozen BK388.out 2; have hfz4_3 := blk_frozen BK388.out 3; have hfz4_4 := blk_frozen BK388.out 4) | ((with_reducible refine gate_callee (f := 41) rfl ?_); refine goesL_ (some 9) rfl rfl Try.func41 (by kernel_rfl) rfl #[.int .i64 (wrap64 (a0_2 - (l0_3.length : Int)))] rfl gl_ ?_; (with_reducible refine (spec_l4Mod.calls (wrap64 (a0_2 - (l0_3.length : Int))) t389 _ A2.out).mono ?_); rintro e w' ⟨rfl, ⟨nd, rfl⟩⟩; refine ⟨_, rfl, ?_⟩))
 go_ret
 exact ⟨by first | rfl | (simp [errW_none, errW_some] <;> rfl) | (simp [*, errW_none, errW_some] <;> rfl), by repeat (first | (with_reducible first | exact HB.out | apply below_alloc | apply pw_below_drewN | apply below_drew1 | refine below_set ?_ GE388.out) | exact HB.out)⟩

/-! ### spec_FopHear: function 17 -/
def spec_FopHear.f (k : Nat) (a0_0 : Int) (a0_1 : Int) (a0_2 : Int) (l0_3 : List ByteArray) (a0_4 : Bool) (a1_0 : Bool) (a1_1 : Bool) (a1_2 : Bool) (a1_3 : Int) (a1_4 : Int) : Option (Int × Int × Int × List ByteArray × Bool × Bool) := (spec_FopOk.f k a0_0 a0_1 a0_2 l0_3 a0_4).bind fun t393 => (if t393 = true then ((spec_l5Copy.f a0_0 a0_1 a0_2 l0_3 a0_4).bind fun bt394 => ((spec_FarmOk.f a1_0 a1_1 a1_2 a1_3 a1_4).bind fun t402 => (if t402 = true then ((spec_l5First.f a0_0 a0_1 a0_2 l0_3 a0_4).bind fun t403 => ((spec_l4Mod.f (wrap64 (a1_4 - t403))).bind fun t404 => (if t404 > (l0_3.length : Int) then (some (bt394.1, bt394.2.1, bt394.2.2.1, bt394.2.2.2.1, bt394.2.2.2.2, false)) else ((some (([] : List ByteArray) : List ByteArray)).bind fun y405 => (if 0 ≤ t404 then (if t404 ≤ (l0_3.length : Int) then (if y405.length + (l0_3.drop (t404 : Int).toNat).length < 8796093022208 then (some (bt394.1, bt394.2.1, bt394.2.2.1, (y405 ++ (l0_3.drop (t404 : Int).toNat)), a1_0, true)) else (none)) else (none)) else (none)))))) else (some (bt394.1, bt394.2.1, bt394.2.2.1, bt394.2.2.2.1, bt394.2.2.2.2, false))))) else (some (0, 0, 0, ([] : List ByteArray), false, false)))
theorem spec_FopHear.mono : ∀ a0 a1 a2 a3 a4 a5 a6 a7 a8 a9 k, LeO (spec_FopHear.f k a0 a1 a2 a3 a4 a5 a6 a7 a8 a9) (spec_FopHear.f (k + 1) a0 a1 a2 a3 a4 a5 a6 a7 a8 a9) := by
 intro a0 a1 a2 a3 a4 a5 a6 a7 a8 a9 k
 unfold spec_FopHear.f
 repeat' first
   | (with_reducible exact spec_FopOk.mono _ _ _ _ _ _)
   | (with_reducible exact LeO.refl _)
   | (with_reducible exact LeO.none _)
   | (with_reducible refine LeO.ite ?_ ?_)
   | (with_reducible refine LeO.bind ?_ (fun _ => ?_))
   | exact spec_FopOk.mono _ _ _ _ _ _
   | exact LeO.none _
   | refine LeO.ite ?_ ?_
   | refine LeO.bind ?_ (fun _ => ?_)
set_option maxHeartbeats 8000000 in
set_option maxRecDepth 100000 in
theorem spec_FopHear.calls (k : Nat) (a0_0 : Int) (a0_1 : Int) (a0_2 : Int) (A0_3 : Option Addr) (c0_3 : Nat) (l0_3 : List ByteArray) (a0_4 : Bool) (a1_0 : Bool) (a1_1 : Bool) (a1_2 : Bool) (a1_3 : Int) (a1_4 : Int) (r1 : Int) (r2 : Int) (r3 : Int) (r4 : List ByteArray) (r5 : Bool) (r6 : Bool) (w : World) (hr0_3 : Kd.C Kd.string w A0_3 l0_3.length l0_3) (hc0_3 : l0_3.length ≤ c0_3) (h : spec_FopHear.f k a0_0 a0_1 a0_2 l0_3 a0_4 a1_0 a1_1 a1_2 a1_3 a1_4 = some (r1, r2, r3, r4, r5, r6)) :
  Calls Try.prog 17 #[.agg #[.int .i64 a0_0, .int .i64 a0_1, .int .i64 a0_2, .slice A0_3 l0_3.length c0_3, .bool a0_4], .agg #[.bool a1_0, .bool a1_1, .bool a1_2, .int .i64 a1_3, .int .i64 a1_4]] w fun e w' => ∃ v3_ : Value, e = .returned (.tuple #[.agg #[.int .i64 r1, .int .i64 r2, .int .i64 r3, v3_, .bool r5], .bool r6]) ∧ Kd.R Kd.string 9 w' w.heap.size (fun _ => True) v3_ r4 ∧ Below w.heap.size w w' := by
 have hu25 := Try.underlying25
 have hu39 := Try.underlying39
 have HR0_3 := Aside0.mk hr0_3
 have HC0_3 := Aside0.mk hc0_3
 clear hr0_3 hc0_3
 have HB := m_ (Below.refl w.heap.size w)
 have H : ((spec_FopOk.f k a0_0 a0_1 a0_2 l0_3 a0_4).bind fun t393 => (if t393 = true then ((spec_l5Copy.f a0_0 a0_1 a0_2 l0_3 a0_4).bind fun bt394 => ((spec_FarmOk.f a1_0 a1_1 a1_2 a1_3 a1_4).bind fun t402 => (if t402 = true then ((spec_l5First.f a0_0 a0_1 a0_2 l0_3 a0_4).bind fun t403 => ((spec_l4Mod.f (wrap64 (a1_4 - t403))).bind fun t404 => (if t404 > (l0_3.length : Int) then (some (bt394.1, bt394.2.1, bt394.2.2.1, bt394.2.2.2.1, bt394.2.2.2.2, false)) else ((some (([] : List ByteArray) : List ByteArray)).bind fun y405 => (if 0 ≤ t404 then (if t404 ≤ (l0_3.length : Int) then (if y405.length + (l0_3.drop (t404 : Int).toNat).length < 8796093022208 then (some (bt394.1, bt394.2.1, bt394.2.2.1, (y405 ++ (l0_3.drop (t404 : Int).toNat)), a1_0, true)) else (none)) else (none)) else (none)))))) else (some (bt394.1, bt394.2.1, bt394.2.2.1, bt394.2.2.2.1, bt394.2.2.2.2, false))))) else (some (0, 0, 0, ([] : List ByteArray), false, false)))) = some (r1, r2, r3, r4, r5, r6) := h
 clear h
 replace H := Option.bind_eq_some_iff.mp H
 obtain ⟨t393, A30, H⟩ := H
 replace H : (if t393 = true then ((spec_l5Copy.f a0_0 a0_1 a0_2 l0_3 a0_4).bind fun bt394 => ((spec_FarmOk.f a1_0 a1_1 a1_2 a1_3 a1_4).bind fun t402 => (if t402 = true then ((spec_l5First.f a0_0 a0_1 a0_2 l0_3 a0_4).bind fun t403 => ((spec_l4Mod.f (wrap64 (a1_4 - t403))).bind fun t404 => (if t404 > (l0_3.length : Int) then (some (bt394.1, bt394.2.1, bt394.2.2.1, bt394.2.2.2.1, bt394.2.2.2.2, false)) else ((some (([] : List ByteArray) : List ByteArray)).bind fun y405 => (if 0 ≤ t404 then (if t404 ≤ (l0_3.length : Int) then (if y405.length + (l0_3.drop (t404 : Int).toNat).length < 8796093022208 then (some (bt394.1, bt394.2.1, bt394.2.2.1, (y405 ++ (l0_3.drop (t404 : Int).toNat)), a1_0, true)) else (none)) else (none)) else (none)))))) else (some (bt394.1, bt394.2.1, bt394.2.2.1, bt394.2.2.2.1, bt394.2.2.2.2, false))))) else (some (0, 0, 0, ([] : List ByteArray), false, false))) = some (r1, r2, r3, r4, r5, r6) := H
 have A3 := Aside0.mk A30
 clear A30
 by_cases c4 : t393 = true
 ·subst c4
  have H1 : ((spec_l5Copy.f a0_0 a0_1 a0_2 l0_3 a0_4).bind fun bt394 => ((spec_FarmOk.f a1_0 a1_1 a1_2 a1_3 a1_4).bind fun t402 => (if t402 = true then ((spec_l5First.f a0_0 a0_1 a0_2 l0_3 a0_4).bind fun t403 => ((spec_l4Mod.f (wrap64 (a1_4 - t403))).bind fun t404 => (if t404 > (l0_3.length : Int) then (some (bt394.1, bt394.2.1, bt394.2.2.1, bt394.2.2.2.1, bt394.2.2.2.2, false)) else ((some (([] : List ByteArray) : List ByteArray)).bind fun y405 => (if 0 ≤ t404 then (if t404 ≤ (l0_3.length : Int) then (if y405.length + (l0_3.drop (t404 : Int).toNat).length < 8796093022208 then (some (bt394.1, bt394.2.1, bt394.2.2.1, (y405 ++ (l0_3.drop (t404 : Int).toNat)), a1_0, true)) else (none)) else (none)) else (none)))))) else (some (bt394.1, bt394.2.1, bt394.2.2.1, bt394.2.2.2.1, bt394.2.2.2.2, false))))) = some (r1, r2, r3, r4, r5, r6) := by rw [if_pos rfl] at H; exact H
  clear H
  have H := H1
  clear H1
  replace H := Option.bind_eq_some_iff.mp H
  obtain ⟨⟨t394, t395, t396, t397, t400⟩, A50, H⟩ := H
  replace H : ((spec_FarmOk.f a1_0 a1_1 a1_2 a1_3 a1_4).bind fun t402 => (if t402 = true then ((spec_l5First.f a0_0 a0_1 a0_2 l0_3 a0_4).bind fun t403 => ((spec_l4Mod.f (wrap64 (a1_4 - t403))).bind fun t404 => (if t404 > (l0_3.length : Int) then (some (t394, t395, t396, t397, t400, false)) else ((some (([] : List ByteArray) : List ByteArray)).bind fun y405 => (if 0 ≤ t404 then (if t404 ≤ (l0_3.length : Int) then (if y405.length + (l0_3.drop (t404 : Int).toNat).length < 8796093022208 then (some (t394, t395, t396, (y405 ++ (l0_3.drop (t404 : Int).toNat)), a1_0, true)) else (none)) else (none)) else (none)))))) else (some (t394, t395, t396, t397, t400, false)))) = some (r1, r2, r3, r4, r5, r6) := H
  have A5 := Aside0.mk A50
  clear A50
  replace H := Option.bind_eq_some_iff.mp H
  obtain ⟨t402, A60, H⟩ := H
  replace H : (if t402 = true then ((spec_l5First.f a0_0 a0_1 a0_2 l0_3 a0_4).bind fun t403 => ((spec_l4Mod.f (wrap64 (a1_4 - t403))).bind fun t404 => (if t404 > (l0_3.length : Int) then (some (t394, t395, t396, t397, t400, false)) else ((some (([] : List ByteArray) : List ByteArray)).bind fun y405 => (if 0 ≤ t404 then (if t404 ≤ (l0_3.length : Int) then (if y405.length + (l0_3.drop (t404 : Int).toNat).length < 8796093022208 then (some (t394, t395, t396, (y405 ++ (l0_3.drop (t404 : Int).toNat)), a1_0, true)) else (none)) else (none)) else (none)))))) else (some (t394, t395, t396, t397, t400, false))) = some (r1, r2, r3, r4, r5, r6) := H
  have A6 := Aside0.mk A60
  clear A60
  by_cases c7 : t402 = true
  ·subst c7
   have H1 : ((spec_l5First.f a0_0 a0_1 a0_2 l0_3 a0_4).bind fun t403 => ((spec_l4Mod.f (wrap64 (a1_4 - t403))).bind fun t404 => (if t404 > (l0_3.length : Int) then (some (t394, t395, t396, t397, t400, false)) else ((some (([] : List ByteArray) : List ByteArray)).bind fun y405 => (if 0 ≤ t404 then (if t404 ≤ (l0_3.length : Int) then (if y405.length + (l0_3.drop (t404 : Int).toNat).length < 8796093022208 then (some (t394, t395, t396, (y405 ++ (l0_3.drop (t404 : Int).toNat)), a1_0, true)) else (none)) else (none)) else (none)))))) = some (r1, r2, r3, r4, r5, r6) := by rw [if_pos rfl] at H; exact H
   clear H
   have H := H1
   clear H1
   replace H := Option.bind_eq_some_iff.mp H
   obtain ⟨t403, A80, H⟩ := H
   replace H : ((spec_l4Mod.f (wrap64 (a1_4 - t403))).bind fun t404 => (if t404 > (l0_3.length : Int) then (some (t394, t395, t396, t397, t400, false)) else ((some (([] : List ByteArray) : List ByteArray)).bind fun y405 => (if 0 ≤ t404 then (if t404 ≤ (l0_3.length : Int) then (if y405.length + (l0_3.drop (t404 : Int).toNat).length < 8796093022208 then (some (t394, t395, t396, (y405 ++ (l0_3.drop (t404 : Int).toNat)), a1_0, true)) else (none)) else (none)) else (none))))) = some (r1, r2, r3, r4, r5, r6) := H
   have A8 := Aside0.mk A80
   clear A80
   replace H := Option.bind_eq_some_iff.mp H
   obtain ⟨t404, A90, H⟩ := H
   replace H : (if t404 > (l0_3.length : Int) then (some (t394, t395, t396, t397, t400, false)) else ((some (([] : List ByteArray) : List ByteArray)).bind fun y405 => (if 0 ≤ t404 then (if t404 ≤ (l0_3.length : Int) then (if y405.length + (l0_3.drop (t404 : Int).toNat).length < 8796093022208 then (some (t394, t395, t396, (y405 ++ (l0_3.drop (t404 : Int).toNat)), a1_0, true)) else (none)) else (none)) else (none)))) = some (r1, r2, r3, r4, r5, r6) := H
   have A9 := Aside0.mk A90
   clear A90
   by_cases c10 : t404 > (l0_3.length : Int)
   ·rw [if_pos c10] at H
    have c10b0 : decide ((l0_3.length : Int) < t404) = true := decide_eq_true c10
    clear c10
    simp only [Option.some.injEq, Prod.mk.injEq] at H
    obtain ⟨rfl, rfl, rfl, rfl, rfl, rfl⟩ := H
    go_enter Try.func17, Try.ntmps17
    try go_wp2_with (first | ((with_reducible refine gate_dst (N := 2) rfl ?_); refine box_event ?hg (N := 2) ?hd (cs := #[.int .i64 a0_0, .int .i64 a0_1, .int .i64 a0_2, .slice A0_3 l0_3.length c0_3, .bool a0_4]) (t := 25) ?hr ?_; (case hd => rfl); (case hg => rfl); (case hr => first | (go_simp; done) | (go_simp; rfl)); intro gb390 hg w11 hbox hb; have n0_ := m_ (below_step (bN HB.out) hb); have n1_ := m_ (hbox); have n2_ := m_ ((by rw [hg]; exact (below_size (bN HB.out)) : w.heap.size ≤ gb390)); have n3_ := m_ ((by rw [hg]; exact (below_size (bN HB.out)) : w.heap.size ≤ gb390)); clear HB; have HB := n0_; have BK390 := n1_; have GW390 := n2_; have GE390 := n3_; clear n0_ n1_ n2_ n3_; clear hb hbox hg) | ((with_reducible refine gate_dst (N := 3) rfl ?_); refine box_event ?hg (N := 3) ?hd (cs := #[.bool a1_0, .bool a1_1, .bool a1_2, .int .i64 a1_3, .int .i64 a1_4]) (t := 39) ?hr ?_; (case hd => rfl); (case hg => rfl); (case hr => first | (go_simp; done) | (go_simp; rfl)); intro gb391 hg w12 hbox hb; have n0_ := m_ (blk_below (kN BK390.out) hb); have n1_ := m_ (below_step (bN HB.out) hb); have n2_ := m_ (hbox); have n3_ := m_ ((by rw [hg]; exact (below_size (bN HB.out)) : w.heap.size ≤ gb391)); have n4_ := m_ ((by rw [hg]; exact (below_size (bN HB.out)) : w.heap.size ≤ gb391)); have n5_ := m_ (nL hg BK390.out); have n6_ := m_ (nG hg BK390.out); clear BK390; clear HB; have BK390 := n0_; have HB := n1_; have BK391 := n2_; have GW391 := n3_; have GE391 := n4_; have NB390_391 := n5_; have NB391_390 := n6_; clear n0_ n1_ n2_ n3_ n4_ n5_ n6_; clear hb hbox hg) | ((with_reducible refine gate_dst (N := 4) rfl ?_); refine box_event ?hg (N := 4) ?hd (cs := #[.int .i64 0, .int .i64 0, .int .i64 0, .slice none 0 0, .bool false]) (t := 25) ?hr ?_; (case hd => rfl); (case hg => rfl); (case hr => first | (go_simp; done) | (go_simp; rfl)); intro gb392 hg w13 hbox hb; have n0_ := m_ (blk_below (kN BK390.out) hb); have n1_ := m_ (blk_below (kN BK391.out) hb); have n2_ := m_ (below_step (bN HB.out) hb); have n3_ := m_ (hbox); have n4_ := m_ ((by rw [hg]; exact (below_size (bN HB.out)) : w.heap.size ≤ gb392)); have n5_ := m_ ((by rw [hg]; exact (below_size (bN HB.out)) : w.heap.size ≤ gb392)); have n6_ := m_ (nL hg BK390.out); have n7_ := m_ (nG hg BK390.out); have n8_ := m_ (nL hg BK391.out); have n9_ := m_ (nG hg BK391.out); clear BK390; clear BK391; clear HB; have BK390 := n0_; have BK391 := n1_; have HB := n2_; have BK392 := n3_; have GW392 := n4_; have GE392 := n5_; have NB390_392 := n6_; have NB392_390 := n7_; have NB391_392 := n8_; have NB392_391 := n9_; clear n0_ n1_ n2_ n3_ n4_ n5_ n6_ n7_ n8_ n9_; clear hb hbox hg; have hnb14 := NB390_391.out; have hnc14 := NB391_390.out; have hnb15 := NB390_392.out; have hnc15 := NB392_390.out; have hcz16_0 : w13.cell? ⟨gb390, 0, none⟩ = some (.int .i64 a0_0) := bc BK390 0; have hcz16_1 : w13.cell? ⟨gb390, 1, none⟩ = some (.int .i64 a0_1) := bc BK390 1; have hcz16_2 : w13.cell? ⟨gb390, 2, none⟩ = some (.int .i64 a0_2) := bc BK390 2; have hcz16_3 : w13.cell? ⟨gb390, 3, none⟩ = some (.slice A0_3 l0_3.length c0_3) := bc BK390 3; have hcz16_4 : w13.cell? ⟨gb390, 4, none⟩ = some (.bool a0_4) := bc BK390 4; have hfz16_0 := blk_frozen BK390.out 0; have hfz16_1 := blk_frozen BK390.out 1; have hfz16_2 := blk_frozen BK390.out 2; have hfz16_3 := blk_frozen BK390.out 3; have hfz16_4 := blk_frozen BK390.out 4) | ((with_reducible refine gate_callee (f := 13) rfl ?_); refine goesL_ (some 9) rfl rfl Try.func13 (by kernel_rfl) rfl #[.agg #[.int .i64 a0_0, .int .i64 a0_1, .int .i64 a0_2, .slice A0_3 l0_3.length c0_3, .bool a0_4]] rfl gl_ ?_; (with_reducible refine (spec_FopOk.calls k a0_0 a0_1 a0_2 _ _ l0_3 a0_4 true _ ?side1 ?side2 A3.out).mono ?_); (case side1 => exact cN (Kd.C_below HR0_3.out HB.out)); (case side2 => exact HC0_3.out); rintro e w17 ⟨rfl, hb⟩; refine ⟨_, rfl, ?_⟩; have n0_ := m_ (blk_below (kN BK390.out) hb); have n1_ := m_ (blk_below (kN BK391.out) hb); have n2_ := m_ (blk_below (kN BK392.out) hb); have n3_ := m_ (below_step (bN HB.out) hb); clear BK390; clear BK391; clear BK392; clear HB; have BK390 := n0_; have BK391 := n1_; have BK392 := n2_; have HB := n3_; clear n0_ n1_ n2_ n3_; (try clear hb); (try clear hb2); (try clear hk); (try clear hi); have hcz18_0 : w17.cell? ⟨gb390, 0, none⟩ = some (.int .i64 a0_0) := bc BK390 0; have hcz18_1 : w17.cell? ⟨gb390, 1, none⟩ = some (.int .i64 a0_1) := bc BK390 1; have hcz18_2 : w17.cell? ⟨gb390, 2, none⟩ = some (.int .i64 a0_2) := bc BK390 2; have hcz18_3 : w17.cell? ⟨gb390, 3, none⟩ = some (.slice A0_3 l0_3.length c0_3) := bc BK390 3; have hcz18_4 : w17.cell? ⟨gb390, 4, none⟩ = some (.bool a0_4) := bc BK390 4; have hfz18_0 := blk_frozen BK390.out 0; have hfz18_1 := blk_frozen BK390.out 1; have hfz18_2 := blk_frozen BK390.out 2; have hfz18_3 := blk_frozen BK390.out 3; have hfz18_4 := blk_frozen BK390.out 4) | ((with_reducible refine gate_callee (f := 39) rfl ?_); refine goesL_ (some 13) rfl rfl Try.func39 (by kernel_rfl) rfl #[.agg #[.int .i64 a0_0, .int .i64 a0_1, .int .i64 a0_2, .slice A0_3 l0_3.length c0_3, .bool a0_4]] rfl gl_ ?_; (with_reducible refine (spec_l5Copy.calls a0_0 a0_1 a0_2 _ _ l0_3 a0_4 t394 t395 t396 t397 t400 _ ?side1 ?side2 A5.out).mono ?_); (case side1 => exact cN (Kd.C_below HR0_3.out HB.out)); (case side2 => exact HC0_3.out); rintro e w19 ⟨v398, rfl, ho0, hb⟩; refine ⟨_, rfl, ?_⟩; have n0_ := m_ (Kd.R_lower ho0 (below_size (bN HB.out))); have n1_ := m_ (blk_below (kN BK390.out) hb); have n2_ := m_ (blk_below (kN BK391.out) hb); have n3_ := m_ (blk_below (kN BK392.out) hb); have n4_ := m_ (below_step (bN HB.out) hb); clear BK390; clear BK391; clear BK392; clear HB; have HO399 := n0_; have BK390 := n1_; have BK391 := n2_; have BK392 := n3_; have HB := n4_; clear n0_ n1_ n2_ n3_ n4_; (try clear hb); (try clear hb2); (try clear hk); (try clear hi); (try clear ho0)) | ((with_reducible refine gate_dst (N := 6) rfl ?_); refine box_event ?hg (N := 6) ?hd (cs := #[.int .i64 0, .int .i64 0, .int .i64 0, .slice none 0 0, .bool false]) (t := 25) ?hr ?_; (case hd => rfl); (case hg => rfl); (case hr => first | (go_simp; done) | (go_simp; rfl)); intro gb401 hg w20 hbox hb; have n0_ := m_ (Kd.R_below (rN HO399.out) hb); have n1_ := m_ (blk_below (kN BK390.out) hb); have n2_ := m_ (blk_below (kN BK391.out) hb); have n3_ := m_ (blk_below (kN BK392.out) hb); have n4_ := m_ (below_step (bN HB.out) hb); have n5_ := m_ (hbox); have n6_ := m_ ((by rw [hg]; exact (below_size (bN HB.out)) : w.heap.size ≤ gb401)); have n7_ := m_ ((by rw [hg]; exact (below_size (bN HB.out)) : w.heap.size ≤ gb401)); have n8_ := m_ (nL hg BK390.out); have n9_ := m_ (nG hg BK390.out); have n10_ := m_ (nL hg BK391.out); have n11_ := m_ (nG hg BK391.out); have n12_ := m_ (nL hg BK392.out); have n13_ := m_ (nG hg BK392.out); clear HO399; clear BK390; clear BK391; clear BK392; clear HB; have HO399 := n0_; have BK390 := n1_; have BK391 := n2_; have BK392 := n3_; have HB := n4_; have BK401 := n5_; have GW401 := n6_; have GE401 := n7_; have NB390_401 := n8_; have NB401_390 := n9_; have NB391_401 := n10_; have NB401_391 := n11_; have NB392_401 := n12_; have NB401_392 := n13_; clear n0_ n1_ n2_ n3_ n4_ n5_ n6_ n7_ n8_ n9_ n10_ n11_ n12_ n13_; clear hb hbox hg; have hnb21 := NB401_390.out; have hnc21 := NB390_401.out; have hnb22 := NB401_391.out; have hnc22 := NB391_401.out; have hnb23 := NB401_392.out; have hnc23 := NB392_401.out; have hcz24_0 : w20.cell? ⟨gb401, 0, none⟩ = some (.int .i64 0) := bc BK401 0; have hcz24_1 : w20.cell? ⟨gb401, 1, none⟩ = some (.int .i64 0) := bc BK401 1; have hcz24_2 : w20.cell? ⟨gb401, 2, none⟩ = some (.int .i64 0) := bc BK401 2; have hcz24_3 : w20.cell? ⟨gb401, 3, none⟩ = some (.slice none 0 0) := bc BK401 3; have hcz24_4 : w20.cell? ⟨gb401, 4, none⟩ = some (.bool false) := bc BK401 4; have hfz24_0 := blk_frozen BK401.out 0; have hfz24_1 := blk_frozen BK401.out 1; have hfz24_2 := blk_frozen BK401.out 2; have hfz24_3 := blk_frozen BK401.out 3; have hfz24_4 := blk_frozen BK401.out 4; obtain ⟨Ao25, co25, eo25⟩ := Kd.R_slice HO399.out; subst eo25; have hnb26 := NB391_392.out; have hnc26 := NB392_391.out; have hcz27_0 : w20.cell? ⟨gb391, 0, none⟩ = some (.bool a1_0) := bc BK391 0; have hcz27_1 : w20.cell? ⟨gb391, 1, none⟩ = some (.bool a1_1) := bc BK391 1; have hcz27_2 : w20.cell? ⟨gb391, 2, none⟩ = some (.bool a1_2) := bc BK391 2; have hcz27_3 : w20.cell? ⟨gb391, 3, none⟩ = some (.int .i64 a1_3) := bc BK391 3; have hcz27_4 : w20.cell? ⟨gb391, 4, none⟩ = some (.int .i64 a1_4) := bc BK391 4; have hfz27_0 := blk_frozen BK391.out 0; have hfz27_1 := blk_frozen BK391.out 1; have hfz27_2 := blk_frozen BK391.out 2; have hfz27_3 := blk_frozen BK391.out 3; have hfz27_4 := blk_frozen BK391.out 4) | ((with_reducible refine gate_callee (f := 49) rfl ?_); refine goesL_ (some 15) rfl rfl Try.func49 (by kernel_rfl) rfl #[.agg #[.bool a1_0, .bool a1_1, .bool a1_2, .int .i64 a1_3, .int .i64 a1_4]] rfl gl_ ?_; (with_reducible refine (spec_FarmOk.calls a1_0 a1_1 a1_2 a1_3 a1_4 true _ A6.out).mono ?_); rintro e w28 ⟨rfl, hb⟩; refine ⟨_, rfl, ?_⟩; have n0_ := m_ (Kd.R_below (frN (Kd.R_types HO399.out BK401.out (by decide))) hb); have n1_ := m_ (blk_below (g := gb390) (o := .cells #[.int .i64 a0_0, .int .i64 a0_1, .int .i64 a0_2, .slice A0_3 l0_3.length c0_3, .bool a0_4] 25 (0, 0)) (kF BK390.out NB390_401.out) hb); have n2_ := m_ (blk_below (g := gb391) (o := .cells #[.bool a1_0, .bool a1_1, .bool a1_2, .int .i64 a1_3, .int .i64 a1_4] 39 (0, 0)) (kF BK391.out NB391_401.out) hb); have n3_ := m_ (blk_below (g := gb392) (o := .cells #[.int .i64 0, .int .i64 0, .int .i64 0, .slice none 0 0, .bool false] 25 (0, 0)) (kF BK392.out NB392_401.out) hb); have n4_ := m_ (blk_below (g := gb401) (o := .cells #[.int .i64 t394, .int .i64 t395, .int .i64 t396, .slice Ao25 t397.length co25, .bool t400] 25 (0, 0)) (kP BK401.out) hb); have n5_ := m_ (below_step (bN HB.out) hb); clear HO399; clear BK390; clear BK391; clear BK392; clear BK401; clear HB; have HO399 := n0_; have BK390 := n1_; have BK391 := n2_; have BK392 := n3_; have BK401 := n4_; have HB := n5_; clear n0_ n1_ n2_ n3_ n4_ n5_; (try clear hb); (try clear hb2); (try clear hk); (try clear hi)))
    have n0_ := m_ (Kd.R_drew HO399.out)
    have n1_ := m_ (blk_drew BK390.out)
    have n2_ := m_ (blk_drew BK391.out)
    have n3_ := m_ (blk_drew BK392.out)
    have n4_ := m_ (blk_drew BK401.out)
    have n5_ := m_ (below_drew1 HB.out)
    clear HO399
    clear BK390
    clear BK391
    clear BK392
    clear BK401
    clear HB
    have HO399 := n0_
    have BK390 := n1_
    have BK391 := n2_
    have BK392 := n3_
    have BK401 := n4_
    have HB := n5_
    clear n0_ n1_ n2_ n3_ n4_ n5_
    refine start_ (n := 7) (S := fun w' => w'.cell? ⟨gb391, 0, none⟩ = some (.bool a1_0) ∧ w'.cell? ⟨gb391, 1, none⟩ = some (.bool a1_1) ∧ w'.cell? ⟨gb391, 2, none⟩ = some (.bool a1_2) ∧ w'.cell? ⟨gb391, 3, none⟩ = some (.int .i64 a1_3) ∧ w'.cell? ⟨gb391, 4, none⟩ = some (.int .i64 a1_4) ∧ w'.cell? ⟨gb390, 0, none⟩ = some (.int .i64 a0_0) ∧ w'.cell? ⟨gb390, 1, none⟩ = some (.int .i64 a0_1) ∧ w'.cell? ⟨gb390, 2, none⟩ = some (.int .i64 a0_2) ∧ w'.cell? ⟨gb390, 3, none⟩ = some (.slice A0_3 l0_3.length c0_3) ∧ w'.cell? ⟨gb390, 4, none⟩ = some (.bool a0_4)) (ds := []) #[false, false, false, false, false, false, false] (by kernel_rfl) rfl rfl ⟨bc BK391 0, bc BK391 1, bc BK391 2, bc BK391 3, bc BK391 4, bc BK390 0, bc BK390 1, bc BK390 2, bc BK390 3, bc BK390 4⟩ (fun hHeld => ?_)
    generalize w28.drew = w29 at HO399 BK390 BK391 BK392 BK401 HB hHeld ⊢
    refine pure_ (i := 0) (N := some 18) (v := ?_) (a' := ?_) #[true, false, false, false, false, false, false] rfl rfl (by kernel_rfl) (fun _ _ _ h => h) (Or.inl ⟨by rfl, ?_⟩) ?_ ?_
    rotate_left
    ·intro w'
     go_simp
     with_reducible rfl
    rotate_left
    ·simp only [Act.put, List.setIfInBounds_toArray, List.set_cons_zero, List.set_cons_succ, i64_w, i32_w]
     rfl
    refine take_ (i := 1) (N := some 19) (v := ?_) (a' := ?_) #[true, true, false, false, false, false, false] rfl rfl (by kernel_rfl) (fun _ _ _ h => h) (Or.inl ⟨by rfl, ?_⟩) hHeld ?_ ?_
    rotate_left
    ·rintro w' ⟨s0, s1, s2, s3, s4, s5, s6, s7, s8, s9⟩
     go_simp
     with_reducible rfl
    rotate_left
    ·simp only [Act.put, List.setIfInBounds_toArray, List.set_cons_zero, List.set_cons_succ, i64_w, i32_w]
     rfl
    refine take_ (i := 2) (N := some 20) (v := ?_) (a' := ?_) #[true, true, true, false, false, false, false] rfl rfl (by kernel_rfl) (fun _ _ _ h => h) (Or.inl ⟨by rfl, ?_⟩) hHeld ?_ ?_
    rotate_left
    ·rintro w' ⟨s0, s1, s2, s3, s4, s5, s6, s7, s8, s9⟩
     go_simp
     with_reducible rfl
    rotate_left
    ·simp only [Act.put, List.setIfInBounds_toArray, List.set_cons_zero, List.set_cons_succ, i64_w, i32_w]
     rfl
    refine one_ (i := 3) (N := some 21) #[true, true, true, true, false, false, false] rfl rfl (by kernel_rfl) (by decide) (fun K hK => ?_)
    refine goes_ Try.func50 (by kernel_rfl) rfl #[.agg #[.int .i64 a0_0, .int .i64 a0_1, .int .i64 a0_2, .slice A0_3 l0_3.length c0_3, .bool a0_4]] (by rfl) rfl rfl gl_ ?_
    with_reducible refine (spec_l5First.calls a0_0 a0_1 a0_2 _ _ l0_3 a0_4 t403 _ ?side1 ?side2 A8.out).mono ?_
    (case side1 => exact cN (Kd.C_below HR0_3.out HB.out))
    (case side2 => exact HC0_3.out)
    rintro e w30 ⟨rfl, hb⟩
    refine ⟨_, rfl, ?_⟩
    have n0_ := m_ (Kd.R_below (rN HO399.out) hb)
    have n1_ := m_ (blk_below (kN BK390.out) hb)
    have n2_ := m_ (blk_below (kN BK391.out) hb)
    have n3_ := m_ (blk_below (kN BK392.out) hb)
    have n4_ := m_ (blk_below (kN BK401.out) hb)
    have n5_ := m_ (below_step (bN HB.out) hb)
    clear HO399
    clear BK390
    clear BK391
    clear BK392
    clear BK401
    clear HB
    have HO399 := n0_
    have BK390 := n1_
    have BK391 := n2_
    have BK392 := n3_
    have BK401 := n4_
    have HB := n5_
    clear n0_ n1_ n2_ n3_ n4_ n5_
    (try clear hb)
    (try clear hb2)
    (try clear hk)
    (try clear hi)
    refine hK.out _ _ ⟨bc BK391 0, bc BK391 1, bc BK391 2, bc BK391 3, bc BK391 4, bc BK390 0, bc BK390 1, bc BK390 2, bc BK390 3, bc BK390 4⟩ (fun hHeld => ?_)
    clear hK K
    refine np (h := ?_)
    refine pure_ (i := 4) (N := some 22) (v := ?_) (a' := ?_) #[true, true, true, true, true, false, false] rfl rfl (by kernel_rfl) (fun _ _ _ h => h) (Or.inl ⟨by rfl, ?_⟩) ?_ ?_
    rotate_left
    ·intro w'
     go_simp
     with_reducible rfl
    rotate_left
    ·simp only [Act.put, List.setIfInBounds_toArray, List.set_cons_zero, List.set_cons_succ, i64_w, i32_w]
     rfl
    refine one_ (i := 5) (N := some 23) #[true, true, true, true, true, true, false] rfl rfl (by kernel_rfl) (by decide) (fun K hK => ?_)
    refine goes_ Try.func41 (by kernel_rfl) rfl #[.int .i64 (wrap64 (a1_4 - t403))] (by rfl) rfl rfl gl_ ?_
    with_reducible refine (spec_l4Mod.calls (wrap64 (a1_4 - t403)) t404 _ A9.out).mono ?_
    rintro e w' ⟨rfl, ⟨nd, rfl⟩⟩
    refine ⟨_, rfl, ?_⟩
    refine hK.out _ _ ⟨bc BK391 0, bc BK391 1, bc BK391 2, bc BK391 3, bc BK391 4, bc BK390 0, bc BK390 1, bc BK390 2, bc BK390 3, bc BK390 4⟩ (fun hHeld => ?_)
    clear hK K
    refine np (h := ?_)
    refine pure_ (i := 6) (N := some 7) (v := ?_) (a' := ?_) #[true, true, true, true, true, true, true] rfl rfl (by kernel_rfl) (fun _ _ _ h => h) (Or.inl ⟨by rfl, ?_⟩) ?_ ?_
    rotate_left
    ·intro w'
     go_simp
     with_reducible rfl
    rotate_left
    ·simp only [Act.put, List.setIfInBounds_toArray, List.set_cons_zero, List.set_cons_succ, i64_w, i32_w]
     rfl
    refine done_ (by kernel_rfl) ?_
    have hcz31_0 : w30.cell? ⟨gb390, 0, none⟩ = some (.int .i64 a0_0) := bc BK390 0
    have hcz31_1 : w30.cell? ⟨gb390, 1, none⟩ = some (.int .i64 a0_1) := bc BK390 1
    have hcz31_2 : w30.cell? ⟨gb390, 2, none⟩ = some (.int .i64 a0_2) := bc BK390 2
    have hcz31_3 : w30.cell? ⟨gb390, 3, none⟩ = some (.slice A0_3 l0_3.length c0_3) := bc BK390 3
    have hcz31_4 : w30.cell? ⟨gb390, 4, none⟩ = some (.bool a0_4) := bc BK390 4
    have hfz31_0 := blk_frozen BK390.out 0
    have hfz31_1 := blk_frozen BK390.out 1
    have hfz31_2 := blk_frozen BK390.out 2
    have hfz31_3 := blk_frozen BK390.out 3
    have hfz31_4 := blk_frozen BK390.out 4
    have hcz32_0 : w30.cell? ⟨gb401, 0, none⟩ = some (.int .i64 t394) := bc BK401 0
    have hcz32_1 : w30.cell? ⟨gb401, 1, none⟩ = some (.int .i64 t395) := bc BK401 1
    have hcz32_2 : w30.cell? ⟨gb401, 2, none⟩ = some (.int .i64 t396) := bc BK401 2
    have hcz32_3 : w30.cell? ⟨gb401, 3, none⟩ = some (.slice Ao25 t397.length co25) := bc BK401 3
    have hcz32_4 : w30.cell? ⟨gb401, 4, none⟩ = some (.bool t400) := bc BK401 4
    have hfz32_0 := blk_frozen BK401.out 0
    have hfz32_1 := blk_frozen BK401.out 1
    have hfz32_2 := blk_frozen BK401.out 2
    have hfz32_3 := blk_frozen BK401.out 3
    have hfz32_4 := blk_frozen BK401.out 4
    have hcz33_0 : w30.cell? ⟨gb392, 0, none⟩ = some (.int .i64 0) := bc BK392 0
    have hcz33_1 : w30.cell? ⟨gb392, 1, none⟩ = some (.int .i64 0) := bc BK392 1
    have hcz33_2 : w30.cell? ⟨gb392, 2, none⟩ = some (.int .i64 0) := bc BK392 2
    have hcz33_3 : w30.cell? ⟨gb392, 3, none⟩ = some (.slice none 0 0) := bc BK392 3
    have hcz33_4 : w30.cell? ⟨gb392, 4, none⟩ = some (.bool false) := bc BK392 4
    have hfz33_0 := blk_frozen BK392.out 0
    have hfz33_1 := blk_frozen BK392.out 1
    have hfz33_2 := blk_frozen BK392.out 2
    have hfz33_3 := blk_frozen BK392.out 3
    have hfz33_4 := blk_frozen BK392.out 4
    try go_wp2
    refine bodyPost_ret (results_ct rfl _ _ gb392 25 #[.int .i64 t394, .int .i64 t395, .int .i64 t396, .slice Ao25 t397.length co25, .bool t400] (0, 0) _ rfl (kP BK392.out) Try.underlying25 rfl (by kernel_rfl)) rfl ?_
    exact ⟨_, by first | rfl | (simp [errW_none, errW_some] <;> rfl) | (simp [*, errW_none, errW_some] <;> rfl), by (with_reducible repeat (first | apply Kd.R_alloc | apply Kd.R_drewN | apply Kd.R_drew)); exact frM (Kd.R_types HO399.out BK392.out (by decide)), by repeat (first | (with_reducible first | exact HB.out | apply below_alloc | apply pw_below_drewN | apply below_drew1 | refine below_set ?_ GE390.out | refine below_set ?_ GE391.out | refine below_set ?_ GE392.out | refine below_set ?_ GE401.out) | exact HB.out)⟩
   ·rw [if_neg c10] at H
    have c10b0 : decide ((l0_3.length : Int) < t404) = false := decide_eq_false c10
    clear c10
    obtain ⟨y405, hy405⟩ : ∃ y_ : List ByteArray, y_ = (([] : List ByteArray)) := ⟨_, rfl⟩
    replace H : (if 0 ≤ t404 then (if t404 ≤ (l0_3.length : Int) then (if y405.length + (l0_3.drop (t404 : Int).toNat).length < 8796093022208 then (some (t394, t395, t396, (y405 ++ (l0_3.drop (t404 : Int).toNat)), a1_0, true)) else (none)) else (none)) else (none)) = some (r1, r2, r3, r4, r5, r6) := by first | (rw [hy405]; with_reducible exact H) | (have H2_ := (Option.bind_some _ _).symm.trans H; rw [hy405]; with_reducible exact H2_) | (have H2_ := (Option.bind_some _ _).symm.trans H; with_reducible exact H2_) | with_reducible exact H | (rw [hy405]; exact H) | exact H
    have Ny405 := Aside0.mk hy405
    clear hy405
    by_cases c34 : 0 ≤ t404
    ·rw [if_pos c34] at H
     have c34b0 := eq_true c34
     have c34b1 : decide (0 ≤ t404) = true := decide_eq_true c34
     clear c34
     by_cases c35 : t404 ≤ (l0_3.length : Int)
     ·rw [if_pos c35] at H
      have c35b0 := eq_true c35
      have c35b1 : decide (t404 ≤ (l0_3.length : Int)) = true := decide_eq_true c35
      clear c35
      by_cases c36 : y405.length + (l0_3.drop (t404 : Int).toNat).length < 8796093022208
      ·rw [if_pos c36] at H
       have LMc36 := Aside0.mk c36
       clear c36
       obtain ⟨y409, hy409⟩ : ∃ y_ : List ByteArray, y_ = (y405 ++ (l0_3.drop (t404 : Int).toNat)) := ⟨_, rfl⟩
       replace H : (some (t394, t395, t396, y409, a1_0, true)) = some (r1, r2, r3, r4, r5, r6) := by first | (rw [hy409]; with_reducible exact H) | (have H2_ := (Option.bind_some _ _).symm.trans H; rw [hy409]; with_reducible exact H2_) | (have H2_ := (Option.bind_some _ _).symm.trans H; with_reducible exact H2_) | with_reducible exact H | (rw [hy409]; exact H) | exact H
       have Ny409 := Aside0.mk hy409
       clear hy409
       simp only [Option.some.injEq, Prod.mk.injEq] at H
       obtain ⟨rfl, rfl, rfl, rfl, rfl, rfl⟩ := H
       go_enter Try.func17, Try.ntmps17
       try go_wp2_with (first | ((with_reducible refine gate_dst (N := 2) rfl ?_); refine box_event ?hg (N := 2) ?hd (cs := #[.int .i64 a0_0, .int .i64 a0_1, .int .i64 a0_2, .slice A0_3 l0_3.length c0_3, .bool a0_4]) (t := 25) ?hr ?_; (case hd => rfl); (case hg => rfl); (case hr => first | (go_simp; done) | (go_simp; rfl)); intro gb390 hg w37 hbox hb; have n0_ := m_ (below_step (bN HB.out) hb); have n1_ := m_ (hbox); have n2_ := m_ ((by rw [hg]; exact (below_size (bN HB.out)) : w.heap.size ≤ gb390)); have n3_ := m_ ((by rw [hg]; exact (below_size (bN HB.out)) : w.heap.size ≤ gb390)); clear HB; have HB := n0_; have BK390 := n1_; have GW390 := n2_; have GE390 := n3_; clear n0_ n1_ n2_ n3_; clear hb hbox hg) | ((with_reducible refine gate_dst (N := 3) rfl ?_); refine box_event ?hg (N := 3) ?hd (cs := #[.bool a1_0, .bool a1_1, .bool a1_2, .int .i64 a1_3, .int .i64 a1_4]) (t := 39) ?hr ?_; (case hd => rfl); (case hg => rfl); (case hr => first | (go_simp; done) | (go_simp; rfl)); intro gb391 hg w38 hbox hb; have n0_ := m_ (blk_below (kN BK390.out) hb); have n1_ := m_ (below_step (bN HB.out) hb); have n2_ := m_ (hbox); have n3_ := m_ ((by rw [hg]; exact (below_size (bN HB.out)) : w.heap.size ≤ gb391)); have n4_ := m_ ((by rw [hg]; exact (below_size (bN HB.out)) : w.heap.size ≤ gb391)); have n5_ := m_ (nL hg BK390.out); have n6_ := m_ (nG hg BK390.out); clear BK390; clear HB; have BK390 := n0_; have HB := n1_; have BK391 := n2_; have GW391 := n3_; have GE391 := n4_; have NB390_391 := n5_; have NB391_390 := n6_; clear n0_ n1_ n2_ n3_ n4_ n5_ n6_; clear hb hbox hg) | ((with_reducible refine gate_dst (N := 4) rfl ?_); refine box_event ?hg (N := 4) ?hd (cs := #[.int .i64 0, .int .i64 0, .int .i64 0, .slice none 0 0, .bool false]) (t := 25) ?hr ?_; (case hd => rfl); (case hg => rfl); (case hr => first | (go_simp; done) | (go_simp; rfl)); intro gb392 hg w39 hbox hb; have n0_ := m_ (blk_below (kN BK390.out) hb); have n1_ := m_ (blk_below (kN BK391.out) hb); have n2_ := m_ (below_step (bN HB.out) hb); have n3_ := m_ (hbox); have n4_ := m_ ((by rw [hg]; exact (below_size (bN HB.out)) : w.heap.size ≤ gb392)); have n5_ := m_ ((by rw [hg]; exact (below_size (bN HB.out)) : w.heap.size ≤ gb392)); have n6_ := m_ (nL hg BK390.out); have n7_ := m_ (nG hg BK390.out); have n8_ := m_ (nL hg BK391.out); have n9_ := m_ (nG hg BK391.out); clear BK390; clear BK391; clear HB; have BK390 := n0_; have BK391 := n1_; have HB := n2_; have BK392 := n3_; have GW392 := n4_; have GE392 := n5_; have NB390_392 := n6_; have NB392_390 := n7_; have NB391_392 := n8_; have NB392_391 := n9_; clear n0_ n1_ n2_ n3_ n4_ n5_ n6_ n7_ n8_ n9_; clear hb hbox hg; have hnb40 := NB390_391.out; have hnc40 := NB391_390.out; have hnb41 := NB390_392.out; have hnc41 := NB392_390.out; have hcz42_0 : w39.cell? ⟨gb390, 0, none⟩ = some (.int .i64 a0_0) := bc BK390 0; have hcz42_1 : w39.cell? ⟨gb390, 1, none⟩ = some (.int .i64 a0_1) := bc BK390 1; have hcz42_2 : w39.cell? ⟨gb390, 2, none⟩ = some (.int .i64 a0_2) := bc BK390 2; have hcz42_3 : w39.cell? ⟨gb390, 3, none⟩ = some (.slice A0_3 l0_3.length c0_3) := bc BK390 3; have hcz42_4 : w39.cell? ⟨gb390, 4, none⟩ = some (.bool a0_4) := bc BK390 4; have hfz42_0 := blk_frozen BK390.out 0; have hfz42_1 := blk_frozen BK390.out 1; have hfz42_2 := blk_frozen BK390.out 2; have hfz42_3 := blk_frozen BK390.out 3; have hfz42_4 := blk_frozen BK390.out 4) | ((with_reducible refine gate_callee (f := 13) rfl ?_); refine goesL_ (some 9) rfl rfl Try.func13 (by kernel_rfl) rfl #[.agg #[.int .i64 a0_0, .int .i64 a0_1, .int .i64 a0_2, .slice A0_3 l0_3.length c0_3, .bool a0_4]] rfl gl_ ?_; (with_reducible refine (spec_FopOk.calls k a0_0 a0_1 a0_2 _ _ l0_3 a0_4 true _ ?side1 ?side2 A3.out).mono ?_); (case side1 => exact cN (Kd.C_below HR0_3.out HB.out)); (case side2 => exact HC0_3.out); rintro e w43 ⟨rfl, hb⟩; refine ⟨_, rfl, ?_⟩; have n0_ := m_ (blk_below (kN BK390.out) hb); have n1_ := m_ (blk_below (kN BK391.out) hb); have n2_ := m_ (blk_below (kN BK392.out) hb); have n3_ := m_ (below_step (bN HB.out) hb); clear BK390; clear BK391; clear BK392; clear HB; have BK390 := n0_; have BK391 := n1_; have BK392 := n2_; have HB := n3_; clear n0_ n1_ n2_ n3_; (try clear hb); (try clear hb2); (try clear hk); (try clear hi); have hcz44_0 : w43.cell? ⟨gb390, 0, none⟩ = some (.int .i64 a0_0) := bc BK390 0; have hcz44_1 : w43.cell? ⟨gb390, 1, none⟩ = some (.int .i64 a0_1) := bc BK390 1; have hcz44_2 : w43.cell? ⟨gb390, 2, none⟩ = some (.int .i64 a0_2) := bc BK390 2; have hcz44_3 : w43.cell? ⟨gb390, 3, none⟩ = some (.slice A0_3 l0_3.length c0_3) := bc BK390 3; have hcz44_4 : w43.cell? ⟨gb390, 4, none⟩ = some (.bool a0_4) := bc BK390 4; have hfz44_0 := blk_frozen BK390.out 0; have hfz44_1 := blk_frozen BK390.out 1; have hfz44_2 := blk_frozen BK390.out 2; have hfz44_3 := blk_frozen BK390.out 3; have hfz44_4 := blk_frozen BK390.out 4) | ((with_reducible refine gate_callee (f := 39) rfl ?_); refine goesL_ (some 13) rfl rfl Try.func39 (by kernel_rfl) rfl #[.agg #[.int .i64 a0_0, .int .i64 a0_1, .int .i64 a0_2, .slice A0_3 l0_3.length c0_3, .bool a0_4]] rfl gl_ ?_; (with_reducible refine (spec_l5Copy.calls a0_0 a0_1 a0_2 _ _ l0_3 a0_4 t394 t395 t396 t397 t400 _ ?side1 ?side2 A5.out).mono ?_); (case side1 => exact cN (Kd.C_below HR0_3.out HB.out)); (case side2 => exact HC0_3.out); rintro e w45 ⟨v398, rfl, ho0, hb⟩; refine ⟨_, rfl, ?_⟩; have n0_ := m_ (Kd.R_lower ho0 (below_size (bN HB.out))); have n1_ := m_ (blk_below (kN BK390.out) hb); have n2_ := m_ (blk_below (kN BK391.out) hb); have n3_ := m_ (blk_below (kN BK392.out) hb); have n4_ := m_ (below_step (bN HB.out) hb); clear BK390; clear BK391; clear BK392; clear HB; have HO399 := n0_; have BK390 := n1_; have BK391 := n2_; have BK392 := n3_; have HB := n4_; clear n0_ n1_ n2_ n3_ n4_; (try clear hb); (try clear hb2); (try clear hk); (try clear hi); (try clear ho0)) | ((with_reducible refine gate_dst (N := 6) rfl ?_); refine box_event ?hg (N := 6) ?hd (cs := #[.int .i64 0, .int .i64 0, .int .i64 0, .slice none 0 0, .bool false]) (t := 25) ?hr ?_; (case hd => rfl); (case hg => rfl); (case hr => first | (go_simp; done) | (go_simp; rfl)); intro gb401 hg w46 hbox hb; have n0_ := m_ (Kd.R_below (rN HO399.out) hb); have n1_ := m_ (blk_below (kN BK390.out) hb); have n2_ := m_ (blk_below (kN BK391.out) hb); have n3_ := m_ (blk_below (kN BK392.out) hb); have n4_ := m_ (below_step (bN HB.out) hb); have n5_ := m_ (hbox); have n6_ := m_ ((by rw [hg]; exact (below_size (bN HB.out)) : w.heap.size ≤ gb401)); have n7_ := m_ ((by rw [hg]; exact (below_size (bN HB.out)) : w.heap.size ≤ gb401)); have n8_ := m_ (nL hg BK390.out); have n9_ := m_ (nG hg BK390.out); have n10_ := m_ (nL hg BK391.out); have n11_ := m_ (nG hg BK391.out); have n12_ := m_ (nL hg BK392.out); have n13_ := m_ (nG hg BK392.out); clear HO399; clear BK390; clear BK391; clear BK392; clear HB; have HO399 := n0_; have BK390 := n1_; have BK391 := n2_; have BK392 := n3_; have HB := n4_; have BK401 := n5_; have GW401 := n6_; have GE401 := n7_; have NB390_401 := n8_; have NB401_390 := n9_; have NB391_401 := n10_; have NB401_391 := n11_; have NB392_401 := n12_; have NB401_392 := n13_; clear n0_ n1_ n2_ n3_ n4_ n5_ n6_ n7_ n8_ n9_ n10_ n11_ n12_ n13_; clear hb hbox hg; have hnb47 := NB401_390.out; have hnc47 := NB390_401.out; have hnb48 := NB401_391.out; have hnc48 := NB391_401.out; have hnb49 := NB401_392.out; have hnc49 := NB392_401.out; have hcz50_0 : w46.cell? ⟨gb401, 0, none⟩ = some (.int .i64 0) := bc BK401 0; have hcz50_1 : w46.cell? ⟨gb401, 1, none⟩ = some (.int .i64 0) := bc BK401 1; have hcz50_2 : w46.cell? ⟨gb401, 2, none⟩ = some (.int .i64 0) := bc BK401 2; have hcz50_3 : w46.cell? ⟨gb401, 3, none⟩ = some (.slice none 0 0) := bc BK401 3; have hcz50_4 : w46.cell? ⟨gb401, 4, none⟩ = some (.bool false) := bc BK401 4; have hfz50_0 := blk_frozen BK401.out 0; have hfz50_1 := blk_frozen BK401.out 1; have hfz50_2 := blk_frozen BK401.out 2; have hfz50_3 := blk_frozen BK401.out 3; have hfz50_4 := blk_frozen BK401.out 4; obtain ⟨Ao51, co51, eo51⟩ := Kd.R_slice HO399.out; subst eo51; have hnb52 := NB391_392.out; have hnc52 := NB392_391.out; have hcz53_0 : w46.cell? ⟨gb391, 0, none⟩ = some (.bool a1_0) := bc BK391 0; have hcz53_1 : w46.cell? ⟨gb391, 1, none⟩ = some (.bool a1_1) := bc BK391 1; have hcz53_2 : w46.cell? ⟨gb391, 2, none⟩ = some (.bool a1_2) := bc BK391 2; have hcz53_3 : w46.cell? ⟨gb391, 3, none⟩ = some (.int .i64 a1_3) := bc BK391 3; have hcz53_4 : w46.cell? ⟨gb391, 4, none⟩ = some (.int .i64 a1_4) := bc BK391 4; have hfz53_0 := blk_frozen BK391.out 0; have hfz53_1 := blk_frozen BK391.out 1; have hfz53_2 := blk_frozen BK391.out 2; have hfz53_3 := blk_frozen BK391.out 3; have hfz53_4 := blk_frozen BK391.out 4) | ((with_reducible refine gate_callee (f := 49) rfl ?_); refine goesL_ (some 15) rfl rfl Try.func49 (by kernel_rfl) rfl #[.agg #[.bool a1_0, .bool a1_1, .bool a1_2, .int .i64 a1_3, .int .i64 a1_4]] rfl gl_ ?_; (with_reducible refine (spec_FarmOk.calls a1_0 a1_1 a1_2 a1_3 a1_4 true _ A6.out).mono ?_); rintro e w54 ⟨rfl, hb⟩; refine ⟨_, rfl, ?_⟩; have n0_ := m_ (Kd.R_below (frN (Kd.R_types HO399.out BK401.out (by decide))) hb); have n1_ := m_ (blk_below (g := gb390) (o := .cells #[.int .i64 a0_0, .int .i64 a0_1, .int .i64 a0_2, .slice A0_3 l0_3.length c0_3, .bool a0_4] 25 (0, 0)) (kF BK390.out NB390_401.out) hb); have n2_ := m_ (blk_below (g := gb391) (o := .cells #[.bool a1_0, .bool a1_1, .bool a1_2, .int .i64 a1_3, .int .i64 a1_4] 39 (0, 0)) (kF BK391.out NB391_401.out) hb); have n3_ := m_ (blk_below (g := gb392) (o := .cells #[.int .i64 0, .int .i64 0, .int .i64 0, .slice none 0 0, .bool false] 25 (0, 0)) (kF BK392.out NB392_401.out) hb); have n4_ := m_ (blk_below (g := gb401) (o := .cells #[.int .i64 t394, .int .i64 t395, .int .i64 t396, .slice Ao51 t397.length co51, .bool t400] 25 (0, 0)) (kP BK401.out) hb); have n5_ := m_ (below_step (bN HB.out) hb); clear HO399; clear BK390; clear BK391; clear BK392; clear BK401; clear HB; have HO399 := n0_; have BK390 := n1_; have BK391 := n2_; have BK392 := n3_; have BK401 := n4_; have HB := n5_; clear n0_ n1_ n2_ n3_ n4_ n5_; (try clear hb); (try clear hb2); (try clear hk); (try clear hi)))
       have n0_ := m_ (Kd.R_drew HO399.out)
       have n1_ := m_ (blk_drew BK390.out)
       have n2_ := m_ (blk_drew BK391.out)
       have n3_ := m_ (blk_drew BK392.out)
       have n4_ := m_ (blk_drew BK401.out)
       have n5_ := m_ (below_drew1 HB.out)
       clear HO399
       clear BK390
       clear BK391
       clear BK392
       clear BK401
       clear HB
       have HO399 := n0_
       have BK390 := n1_
       have BK391 := n2_
       have BK392 := n3_
       have BK401 := n4_
       have HB := n5_
       clear n0_ n1_ n2_ n3_ n4_ n5_
       refine start_ (n := 7) (S := fun w' => w'.cell? ⟨gb391, 0, none⟩ = some (.bool a1_0) ∧ w'.cell? ⟨gb391, 1, none⟩ = some (.bool a1_1) ∧ w'.cell? ⟨gb391, 2, none⟩ = some (.bool a1_2) ∧ w'.cell? ⟨gb391, 3, none⟩ = some (.int .i64 a1_3) ∧ w'.cell? ⟨gb391, 4, none⟩ = some (.int .i64 a1_4) ∧ w'.cell? ⟨gb390, 0, none⟩ = some (.int .i64 a0_0) ∧ w'.cell? ⟨gb390, 1, none⟩ = some (.int .i64 a0_1) ∧ w'.cell? ⟨gb390, 2, none⟩ = some (.int .i64 a0_2) ∧ w'.cell? ⟨gb390, 3, none⟩ = some (.slice A0_3 l0_3.length c0_3) ∧ w'.cell? ⟨gb390, 4, none⟩ = some (.bool a0_4)) (ds := []) #[false, false, false, false, false, false, false] (by kernel_rfl) rfl rfl ⟨bc BK391 0, bc BK391 1, bc BK391 2, bc BK391 3, bc BK391 4, bc BK390 0, bc BK390 1, bc BK390 2, bc BK390 3, bc BK390 4⟩ (fun hHeld => ?_)
       generalize w54.drew = w55 at HO399 BK390 BK391 BK392 BK401 HB hHeld ⊢
       refine pure_ (i := 0) (N := some 18) (v := ?_) (a' := ?_) #[true, false, false, false, false, false, false] rfl rfl (by kernel_rfl) (fun _ _ _ h => h) (Or.inl ⟨by rfl, ?_⟩) ?_ ?_
       rotate_left
       ·intro w'
        go_simp
        with_reducible rfl
       rotate_left
       ·simp only [Act.put, List.setIfInBounds_toArray, List.set_cons_zero, List.set_cons_succ, i64_w, i32_w]
        rfl
       refine take_ (i := 1) (N := some 19) (v := ?_) (a' := ?_) #[true, true, false, false, false, false, false] rfl rfl (by kernel_rfl) (fun _ _ _ h => h) (Or.inl ⟨by rfl, ?_⟩) hHeld ?_ ?_
       rotate_left
       ·rintro w' ⟨s0, s1, s2, s3, s4, s5, s6, s7, s8, s9⟩
        go_simp
        with_reducible rfl
       rotate_left
       ·simp only [Act.put, List.setIfInBounds_toArray, List.set_cons_zero, List.set_cons_succ, i64_w, i32_w]
        rfl
       refine take_ (i := 2) (N := some 20) (v := ?_) (a' := ?_) #[true, true, true, false, false, false, false] rfl rfl (by kernel_rfl) (fun _ _ _ h => h) (Or.inl ⟨by rfl, ?_⟩) hHeld ?_ ?_
       rotate_left
       ·rintro w' ⟨s0, s1, s2, s3, s4, s5, s6, s7, s8, s9⟩
        go_simp
        with_reducible rfl
       rotate_left
       ·simp only [Act.put, List.setIfInBounds_toArray, List.set_cons_zero, List.set_cons_succ, i64_w, i32_w]
        rfl
       refine one_ (i := 3) (N := some 21) #[true, true, true, true, false, false, false] rfl rfl (by kernel_rfl) (by decide) (fun K hK => ?_)
       refine goes_ Try.func50 (by kernel_rfl) rfl #[.agg #[.int .i64 a0_0, .int .i64 a0_1, .int .i64 a0_2, .slice A0_3 l0_3.length c0_3, .bool a0_4]] (by rfl) rfl rfl gl_ ?_
       with_reducible refine (spec_l5First.calls a0_0 a0_1 a0_2 _ _ l0_3 a0_4 t403 _ ?side1 ?side2 A8.out).mono ?_
       (case side1 => exact cN (Kd.C_below HR0_3.out HB.out))
       (case side2 => exact HC0_3.out)
       rintro e w56 ⟨rfl, hb⟩
       refine ⟨_, rfl, ?_⟩
       have n0_ := m_ (Kd.R_below (rN HO399.out) hb)
       have n1_ := m_ (blk_below (kN BK390.out) hb)
       have n2_ := m_ (blk_below (kN BK391.out) hb)
       have n3_ := m_ (blk_below (kN BK392.out) hb)
       have n4_ := m_ (blk_below (kN BK401.out) hb)
       have n5_ := m_ (below_step (bN HB.out) hb)
       clear HO399
       clear BK390
       clear BK391
       clear BK392
       clear BK401
       clear HB
       have HO399 := n0_
       have BK390 := n1_
       have BK391 := n2_
       have BK392 := n3_
       have BK401 := n4_
       have HB := n5_
       clear n0_ n1_ n2_ n3_ n4_ n5_
       (try clear hb)
       (try clear hb2)
       (try clear hk)
       (try clear hi)
       refine hK.out _ _ ⟨bc BK391 0, bc BK391 1, bc BK391 2, bc BK391 3, bc BK391 4, bc BK390 0, bc BK390 1, bc BK390 2, bc BK390 3, bc BK390 4⟩ (fun hHeld => ?_)
       clear hK K
       refine np (h := ?_)
       refine pure_ (i := 4) (N := some 22) (v := ?_) (a' := ?_) #[true, true, true, true, true, false, false] rfl rfl (by kernel_rfl) (fun _ _ _ h => h) (Or.inl ⟨by rfl, ?_⟩) ?_ ?_
       rotate_left
       ·intro w'
        go_simp
        with_reducible rfl
       rotate_left
       ·simp only [Act.put, List.setIfInBounds_toArray, List.set_cons_zero, List.set_cons_succ, i64_w, i32_w]
        rfl
       refine one_ (i := 5) (N := some 23) #[true, true, true, true, true, true, false] rfl rfl (by kernel_rfl) (by decide) (fun K hK => ?_)
       refine goes_ Try.func41 (by kernel_rfl) rfl #[.int .i64 (wrap64 (a1_4 - t403))] (by rfl) rfl rfl gl_ ?_
       with_reducible refine (spec_l4Mod.calls (wrap64 (a1_4 - t403)) t404 _ A9.out).mono ?_
       rintro e w' ⟨rfl, ⟨nd, rfl⟩⟩
       refine ⟨_, rfl, ?_⟩
       refine hK.out _ _ ⟨bc BK391 0, bc BK391 1, bc BK391 2, bc BK391 3, bc BK391 4, bc BK390 0, bc BK390 1, bc BK390 2, bc BK390 3, bc BK390 4⟩ (fun hHeld => ?_)
       clear hK K
       refine np (h := ?_)
       refine pure_ (i := 6) (N := some 7) (v := ?_) (a' := ?_) #[true, true, true, true, true, true, true] rfl rfl (by kernel_rfl) (fun _ _ _ h => h) (Or.inl ⟨by rfl, ?_⟩) ?_ ?_
       rotate_left
       ·intro w'
        go_simp
        with_reducible rfl
       rotate_left
       ·simp only [Act.put, List.setIfInBounds_toArray, List.set_cons_zero, List.set_cons_succ, i64_w, i32_w]
        rfl
       refine done_ (by kernel_rfl) ?_
       have hcz57_0 : w56.cell? ⟨gb390, 0, none⟩ = some (.int .i64 a0_0) := bc BK390 0
       have hcz57_1 : w56.cell? ⟨gb390, 1, none⟩ = some (.int .i64 a0_1) := bc BK390 1
       have hcz57_2 : w56.cell? ⟨gb390, 2, none⟩ = some (.int .i64 a0_2) := bc BK390 2
       have hcz57_3 : w56.cell? ⟨gb390, 3, none⟩ = some (.slice A0_3 l0_3.length c0_3) := bc BK390 3
       have hcz57_4 : w56.cell? ⟨gb390, 4, none⟩ = some (.bool a0_4) := bc BK390 4
       have hfz57_0 := blk_frozen BK390.out 0
       have hfz57_1 := blk_frozen BK390.out 1
       have hfz57_2 := blk_frozen BK390.out 2
       have hfz57_3 := blk_frozen BK390.out 3
       have hfz57_4 := blk_frozen BK390.out 4
       try go_wp2_with (first | ((with_reducible refine gate_dst (N := 30) rfl ?_); refine Kd.R_lit Kd.string _ 9 ?hg (N := 30) ?hd (xs := ([] : List ByteArray)) (inner := []) (ok := fun _ => True) (okp := fun _ => True) ?hr ?hp (fun _ hk => hk) trivial (Below.refl _ _) (Nat.le_refl _) (by simp) ?_; (case hd => rfl); (case hg => rfl); (case hr => first | (go_simp; done) | (go_simp; rfl)); (case hp => exact (Reps.none _ _)); intro v406 w58 ho59 hb hg_ hnew_; clear hg_ hnew_; (first | rw [← Ny405.out] at ho59 | (simp only [Int.reduceToNat] at ho59; rw [← Ny405.out] at ho59)); have n0_ := m_ (Kd.R_elder' (rN HO399.out) (Kd.R_base ho59) hb); have n1_ := m_ (Kd.R_lower (Kd.R_new' ho59 (Kd.R_lt (rN HO399.out))) (below_size (bN HB.out))); have n2_ := m_ (blk_below (kN BK390.out) hb); have n3_ := m_ (blk_below (kN BK391.out) hb); have n4_ := m_ (blk_below (kN BK392.out) hb); have n5_ := m_ (blk_below (kN BK401.out) hb); have n6_ := m_ (below_step (bN HB.out) hb); clear HO399; clear BK390; clear BK391; clear BK392; clear BK401; clear HB; have HO399 := n0_; have HO407 := n1_; have BK390 := n2_; have BK391 := n3_; have BK392 := n4_; have BK401 := n5_; have HB := n6_; clear n0_ n1_ n2_ n3_ n4_ n5_ n6_; clear hb ho59; have hcz60_0 : w58.cell? ⟨gb390, 0, none⟩ = some (.int .i64 a0_0) := bc BK390 0; have hcz60_1 : w58.cell? ⟨gb390, 1, none⟩ = some (.int .i64 a0_1) := bc BK390 1; have hcz60_2 : w58.cell? ⟨gb390, 2, none⟩ = some (.int .i64 a0_2) := bc BK390 2; have hcz60_3 : w58.cell? ⟨gb390, 3, none⟩ = some (.slice A0_3 l0_3.length c0_3) := bc BK390 3; have hcz60_4 : w58.cell? ⟨gb390, 4, none⟩ = some (.bool a0_4) := bc BK390 4; have hfz60_0 := blk_frozen BK390.out 0; have hfz60_1 := blk_frozen BK390.out 1; have hfz60_2 := blk_frozen BK390.out 2; have hfz60_3 := blk_frozen BK390.out 3; have hfz60_4 := blk_frozen BK390.out 4; obtain ⟨i061, hi061, _, hsz61, _⟩ := info_parts info9; obtain ⟨A61, hcut61, hA61, hC61⟩ := print_drop_of (P := Try.prog) Value.string (⟨#[]⟩ : ByteArray) 23 9 .i64 Try.underlying23 hi061 hsz61 A0_3 c0_3 l0_3 t404 (of_decide_eq_true (by first | (with_reducible assumption) | assumption)) (of_decide_eq_true (by first | (with_reducible assumption) | assumption)) HC0_3.out; have HR408 := m_ (Kd.C_of_reads (h1 := fun _ => rfl) (hA61 _ (Kd.reads_of_C HR0_3.out))); have HC408 := Aside0.mk hC61; clear hA61 hC61 hi061 hsz61) | ((with_reducible refine gate_builtin (b := .append) (xs := #[.tmp 30, .tmp 34]) rfl ?_); at_builtin; refine Kd.R_append_rows Kd.string (w0 := w) w.heap.size rfl (.tmp 30) (.tmp 34) 23 9 (.string ⟨#[]⟩) 16 rfl Try.underlying23 info9 rfl (by decide) (by omega) v406 y405 (l0_3.drop (t404 : Int).toNat) _ _ _ (fun k_ => nb Ao51 t397.length co51 k_) (fun _ => False) rfl rfl ?aO ?aR (fun _ _ h => h) (fun _ h => h.elim) ?aF ?aB ?aS ?aL ?_; (case aR => first | (rw [← show (l0_3.drop (t404 : Int).toNat).length = (l0_3.length - t404.toNat) from List.length_drop]; repeat (first | exact (Kd.C_below HR408.out HB.out) | (with_reducible refine Kd.C_alloc ?_ _) | (with_reducible refine Kd.C_drewN ?_ _) | (with_reducible refine Kd.C_drew ?_))) | (repeat (first | exact (Kd.C_below HR408.out HB.out) | (with_reducible refine Kd.C_alloc ?_ _) | (with_reducible refine Kd.C_drewN ?_ _) | (with_reducible refine Kd.C_drew ?_)))); (case aB => exact (bN HB.out)); (case aF => exact (fun k_ hk => Kd.fresh' (Kd.R_lt (rN HO399.out)) k_ hk)); (case aO => exact (rN (Kd.R_mono HO407.out (fun _ hk => hk.2)))); (case aS => exact (below_size (bN HB.out))); (case aL => have := LMc36.out; have hlx_ := (show (l0_3.drop (t404 : Int).toNat).length = (l0_3.length - t404.toNat) from List.length_drop); omega); intro v410 w62 ho hb hg hat; rw [← Ny409.out] at ho; have n0_ := m_ (blk_grown (g := gb390) (o := .cells #[.int .i64 a0_0, .int .i64 a0_1, .int .i64 a0_2, .slice A0_3 l0_3.length c0_3, .bool a0_4] 25 (0, 0)) (kN BK390.out) hg (Kd.R_ne HO407.out BK390.out (by decide))); have n1_ := m_ (blk_grown (g := gb391) (o := .cells #[.bool a1_0, .bool a1_1, .bool a1_2, .int .i64 a1_3, .int .i64 a1_4] 39 (0, 0)) (kN BK391.out) hg (Kd.R_ne HO407.out BK391.out (by decide))); have n2_ := m_ (blk_grown (g := gb392) (o := .cells #[.int .i64 0, .int .i64 0, .int .i64 0, .slice none 0 0, .bool false] 25 (0, 0)) (kN BK392.out) hg (Kd.R_ne HO407.out BK392.out (by decide))); have n3_ := m_ (Kd.R_after (ok := (fun _ => True)) (rN HO399.out) hg hat); have n4_ := m_ (blk_grown (g := gb401) (o := .cells #[.int .i64 t394, .int .i64 t395, .int .i64 t396, .slice Ao51 t397.length co51, .bool t400] 25 (0, 0)) (kN BK401.out) hg (Kd.R_ne HO407.out BK401.out (by decide))); have n5_ := m_ (hb); have n6_ := m_ (ho); clear BK390; clear BK391; clear BK392; clear HO399; clear BK401; clear HB; clear HO407; have BK390 := n0_; have BK391 := n1_; have BK392 := n2_; have HO399 := n3_; have BK401 := n4_; have HB := n5_; have HO411 := n6_; clear n0_ n1_ n2_ n3_ n4_ n5_ n6_; clear ho hb hg hat; obtain ⟨Ao63, co63, eo63⟩ := Kd.R_slice HO411.out; subst eo63; have hcz64_0 : w62.cell? ⟨gb401, 0, none⟩ = some (.int .i64 t394) := bc BK401 0; have hcz64_1 : w62.cell? ⟨gb401, 1, none⟩ = some (.int .i64 t395) := bc BK401 1; have hcz64_2 : w62.cell? ⟨gb401, 2, none⟩ = some (.int .i64 t396) := bc BK401 2; have hcz64_3 : w62.cell? ⟨gb401, 3, none⟩ = some (.slice Ao51 t397.length co51) := bc BK401 3; have hcz64_4 : w62.cell? ⟨gb401, 4, none⟩ = some (.bool t400) := bc BK401 4; have hfz64_0 := blk_frozen BK401.out 0; have hfz64_1 := blk_frozen BK401.out 1; have hfz64_2 := blk_frozen BK401.out 2; have hfz64_3 := blk_frozen BK401.out 3; have hfz64_4 := blk_frozen BK401.out 4; have hcz65_0 : w62.cell? ⟨gb391, 0, none⟩ = some (.bool a1_0) := bc BK391 0; have hcz65_1 : w62.cell? ⟨gb391, 1, none⟩ = some (.bool a1_1) := bc BK391 1; have hcz65_2 : w62.cell? ⟨gb391, 2, none⟩ = some (.bool a1_2) := bc BK391 2; have hcz65_3 : w62.cell? ⟨gb391, 3, none⟩ = some (.int .i64 a1_3) := bc BK391 3; have hcz65_4 : w62.cell? ⟨gb391, 4, none⟩ = some (.int .i64 a1_4) := bc BK391 4; have hfz65_0 := blk_frozen BK391.out 0; have hfz65_1 := blk_frozen BK391.out 1; have hfz65_2 := blk_frozen BK391.out 2; have hfz65_3 := blk_frozen BK391.out 3; have hfz65_4 := blk_frozen BK391.out 4; have hcz66_0 : w62.cell? ⟨gb392, 0, none⟩ = some (.int .i64 0) := bc BK392 0; have hcz66_1 : w62.cell? ⟨gb392, 1, none⟩ = some (.int .i64 0) := bc BK392 1; have hcz66_2 : w62.cell? ⟨gb392, 2, none⟩ = some (.int .i64 0) := bc BK392 2; have hcz66_3 : w62.cell? ⟨gb392, 3, none⟩ = some (.slice none 0 0) := bc BK392 3; have hcz66_4 : w62.cell? ⟨gb392, 4, none⟩ = some (.bool false) := bc BK392 4; have hfz66_0 := blk_frozen BK392.out 0; have hfz66_1 := blk_frozen BK392.out 1; have hfz66_2 := blk_frozen BK392.out 2; have hfz66_3 := blk_frozen BK392.out 3; have hfz66_4 := blk_frozen BK392.out 4))
       refine bodyPost_ret (results_ct rfl _ _ gb392 25 #[.int .i64 t394, .int .i64 t395, .int .i64 t396, .slice Ao63 y409.length co63, .bool a1_0] (0, 0) _ rfl (kR BK392.out NB392_401.out) Try.underlying25 rfl (by kernel_rfl)) rfl ?_
       exact ⟨_, by first | rfl | (simp [errW_none, errW_some] <;> rfl) | (simp [*, errW_none, errW_some] <;> rfl), by (with_reducible repeat (first | apply Kd.R_alloc | apply Kd.R_drewN | apply Kd.R_drew)); exact frM (Kd.R_types (Kd.R_types HO411.out BK401.out (by decide)) BK392.out (by decide)), by repeat (first | (with_reducible first | exact HB.out | apply below_alloc | apply pw_below_drewN | apply below_drew1 | refine below_set ?_ GE390.out | refine below_set ?_ GE391.out | refine below_set ?_ GE392.out | refine below_set ?_ GE401.out) | exact HB.out)⟩
      ·rw [if_neg c36] at H
       exact absurd H (by simp)
     ·rw [if_neg c35] at H
      exact absurd H (by simp)
    ·rw [if_neg c34] at H
     exact absurd H (by simp)
  ·replace c7 := Bool.eq_false_iff.mpr c7
   subst c7
   have H1 : (some (t394, t395, t396, t397, t400, false)) = some (r1, r2, r3, r4, r5, r6) := by rw [if_neg (show ¬ (false = true) by decide)] at H; exact H
   clear H
   have H := H1
   clear H1
   simp only [Option.some.injEq, Prod.mk.injEq] at H
   obtain ⟨rfl, rfl, rfl, rfl, rfl, rfl⟩ := H
   go_enter Try.func17, Try.ntmps17
   go_wp2_with (first | ((with_reducible refine gate_dst (N := 2) rfl ?_); refine box_event ?hg (N := 2) ?hd (cs := #[.int .i64 a0_0, .int .i64 a0_1, .int .i64 a0_2, .slice A0_3 l0_3.length c0_3, .bool a0_4]) (t := 25) ?hr ?_; (case hd => rfl); (case hg => rfl); (case hr => first | (go_simp; done) | (go_simp; rfl)); intro gb390 hg w67 hbox hb; have n0_ := m_ (below_step (bN HB.out) hb); have n1_ := m_ (hbox); have n2_ := m_ ((by rw [hg]; exact (below_size (bN HB.out)) : w.heap.size ≤ gb390)); have n3_ := m_ ((by rw [hg]; exact (below_size (bN HB.out)) : w.heap.size ≤ gb390)); clear HB; have HB := n0_; have BK390 := n1_; have GW390 := n2_; have GE390 := n3_; clear n0_ n1_ n2_ n3_; clear hb hbox hg) | ((with_reducible refine gate_dst (N := 3) rfl ?_); refine box_event ?hg (N := 3) ?hd (cs := #[.bool a1_0, .bool a1_1, .bool a1_2, .int .i64 a1_3, .int .i64 a1_4]) (t := 39) ?hr ?_; (case hd => rfl); (case hg => rfl); (case hr => first | (go_simp; done) | (go_simp; rfl)); intro gb391 hg w68 hbox hb; have n0_ := m_ (blk_below (kN BK390.out) hb); have n1_ := m_ (below_step (bN HB.out) hb); have n2_ := m_ (hbox); have n3_ := m_ ((by rw [hg]; exact (below_size (bN HB.out)) : w.heap.size ≤ gb391)); have n4_ := m_ ((by rw [hg]; exact (below_size (bN HB.out)) : w.heap.size ≤ gb391)); have n5_ := m_ (nL hg BK390.out); have n6_ := m_ (nG hg BK390.out); clear BK390; clear HB; have BK390 := n0_; have HB := n1_; have BK391 := n2_; have GW391 := n3_; have GE391 := n4_; have NB390_391 := n5_; have NB391_390 := n6_; clear n0_ n1_ n2_ n3_ n4_ n5_ n6_; clear hb hbox hg) | ((with_reducible refine gate_dst (N := 4) rfl ?_); refine box_event ?hg (N := 4) ?hd (cs := #[.int .i64 0, .int .i64 0, .int .i64 0, .slice none 0 0, .bool false]) (t := 25) ?hr ?_; (case hd => rfl); (case hg => rfl); (case hr => first | (go_simp; done) | (go_simp; rfl)); intro gb392 hg w69 hbox hb; have n0_ := m_ (blk_below (kN BK390.out) hb); have n1_ := m_ (blk_below (kN BK391.out) hb); have n2_ := m_ (below_step (bN HB.out) hb); have n3_ := m_ (hbox); have n4_ := m_ ((by rw [hg]; exact (below_size (bN HB.out)) : w.heap.size ≤ gb392)); have n5_ := m_ ((by rw [hg]; exact (below_size (bN HB.out)) : w.heap.size ≤ gb392)); have n6_ := m_ (nL hg BK390.out); have n7_ := m_ (nG hg BK390.out); have n8_ := m_ (nL hg BK391.out); have n9_ := m_ (nG hg BK391.out); clear BK390; clear BK391; clear HB; have BK390 := n0_; have BK391 := n1_; have HB := n2_; have BK392 := n3_; have GW392 := n4_; have GE392 := n5_; have NB390_392 := n6_; have NB392_390 := n7_; have NB391_392 := n8_; have NB392_391 := n9_; clear n0_ n1_ n2_ n3_ n4_ n5_ n6_ n7_ n8_ n9_; clear hb hbox hg; have hnb70 := NB390_391.out; have hnc70 := NB391_390.out; have hnb71 := NB390_392.out; have hnc71 := NB392_390.out; have hcz72_0 : w69.cell? ⟨gb390, 0, none⟩ = some (.int .i64 a0_0) := bc BK390 0; have hcz72_1 : w69.cell? ⟨gb390, 1, none⟩ = some (.int .i64 a0_1) := bc BK390 1; have hcz72_2 : w69.cell? ⟨gb390, 2, none⟩ = some (.int .i64 a0_2) := bc BK390 2; have hcz72_3 : w69.cell? ⟨gb390, 3, none⟩ = some (.slice A0_3 l0_3.length c0_3) := bc BK390 3; have hcz72_4 : w69.cell? ⟨gb390, 4, none⟩ = some (.bool a0_4) := bc BK390 4; have hfz72_0 := blk_frozen BK390.out 0; have hfz72_1 := blk_frozen BK390.out 1; have hfz72_2 := blk_frozen BK390.out 2; have hfz72_3 := blk_frozen BK390.out 3; have hfz72_4 := blk_frozen BK390.out 4) | ((with_reducible refine gate_callee (f := 13) rfl ?_); refine goesL_ (some 9) rfl rfl Try.func13 (by kernel_rfl) rfl #[.agg #[.int .i64 a0_0, .int .i64 a0_1, .int .i64 a0_2, .slice A0_3 l0_3.length c0_3, .bool a0_4]] rfl gl_ ?_; (with_reducible refine (spec_FopOk.calls k a0_0 a0_1 a0_2 _ _ l0_3 a0_4 true _ ?side1 ?side2 A3.out).mono ?_); (case side1 => exact cN (Kd.C_below HR0_3.out HB.out)); (case side2 => exact HC0_3.out); rintro e w73 ⟨rfl, hb⟩; refine ⟨_, rfl, ?_⟩; have n0_ := m_ (blk_below (kN BK390.out) hb); have n1_ := m_ (blk_below (kN BK391.out) hb); have n2_ := m_ (blk_below (kN BK392.out) hb); have n3_ := m_ (below_step (bN HB.out) hb); clear BK390; clear BK391; clear BK392; clear HB; have BK390 := n0_; have BK391 := n1_; have BK392 := n2_; have HB := n3_; clear n0_ n1_ n2_ n3_; (try clear hb); (try clear hb2); (try clear hk); (try clear hi); have hcz74_0 : w73.cell? ⟨gb390, 0, none⟩ = some (.int .i64 a0_0) := bc BK390 0; have hcz74_1 : w73.cell? ⟨gb390, 1, none⟩ = some (.int .i64 a0_1) := bc BK390 1; have hcz74_2 : w73.cell? ⟨gb390, 2, none⟩ = some (.int .i64 a0_2) := bc BK390 2; have hcz74_3 : w73.cell? ⟨gb390, 3, none⟩ = some (.slice A0_3 l0_3.length c0_3) := bc BK390 3; have hcz74_4 : w73.cell? ⟨gb390, 4, none⟩ = some (.bool a0_4) := bc BK390 4; have hfz74_0 := blk_frozen BK390.out 0; have hfz74_1 := blk_frozen BK390.out 1; have hfz74_2 := blk_frozen BK390.out 2; have hfz74_3 := blk_frozen BK390.out 3; have hfz74_4 := blk_frozen BK390.out 4) | ((with_reducible refine gate_callee (f := 39) rfl ?_); refine goesL_ (some 13) rfl rfl Try.func39 (by kernel_rfl) rfl #[.agg #[.int .i64 a0_0, .int .i64 a0_1, .int .i64 a0_2, .slice A0_3 l0_3.length c0_3, .bool a0_4]] rfl gl_ ?_; (with_reducible refine (spec_l5Copy.calls a0_0 a0_1 a0_2 _ _ l0_3 a0_4 t394 t395 t396 t397 t400 _ ?side1 ?side2 A5.out).mono ?_); (case side1 => exact cN (Kd.C_below HR0_3.out HB.out)); (case side2 => exact HC0_3.out); rintro e w75 ⟨v398, rfl, ho0, hb⟩; refine ⟨_, rfl, ?_⟩; have n0_ := m_ (Kd.R_lower ho0 (below_size (bN HB.out))); have n1_ := m_ (blk_below (kN BK390.out) hb); have n2_ := m_ (blk_below (kN BK391.out) hb); have n3_ := m_ (blk_below (kN BK392.out) hb); have n4_ := m_ (below_step (bN HB.out) hb); clear BK390; clear BK391; clear BK392; clear HB; have HO399 := n0_; have BK390 := n1_; have BK391 := n2_; have BK392 := n3_; have HB := n4_; clear n0_ n1_ n2_ n3_ n4_; (try clear hb); (try clear hb2); (try clear hk); (try clear hi); (try clear ho0)) | ((with_reducible refine gate_dst (N := 6) rfl ?_); refine box_event ?hg (N := 6) ?hd (cs := #[.int .i64 0, .int .i64 0, .int .i64 0, .slice none 0 0, .bool false]) (t := 25) ?hr ?_; (case hd => rfl); (case hg => rfl); (case hr => first | (go_simp; done) | (go_simp; rfl)); intro gb401 hg w76 hbox hb; have n0_ := m_ (Kd.R_below (rN HO399.out) hb); have n1_ := m_ (blk_below (kN BK390.out) hb); have n2_ := m_ (blk_below (kN BK391.out) hb); have n3_ := m_ (blk_below (kN BK392.out) hb); have n4_ := m_ (below_step (bN HB.out) hb); have n5_ := m_ (hbox); have n6_ := m_ ((by rw [hg]; exact (below_size (bN HB.out)) : w.heap.size ≤ gb401)); have n7_ := m_ ((by rw [hg]; exact (below_size (bN HB.out)) : w.heap.size ≤ gb401)); have n8_ := m_ (nL hg BK390.out); have n9_ := m_ (nG hg BK390.out); have n10_ := m_ (nL hg BK391.out); have n11_ := m_ (nG hg BK391.out); have n12_ := m_ (nL hg BK392.out); have n13_ := m_ (nG hg BK392.out); clear HO399; clear BK390; clear BK391; clear BK392; clear HB; have HO399 := n0_; have BK390 := n1_; have BK391 := n2_; have BK392 := n3_; have HB := n4_; have BK401 := n5_; have GW401 := n6_; have GE401 := n7_; have NB390_401 := n8_; have NB401_390 := n9_; have NB391_401 := n10_; have NB401_391 := n11_; have NB392_401 := n12_; have NB401_392 := n13_; clear n0_ n1_ n2_ n3_ n4_ n5_ n6_ n7_ n8_ n9_ n10_ n11_ n12_ n13_; clear hb hbox hg; have hnb77 := NB401_390.out; have hnc77 := NB390_401.out; have hnb78 := NB401_391.out; have hnc78 := NB391_401.out; have hnb79 := NB401_392.out; have hnc79 := NB392_401.out; have hcz80_0 : w76.cell? ⟨gb401, 0, none⟩ = some (.int .i64 0) := bc BK401 0; have hcz80_1 : w76.cell? ⟨gb401, 1, none⟩ = some (.int .i64 0) := bc BK401 1; have hcz80_2 : w76.cell? ⟨gb401, 2, none⟩ = some (.int .i64 0) := bc BK401 2; have hcz80_3 : w76.cell? ⟨gb401, 3, none⟩ = some (.slice none 0 0) := bc BK401 3; have hcz80_4 : w76.cell? ⟨gb401, 4, none⟩ = some (.bool false) := bc BK401 4; have hfz80_0 := blk_frozen BK401.out 0; have hfz80_1 := blk_frozen BK401.out 1; have hfz80_2 := blk_frozen BK401.out 2; have hfz80_3 := blk_frozen BK401.out 3; have hfz80_4 := blk_frozen BK401.out 4; obtain ⟨Ao81, co81, eo81⟩ := Kd.R_slice HO399.out; subst eo81; have hnb82 := NB391_392.out; have hnc82 := NB392_391.out; have hcz83_0 : w76.cell? ⟨gb391, 0, none⟩ = some (.bool a1_0) := bc BK391 0; have hcz83_1 : w76.cell? ⟨gb391, 1, none⟩ = some (.bool a1_1) := bc BK391 1; have hcz83_2 : w76.cell? ⟨gb391, 2, none⟩ = some (.bool a1_2) := bc BK391 2; have hcz83_3 : w76.cell? ⟨gb391, 3, none⟩ = some (.int .i64 a1_3) := bc BK391 3; have hcz83_4 : w76.cell? ⟨gb391, 4, none⟩ = some (.int .i64 a1_4) := bc BK391 4; have hfz83_0 := blk_frozen BK391.out 0; have hfz83_1 := blk_frozen BK391.out 1; have hfz83_2 := blk_frozen BK391.out 2; have hfz83_3 := blk_frozen BK391.out 3; have hfz83_4 := blk_frozen BK391.out 4) | ((with_reducible refine gate_callee (f := 49) rfl ?_); refine goesL_ (some 15) rfl rfl Try.func49 (by kernel_rfl) rfl #[.agg #[.bool a1_0, .bool a1_1, .bool a1_2, .int .i64 a1_3, .int .i64 a1_4]] rfl gl_ ?_; (with_reducible refine (spec_FarmOk.calls a1_0 a1_1 a1_2 a1_3 a1_4 false _ A6.out).mono ?_); rintro e w84 ⟨rfl, hb⟩; refine ⟨_, rfl, ?_⟩; have n0_ := m_ (Kd.R_below (frN (Kd.R_types HO399.out BK401.out (by decide))) hb); have n1_ := m_ (blk_below (g := gb390) (o := .cells #[.int .i64 a0_0, .int .i64 a0_1, .int .i64 a0_2, .slice A0_3 l0_3.length c0_3, .bool a0_4] 25 (0, 0)) (kF BK390.out NB390_401.out) hb); have n2_ := m_ (blk_below (g := gb391) (o := .cells #[.bool a1_0, .bool a1_1, .bool a1_2, .int .i64 a1_3, .int .i64 a1_4] 39 (0, 0)) (kF BK391.out NB391_401.out) hb); have n3_ := m_ (blk_below (g := gb392) (o := .cells #[.int .i64 0, .int .i64 0, .int .i64 0, .slice none 0 0, .bool false] 25 (0, 0)) (kF BK392.out NB392_401.out) hb); have n4_ := m_ (blk_below (g := gb401) (o := .cells #[.int .i64 t394, .int .i64 t395, .int .i64 t396, .slice Ao81 t397.length co81, .bool t400] 25 (0, 0)) (kP BK401.out) hb); have n5_ := m_ (below_step (bN HB.out) hb); clear HO399; clear BK390; clear BK391; clear BK392; clear BK401; clear HB; have HO399 := n0_; have BK390 := n1_; have BK391 := n2_; have BK392 := n3_; have BK401 := n4_; have HB := n5_; clear n0_ n1_ n2_ n3_ n4_ n5_; (try clear hb); (try clear hb2); (try clear hk); (try clear hi); have hcz85_0 : w84.cell? ⟨gb401, 0, none⟩ = some (.int .i64 t394) := bc BK401 0; have hcz85_1 : w84.cell? ⟨gb401, 1, none⟩ = some (.int .i64 t395) := bc BK401 1; have hcz85_2 : w84.cell? ⟨gb401, 2, none⟩ = some (.int .i64 t396) := bc BK401 2; have hcz85_3 : w84.cell? ⟨gb401, 3, none⟩ = some (.slice Ao81 t397.length co81) := bc BK401 3; have hcz85_4 : w84.cell? ⟨gb401, 4, none⟩ = some (.bool t400) := bc BK401 4; have hfz85_0 := blk_frozen BK401.out 0; have hfz85_1 := blk_frozen BK401.out 1; have hfz85_2 := blk_frozen BK401.out 2; have hfz85_3 := blk_frozen BK401.out 3; have hfz85_4 := blk_frozen BK401.out 4; have hcz86_0 : w84.cell? ⟨gb392, 0, none⟩ = some (.int .i64 0) := bc BK392 0; have hcz86_1 : w84.cell? ⟨gb392, 1, none⟩ = some (.int .i64 0) := bc BK392 1; have hcz86_2 : w84.cell? ⟨gb392, 2, none⟩ = some (.int .i64 0) := bc BK392 2; have hcz86_3 : w84.cell? ⟨gb392, 3, none⟩ = some (.slice none 0 0) := bc BK392 3; have hcz86_4 : w84.cell? ⟨gb392, 4, none⟩ = some (.bool false) := bc BK392 4; have hfz86_0 := blk_frozen BK392.out 0; have hfz86_1 := blk_frozen BK392.out 1; have hfz86_2 := blk_frozen BK392.out 2; have hfz86_3 := blk_frozen BK392.out 3; have hfz86_4 := blk_frozen BK392.out 4))
   refine bodyPost_ret (results_ct rfl _ _ gb392 25 #[.int .i64 t394, .int .i64 t395, .int .i64 t396, .slice Ao81 t397.length co81, .bool t400] (0, 0) _ rfl (kP BK392.out) Try.underlying25 rfl (by kernel_rfl)) rfl ?_
   exact ⟨_, by first | rfl | (simp [errW_none, errW_some] <;> rfl) | (simp [*, errW_none, errW_some] <;> rfl), by (with_reducible repeat (first | apply Kd.R_alloc | apply Kd.R_drewN | apply Kd.R_drew)); exact frM (Kd.R_types HO399.out BK392.out (by decide)), by repeat (first | (with_reducible first | exact HB.out | apply below_alloc | apply pw_below_drewN | apply below_drew1 | refine below_set ?_ GE390.out | refine below_set ?_ GE391.out | refine below_set ?_ GE392.out | refine below_set ?_ GE401.out) | exact HB.out)⟩
 ·replace c4 := Bool.eq_false_iff.mpr c4
  subst c4
  have H1 : (some (0, 0, 0, ([] : List ByteArray), false, false)) = some (r1, r2, r3, r4, r5, r6) := by rw [if_neg (show ¬ (false = true) by decide)] at H; exact H
  clear H
  have H := H1
  clear H1
  simp only [Option.some.injEq, Prod.mk.injEq] at H
  obtain ⟨rfl, rfl, rfl, rfl, rfl, rfl⟩ := H
  go_enter Try.func17, Try.ntmps17
  go_wp2_with (first | ((with_reducible refine gate_dst (N := 2) rfl ?_); refine box_event ?hg (N := 2) ?hd (cs := #[.int .i64 a0_0, .int .i64 a0_1, .int .i64 a0_2, .slice A0_3 l0_3.length c0_3, .bool a0_4]) (t := 25) ?hr ?_; (case hd => rfl); (case hg => rfl); (case hr => first | (go_simp; done) | (go_simp; rfl)); intro gb390 hg w87 hbox hb; have n0_ := m_ (below_step (bN HB.out) hb); have n1_ := m_ (hbox); have n2_ := m_ ((by rw [hg]; exact (below_size (bN HB.out)) : w.heap.size ≤ gb390)); have n3_ := m_ ((by rw [hg]; exact (below_size (bN HB.out)) : w.heap.size ≤ gb390)); clear HB; have HB := n0_; have BK390 := n1_; have GW390 := n2_; have GE390 := n3_; clear n0_ n1_ n2_ n3_; clear hb hbox hg) | ((with_reducible refine gate_dst (N := 3) rfl ?_); refine box_event ?hg (N := 3) ?hd (cs := #[.bool a1_0, .bool a1_1, .bool a1_2, .int .i64 a1_3, .int .i64 a1_4]) (t := 39) ?hr ?_; (case hd => rfl); (case hg => rfl); (case hr => first | (go_simp; done) | (go_simp; rfl)); intro gb391 hg w88 hbox hb; have n0_ := m_ (blk_below (kN BK390.out) hb); have n1_ := m_ (below_step (bN HB.out) hb); have n2_ := m_ (hbox); have n3_ := m_ ((by rw [hg]; exact (below_size (bN HB.out)) : w.heap.size ≤ gb391)); have n4_ := m_ ((by rw [hg]; exact (below_size (bN HB.out)) : w.heap.size ≤ gb391)); have n5_ := m_ (nL hg BK390.out); have n6_ := m_ (nG hg BK390.out); clear BK390; clear HB; have BK390 := n0_; have HB := n1_; have BK391 := n2_; have GW391 := n3_; have GE391 := n4_; have NB390_391 := n5_; have NB391_390 := n6_; clear n0_ n1_ n2_ n3_ n4_ n5_ n6_; clear hb hbox hg) | ((with_reducible refine gate_dst (N := 4) rfl ?_); refine box_event ?hg (N := 4) ?hd (cs := #[.int .i64 0, .int .i64 0, .int .i64 0, .slice none 0 0, .bool false]) (t := 25) ?hr ?_; (case hd => rfl); (case hg => rfl); (case hr => first | (go_simp; done) | (go_simp; rfl)); intro gb392 hg w89 hbox hb; have n0_ := m_ (blk_below (kN BK390.out) hb); have n1_ := m_ (blk_below (kN BK391.out) hb); have n2_ := m_ (below_step (bN HB.out) hb); have n3_ := m_ (hbox); have n4_ := m_ ((by rw [hg]; exact (below_size (bN HB.out)) : w.heap.size ≤ gb392)); have n5_ := m_ ((by rw [hg]; exact (below_size (bN HB.out)) : w.heap.size ≤ gb392)); have n6_ := m_ (nL hg BK390.out); have n7_ := m_ (nG hg BK390.out); have n8_ := m_ (nL hg BK391.out); have n9_ := m_ (nG hg BK391.out); clear BK390; clear BK391; clear HB; have BK390 := n0_; have BK391 := n1_; have HB := n2_; have BK392 := n3_; have GW392 := n4_; have GE392 := n5_; have NB390_392 := n6_; have NB392_390 := n7_; have NB391_392 := n8_; have NB392_391 := n9_; clear n0_ n1_ n2_ n3_ n4_ n5_ n6_ n7_ n8_ n9_; clear hb hbox hg; have hnb90 := NB390_391.out; have hnc90 := NB391_390.out; have hnb91 := NB390_392.out; have hnc91 := NB392_390.out; have hcz92_0 : w89.cell? ⟨gb390, 0, none⟩ = some (.int .i64 a0_0) := bc BK390 0; have hcz92_1 : w89.cell? ⟨gb390, 1, none⟩ = some (.int .i64 a0_1) := bc BK390 1; have hcz92_2 : w89.cell? ⟨gb390, 2, none⟩ = some (.int .i64 a0_2) := bc BK390 2; have hcz92_3 : w89.cell? ⟨gb390, 3, none⟩ = some (.slice A0_3 l0_3.length c0_3) := bc BK390 3; have hcz92_4 : w89.cell? ⟨gb390, 4, none⟩ = some (.bool a0_4) := bc BK390 4; have hfz92_0 := blk_frozen BK390.out 0; have hfz92_1 := blk_frozen BK390.out 1; have hfz92_2 := blk_frozen BK390.out 2; have hfz92_3 := blk_frozen BK390.out 3; have hfz92_4 := blk_frozen BK390.out 4) | ((with_reducible refine gate_callee (f := 13) rfl ?_); refine goesL_ (some 9) rfl rfl Try.func13 (by kernel_rfl) rfl #[.agg #[.int .i64 a0_0, .int .i64 a0_1, .int .i64 a0_2, .slice A0_3 l0_3.length c0_3, .bool a0_4]] rfl gl_ ?_; (with_reducible refine (spec_FopOk.calls k a0_0 a0_1 a0_2 _ _ l0_3 a0_4 false _ ?side1 ?side2 A3.out).mono ?_); (case side1 => exact cN (Kd.C_below HR0_3.out HB.out)); (case side2 => exact HC0_3.out); rintro e w93 ⟨rfl, hb⟩; refine ⟨_, rfl, ?_⟩; have n0_ := m_ (blk_below (kN BK390.out) hb); have n1_ := m_ (blk_below (kN BK391.out) hb); have n2_ := m_ (blk_below (kN BK392.out) hb); have n3_ := m_ (below_step (bN HB.out) hb); clear BK390; clear BK391; clear BK392; clear HB; have BK390 := n0_; have BK391 := n1_; have BK392 := n2_; have HB := n3_; clear n0_ n1_ n2_ n3_; (try clear hb); (try clear hb2); (try clear hk); (try clear hi); have hnb94 := NB392_391.out; have hnc94 := NB391_392.out; have hcz95_0 : w93.cell? ⟨gb392, 0, none⟩ = some (.int .i64 0) := bc BK392 0; have hcz95_1 : w93.cell? ⟨gb392, 1, none⟩ = some (.int .i64 0) := bc BK392 1; have hcz95_2 : w93.cell? ⟨gb392, 2, none⟩ = some (.int .i64 0) := bc BK392 2; have hcz95_3 : w93.cell? ⟨gb392, 3, none⟩ = some (.slice none 0 0) := bc BK392 3; have hcz95_4 : w93.cell? ⟨gb392, 4, none⟩ = some (.bool false) := bc BK392 4; have hfz95_0 := blk_frozen BK392.out 0; have hfz95_1 := blk_frozen BK392.out 1; have hfz95_2 := blk_frozen BK392.out 2; have hfz95_3 := blk_frozen BK392.out 3; have hfz95_4 := blk_frozen BK392.out 4))
  refine bodyPost_ret (results_ct rfl _ _ gb392 25 #[.int .i64 0, .int .i64 0, .int .i64 0, .slice none 0 0, .bool false] (0, 0) _ rfl (kP BK392.out) Try.underlying25 rfl (by kernel_rfl)) rfl ?_
  exact ⟨_, by first | rfl | (simp [errW_none, errW_some] <;> rfl) | (simp [*, errW_none, errW_some] <;> rfl), by first | exact Kd.R_nil _ _ _ _ _ | exact Kd.N_nil _ _ _ _ _ | exact Kd.V_nil _ _ _ _ _ | exact Kd.Q_nil _ _ _ _ _ | exact Kd.S_nil _ _ _ _ _, by repeat (first | (with_reducible first | exact HB.out | apply below_alloc | apply pw_below_drewN | apply below_drew1 | refine below_set ?_ GE390.out | refine below_set ?_ GE391.out | refine below_set ?_ GE392.out) | exact HB.out)⟩

end Go.Proofs.Ytnlhaiihbcdmoaa.P
