/- The machine side of these statements, function by function: what each Go function answers (as a Lean function), and that it does. Written by a program (mp.py) for this claim. -/
import Derived.Test.YtnlhaiihbcdmoaaPx0
import Derived.Test.YtnlhaiihbcdmoaaPx4
namespace Go.Proofs.Ytnlhaiihbcdmoaa.P
open Go.RowKit Go.Proofs.YtnlhaiihbcdmoaaW.PrintWords Go.Proofs.YtnlhaiihbcdmoaaW.PrintLast Go.Proofs.YtnlhaiihbcdmoaaW.PrintMore
attribute [local go_sem] max2_int min2_int max_two min_two max_three min_three max_four min_four   -- for this text's walks alone
set_option linter.unusedVariables false
set_option linter.unusedSimpArgs false

/-! ### impl_fopCopy: function 35 -/
def impl_fopCopy.f (a0_0 : Int) (a0_1 : Int) (a0_2 : Int) (l0_3 : List ByteArray) (a0_4 : Bool) : Option (Int × Int × Int × List ByteArray × Bool) := (slices_Clone_string_string.f l0_3).bind fun t208 => (some (a0_0, a0_1, a0_2, t208, a0_4))
set_option maxHeartbeats 8000000 in
set_option maxRecDepth 100000 in
theorem impl_fopCopy.calls (a0_0 : Int) (a0_1 : Int) (a0_2 : Int) (A0_3 : Option Addr) (c0_3 : Nat) (l0_3 : List ByteArray) (a0_4 : Bool) (r1 : Int) (r2 : Int) (r3 : Int) (r4 : List ByteArray) (r5 : Bool) (w : World) (hr0_3 : Kd.C Kd.string w A0_3 l0_3.length l0_3) (hc0_3 : l0_3.length ≤ c0_3) (h : impl_fopCopy.f a0_0 a0_1 a0_2 l0_3 a0_4 = some (r1, r2, r3, r4, r5)) :
  Calls Try.prog 35 #[.agg #[.int .i64 a0_0, .int .i64 a0_1, .int .i64 a0_2, .slice A0_3 l0_3.length c0_3, .bool a0_4]] w fun e w' => ∃ v3_ : Value, e = .returned (.agg #[.int .i64 r1, .int .i64 r2, .int .i64 r3, v3_, .bool r5]) ∧ Kd.R Kd.string 9 w' w.heap.size (fun _ => True) v3_ r4 ∧ Below w.heap.size w w' := by
 have hu25 := Try.underlying25
 have HR0_3 := Aside0.mk hr0_3
 have HC0_3 := Aside0.mk hc0_3
 clear hr0_3 hc0_3
 have HB := m_ (Below.refl w.heap.size w)
 have H : ((slices_Clone_string_string.f l0_3).bind fun t208 => (some (a0_0, a0_1, a0_2, t208, a0_4))) = some (r1, r2, r3, r4, r5) := h
 clear h
 replace H := Option.bind_eq_some_iff.mp H
 obtain ⟨t208, A20, H⟩ := H
 replace H : (some (a0_0, a0_1, a0_2, t208, a0_4)) = some (r1, r2, r3, r4, r5) := H
 have A2 := Aside0.mk A20
 clear A20
 simp only [Option.some.injEq, Prod.mk.injEq] at H
 obtain ⟨rfl, rfl, rfl, rfl, rfl⟩ := H
 go_enter Try.func35, Try.ntmps35
 go_wp2_with (first | ((with_reducible refine gate_dst (N := 1) rfl ?_); refine box_event ?hg (N := 1) ?hd (cs := #[.int .i64 a0_0, .int .i64 a0_1, .int .i64 a0_2, .slice A0_3 l0_3.length c0_3, .bool a0_4]) (t := 25) ?hr ?_; (case hd => rfl); (case hg => rfl); (case hr => first | (go_simp; done) | (go_simp; rfl)); intro gb206 hg w3 hbox hb; have n0_ := m_ (below_step (bN HB.out) hb); have n1_ := m_ (hbox); have n2_ := m_ ((by rw [hg]; exact (below_size (bN HB.out)) : w.heap.size ≤ gb206)); have n3_ := m_ ((by rw [hg]; exact (below_size (bN HB.out)) : w.heap.size ≤ gb206)); clear HB; have HB := n0_; have BK206 := n1_; have GW206 := n2_; have GE206 := n3_; clear n0_ n1_ n2_ n3_; clear hb hbox hg) | ((with_reducible refine gate_dst (N := 2) rfl ?_); refine box_event ?hg (N := 2) ?hd (cs := #[.int .i64 0, .int .i64 0, .int .i64 0, .slice none 0 0, .bool false]) (t := 25) ?hr ?_; (case hd => rfl); (case hg => rfl); (case hr => first | (go_simp; done) | (go_simp; rfl)); intro gb207 hg w4 hbox hb; have n0_ := m_ (blk_below (kN BK206.out) hb); have n1_ := m_ (below_step (bN HB.out) hb); have n2_ := m_ (hbox); have n3_ := m_ ((by rw [hg]; exact (below_size (bN HB.out)) : w.heap.size ≤ gb207)); have n4_ := m_ ((by rw [hg]; exact (below_size (bN HB.out)) : w.heap.size ≤ gb207)); have n5_ := m_ (nL hg BK206.out); have n6_ := m_ (nG hg BK206.out); clear BK206; clear HB; have BK206 := n0_; have HB := n1_; have BK207 := n2_; have GW207 := n3_; have GE207 := n4_; have NB206_207 := n5_; have NB207_206 := n6_; clear n0_ n1_ n2_ n3_ n4_ n5_ n6_; clear hb hbox hg; have hnb5 := NB206_207.out; have hnc5 := NB207_206.out; have hcz6_0 : w4.cell? ⟨gb206, 0, none⟩ = some (.int .i64 a0_0) := bc BK206 0; have hcz6_1 : w4.cell? ⟨gb206, 1, none⟩ = some (.int .i64 a0_1) := bc BK206 1; have hcz6_2 : w4.cell? ⟨gb206, 2, none⟩ = some (.int .i64 a0_2) := bc BK206 2; have hcz6_3 : w4.cell? ⟨gb206, 3, none⟩ = some (.slice A0_3 l0_3.length c0_3) := bc BK206 3; have hcz6_4 : w4.cell? ⟨gb206, 4, none⟩ = some (.bool a0_4) := bc BK206 4; have hfz6_0 := blk_frozen BK206.out 0; have hfz6_1 := blk_frozen BK206.out 1; have hfz6_2 := blk_frozen BK206.out 2; have hfz6_3 := blk_frozen BK206.out 3; have hfz6_4 := blk_frozen BK206.out 4) | ((with_reducible refine gate_callee (f := 60) rfl ?_); refine goesL_ (some 5) rfl rfl Try.func60 (by kernel_rfl) rfl #[.slice A0_3 l0_3.length c0_3] rfl gl_ ?_; (with_reducible refine (slices_Clone_string_string.calls _ _ l0_3 t208 _ ?side1 ?side2 A2.out).mono ?_); (case side1 => exact cN (Kd.C_below HR0_3.out HB.out)); (case side2 => exact HC0_3.out); rintro e w7 ⟨v209, rfl, ho0, hb⟩; refine ⟨_, rfl, ?_⟩; have n0_ := m_ (Kd.R_lower ho0 (below_size (bN HB.out))); have n1_ := m_ (blk_below (kN BK206.out) hb); have n2_ := m_ (blk_below (kN BK207.out) hb); have n3_ := m_ (below_step (bN HB.out) hb); clear BK206; clear BK207; clear HB; have HO210 := n0_; have BK206 := n1_; have BK207 := n2_; have HB := n3_; clear n0_ n1_ n2_ n3_; (try clear hb); (try clear hb2); (try clear hk); (try clear hi); (try clear ho0); obtain ⟨Ao8, co8, eo8⟩ := Kd.R_slice HO210.out; subst eo8; have hcz9_0 : w7.cell? ⟨gb206, 0, none⟩ = some (.int .i64 a0_0) := bc BK206 0; have hcz9_1 : w7.cell? ⟨gb206, 1, none⟩ = some (.int .i64 a0_1) := bc BK206 1; have hcz9_2 : w7.cell? ⟨gb206, 2, none⟩ = some (.int .i64 a0_2) := bc BK206 2; have hcz9_3 : w7.cell? ⟨gb206, 3, none⟩ = some (.slice A0_3 l0_3.length c0_3) := bc BK206 3; have hcz9_4 : w7.cell? ⟨gb206, 4, none⟩ = some (.bool a0_4) := bc BK206 4; have hfz9_0 := blk_frozen BK206.out 0; have hfz9_1 := blk_frozen BK206.out 1; have hfz9_2 := blk_frozen BK206.out 2; have hfz9_3 := blk_frozen BK206.out 3; have hfz9_4 := blk_frozen BK206.out 4; have hcz10_0 : w7.cell? ⟨gb207, 0, none⟩ = some (.int .i64 0) := bc BK207 0; have hcz10_1 : w7.cell? ⟨gb207, 1, none⟩ = some (.int .i64 0) := bc BK207 1; have hcz10_2 : w7.cell? ⟨gb207, 2, none⟩ = some (.int .i64 0) := bc BK207 2; have hcz10_3 : w7.cell? ⟨gb207, 3, none⟩ = some (.slice none 0 0) := bc BK207 3; have hcz10_4 : w7.cell? ⟨gb207, 4, none⟩ = some (.bool false) := bc BK207 4; have hfz10_0 := blk_frozen BK207.out 0; have hfz10_1 := blk_frozen BK207.out 1; have hfz10_2 := blk_frozen BK207.out 2; have hfz10_3 := blk_frozen BK207.out 3; have hfz10_4 := blk_frozen BK207.out 4))
 refine bodyPost_ret (results_cell_row rfl _ _ gb207 25 #[.int .i64 a0_0, .int .i64 a0_1, .int .i64 a0_2, .slice Ao8 t208.length co8, .bool a0_4] (0, 0) _ rfl (kR BK207.out NB207_206.out) Try.underlying25 rfl (by kernel_rfl)) rfl ?_
 exact ⟨_, by first | rfl | (simp [errW_none, errW_some] <;> rfl) | (simp [*, errW_none, errW_some] <;> rfl), by (with_reducible repeat (first | apply Kd.R_alloc | apply Kd.R_drewN | apply Kd.R_drew)); exact frM (Kd.R_types (Kd.R_types HO210.out BK206.out (by decide)) BK207.out (by decide)), by repeat (first | (with_reducible first | exact HB.out | apply below_alloc | apply pw_below_drewN | apply below_drew1 | refine below_set ?_ GE206.out | refine below_set ?_ GE207.out) | exact HB.out)⟩

/-! ### impl_goesRound_plus: function 38 -/
def impl_goesRound_plus.f (a0 : Int) (a1 : Int) : Option (Int) := some (Int.tmod (wrap64 ((wrap64 (a0 + (Int.tmod a1 256))) + 256)) 256)
set_option maxHeartbeats 8000000 in
set_option maxRecDepth 100000 in
theorem impl_goesRound_plus.calls (a0 : Int) (a1 : Int) (r : Int) (w : World) (h : impl_goesRound_plus.f a0 a1 = some r) :
  Calls Try.prog 38 #[.int .i64 a0, .int .i64 a1] w fun e w' => e = .returned (.int .i64 r) ∧ Drawn0 w w' := by
 have H : (some (Int.tmod (wrap64 ((wrap64 (a0 + (Int.tmod a1 256))) + 256)) 256)) = some r := h
 clear h
 obtain rfl := Option.some.inj H
 go_enter Try.func38, Try.ntmps38
 go_wp2
 go_ret
 exact ⟨by first | rfl | (simp; done) | (simp [*]; done), by repeat (first | exact Drawn0.refl _ | apply Drawn0.step)⟩

/-! ### spec_l1In: function 40 -/
def spec_l1In.f (a0 : Int) (a1 : Int) (a2 : Int) : Option (Bool) := if a0 ≥ a1 then (some (decide (a0 ≤ a2))) else (some false)
set_option maxHeartbeats 8000000 in
set_option maxRecDepth 100000 in
theorem spec_l1In.calls (a0 : Int) (a1 : Int) (a2 : Int) (r : Bool) (w : World) (h : spec_l1In.f a0 a1 a2 = some r) :
  Calls Try.prog 40 #[.int .i64 a0, .int .i64 a1, .int .i64 a2] w fun e w' => e = .returned (.bool r) ∧ Drawn0 w w' := by
 have H : (if a0 ≥ a1 then (some (decide (a0 ≤ a2))) else (some false)) = some r := h
 clear h
 by_cases c4 : a0 ≥ a1
 ·rw [if_pos c4] at H
  have c4b0 : decide (a1 ≤ a0) = true := decide_eq_true c4
  clear c4
  obtain rfl := Option.some.inj H
  go_enter Try.func40, Try.ntmps40
  go_wp2
  go_ret
  exact ⟨by first | rfl | (simp; done) | (simp [*]; done), by repeat (first | exact Drawn0.refl _ | apply Drawn0.step)⟩
 ·rw [if_neg c4] at H
  have c4b0 : decide (a1 ≤ a0) = false := decide_eq_false c4
  clear c4
  obtain rfl := Option.some.inj H
  go_enter Try.func40, Try.ntmps40
  go_wp2
  go_ret
  exact ⟨by first | rfl | (simp; done) | (simp [*]; done), by repeat (first | exact Drawn0.refl _ | apply Drawn0.step)⟩

/-! ### spec_FopOk: function 13 -/
def spec_FopOk.l0 : Nat → Int → Int → Int → Int → List ByteArray → Bool → Option (Bool)
 | 0, _, _, _, _, _, _ => none
 | k + 1, x3, x214000, x214001, x214002, x214003, x214004 => if x3 < (x214003.length : Int) then (if 0 ≤ x3 then ((spec_l1In.f ((rdOf ByteArray.empty x214003 x3).size : Int) 1 53).bind fun t215 => (if t215 = true then (spec_FopOk.l0 k (wrap64 (x3 + 1)) x214000 x214001 x214002 x214003 x214004) else (some false))) else (none)) else ((spec_l1In.f x214000 0 1023).bind fun t216 => (if t216 = true then ((spec_l1In.f x214001 0 63).bind fun t217 => (if t217 = true then ((spec_l1In.f x214002 0 255).bind fun t218 => (if t218 = true then (some (decide ((x214003.length : Int) ≤ 4))) else (some false))) else (some false))) else (some false)))
def spec_FopOk.f (k : Nat) (a0_0 : Int) (a0_1 : Int) (a0_2 : Int) (l0_3 : List ByteArray) (a0_4 : Bool) : Option (Bool) := spec_FopOk.l0 k 0 a0_0 a0_1 a0_2 l0_3 a0_4
theorem spec_FopOk.mono_l : ∀ k, (∀ y0 y1 y2 y3 y4 y5, LeO (spec_FopOk.l0 k y0 y1 y2 y3 y4 y5) (spec_FopOk.l0 (k + 1) y0 y1 y2 y3 y4 y5))
 | 0 => fun _ _ _ _ _ _ r h => by simp [spec_FopOk.l0] at h
 | k + 1 => by
  have ih0 := spec_FopOk.mono_l k
  ·intro y0 y1 y2 y3 y4 y5
   unfold spec_FopOk.l0
   repeat' first
   | (with_reducible exact ih0 _ _ _ _ _ _)
   | (with_reducible exact LeO.refl _)
   | (with_reducible exact LeO.none _)
   | (with_reducible refine LeO.ite ?_ ?_)
   | (with_reducible refine LeO.bind ?_ (fun _ => ?_))
   | exact ih0 _ _ _ _ _ _
   | exact LeO.none _
   | refine LeO.ite ?_ ?_
   | refine LeO.bind ?_ (fun _ => ?_)
theorem spec_FopOk.mono : ∀ a0 a1 a2 a3 a4 k, LeO (spec_FopOk.f k a0 a1 a2 a3 a4) (spec_FopOk.f (k + 1) a0 a1 a2 a3 a4) := by
 intro a0 a1 a2 a3 a4 k
 have ih0 := spec_FopOk.mono_l k
 unfold spec_FopOk.f
 repeat' first
   | (with_reducible exact ih0 _ _ _ _ _ _)
   | (with_reducible exact LeO.refl _)
   | (with_reducible exact LeO.none _)
   | (with_reducible refine LeO.ite ?_ ?_)
   | (with_reducible refine LeO.bind ?_ (fun _ => ?_))
   | exact ih0 _ _ _ _ _ _
   | exact LeO.none _
   | refine LeO.ite ?_ ?_
   | refine LeO.bind ?_ (fun _ => ?_)
set_option maxHeartbeats 8000000 in
set_option maxRecDepth 100000 in
theorem spec_FopOk.calls (k : Nat) (a0_0 : Int) (a0_1 : Int) (a0_2 : Int) (A0_3 : Option Addr) (c0_3 : Nat) (l0_3 : List ByteArray) (a0_4 : Bool) (r : Bool) (w : World) (hr0_3 : Kd.C Kd.string w A0_3 l0_3.length l0_3) (hc0_3 : l0_3.length ≤ c0_3) (h : spec_FopOk.f k a0_0 a0_1 a0_2 l0_3 a0_4 = some r) :
  Calls Try.prog 13 #[.agg #[.int .i64 a0_0, .int .i64 a0_1, .int .i64 a0_2, .slice A0_3 l0_3.length c0_3, .bool a0_4]] w fun e w' => e = .returned (.bool r) ∧ Below w.heap.size w w' := by
 have hu25 := Try.underlying25
 have HR0_3 := Aside0.mk hr0_3
 have HC0_3 := Aside0.mk hc0_3
 clear hr0_3 hc0_3
 have HB := m_ (Below.refl w.heap.size w)
 have H : (spec_FopOk.l0 k 0 a0_0 a0_1 a0_2 l0_3 a0_4) = some r := h
 clear h
 have H' := Aside0.mk H
 clear H
 go_enter Try.func13, Try.ntmps13
 go_wp2_with (first | ((with_reducible refine gate_dst (N := 1) rfl ?_); (try (refine gate_guard (by rfl) ?_; dsimp only)); refine box_event ?hg (N := 1) ?hd (cs := #[.int .i64 a0_0, .int .i64 a0_1, .int .i64 a0_2, .slice A0_3 l0_3.length c0_3, .bool a0_4]) (t := 25) ?hr ?_; (case hd => rfl); (case hg => rfl); (case hr => first | (go_simp; done) | (go_simp; rfl)); intro gb213 hg w2 hbox hb; have n0_ := m_ (below_step (bN HB.out) hb); have n1_ := m_ (hbox); have n2_ := m_ ((by rw [hg]; exact (below_size (bN HB.out)) : w.heap.size ≤ gb213)); have n3_ := m_ ((by rw [hg]; exact (below_size (bN HB.out)) : w.heap.size ≤ gb213)); clear HB; have HB := n0_; have BK213 := n1_; have GW213 := n2_; have GE213 := n3_; clear n0_ n1_ n2_ n3_; clear hb hbox hg))
 go_loopg [3] k (fun kq v3 w' => ∃ (x3_1 : Int), v3 = .int .i64 x3_1 ∧ Aside0 (spec_FopOk.l0 kq x3_1 a0_0 a0_1 a0_2 l0_3 a0_4 = some r) ∧ Aside0 (kq ≤ k) ∧ Aside0 (w'.heap[gb213]? = some (.cells #[.int .i64 a0_0, .int .i64 a0_1, .int .i64 a0_2, (.slice A0_3 l0_3.length c0_3), .bool a0_4] 25 (0, 0))) ∧ Aside0 (Below w.heap.size w w'))
 case atStart => exact ⟨(0), (by first | rfl | (simp; done) | (simp [*]; done)), H', ⟨Nat.le_refl _⟩, ⟨kN BK213.out⟩, ⟨by repeat (first | (with_reducible first | exact HB.out | apply below_alloc | apply pw_below_drewN | apply below_drew1 | refine below_set ?_ GE213.out) | exact HB.out)⟩⟩
 case round =>
  clear H'
  try clear c1
  try clear p2
  obtain ⟨x3_1, rfl, HA, HK1, BK213, HB⟩ := hrel
  cases gk with
  | zero => exact absurd HA.out (by simp [spec_FopOk.l0])
  | succ k1 =>
   have H := HA.out
   clear HA
   simp only [spec_FopOk.l0] at H
   by_cases c3 : x3_1 < (l0_3.length : Int)
   ·rw [if_pos c3] at H
    have c3b0 : decide (x3_1 < (l0_3.length : Int)) = true := decide_eq_true c3
    clear c3
    by_cases c4 : 0 ≤ x3_1
    ·rw [if_pos c4] at H
     have c4b0 : decide (0 ≤ x3_1) = true := decide_eq_true c4
     clear c4
     replace H := Option.bind_eq_some_iff.mp H
     obtain ⟨t215, A50, H⟩ := H
     replace H : (if t215 = true then (spec_FopOk.l0 k1 (wrap64 (x3_1 + 1)) a0_0 a0_1 a0_2 l0_3 a0_4) else (some false)) = some r := H
     have A5 := Aside0.mk A50
     clear A50
     by_cases c6 : t215 = true
     ·subst c6
      have H1 : (spec_FopOk.l0 k1 (wrap64 (x3_1 + 1)) a0_0 a0_1 a0_2 l0_3 a0_4) = some r := by rw [if_pos rfl] at H; exact H
      clear H
      have H := H1
      clear H1
      have H' := Aside0.mk H
      clear H
      have hcz7_0 : wr.cell? ⟨gb213, 0, none⟩ = some (.int .i64 a0_0) := bc BK213 0
      have hcz7_1 : wr.cell? ⟨gb213, 1, none⟩ = some (.int .i64 a0_1) := bc BK213 1
      have hcz7_2 : wr.cell? ⟨gb213, 2, none⟩ = some (.int .i64 a0_2) := bc BK213 2
      have hcz7_3 : wr.cell? ⟨gb213, 3, none⟩ = some (.slice A0_3 l0_3.length c0_3) := bc BK213 3
      have hcz7_4 : wr.cell? ⟨gb213, 4, none⟩ = some (.bool a0_4) := bc BK213 4
      have hfz7_0 := blk_frozen BK213.out 0
      have hfz7_1 := blk_frozen BK213.out 1
      have hfz7_2 := blk_frozen BK213.out 2
      have hfz7_3 := blk_frozen BK213.out 3
      have hfz7_4 := blk_frozen BK213.out 4
      have p214 : 0 ≤ (x3_1 : Int) := of_decide_eq_true (by first | (with_reducible assumption) | assumption)
      have q214 : x3_1 < (l0_3.length : Int) := of_decide_eq_true (by first | (with_reducible assumption) | assumption)
      obtain ⟨ad214, e214, hx214_0⟩ := Kd.at_string HR0_3.out x3_1 p214 q214
      cases e214
      replace hx214_0 := (HB.out.cell (World.block_lt_of_cell? w _ hx214_0)).trans hx214_0
      replace p214 := eq_true p214
      replace q214 := eq_true q214
      go_wp2_with (first | ((with_reducible refine gate_callee (f := 40) rfl ?_); refine goesL_ (some 17) rfl rfl Try.func40 (by kernel_rfl) rfl #[.int .i64 ((rdOf ByteArray.empty l0_3 x3_1).size : Int), .int .i64 1, .int .i64 53] rfl gl_ ?_; (with_reducible refine (spec_l1In.calls ((rdOf ByteArray.empty l0_3 x3_1).size : Int) 1 53 true _ A5.out).mono ?_); rintro e w' ⟨rfl, ⟨nd, rfl⟩⟩; refine ⟨_, rfl, ?_⟩))
      go_roundg k1
      case measure => have := HK1.out; omega
      case rel => exact ⟨(wrap64 (x3_1 + 1)), (by first | rfl | (simp; done) | (simp [*]; done)), H', ⟨by have := HK1.out; omega⟩, ⟨kN BK213.out⟩, ⟨by repeat (first | (with_reducible first | exact HB.out | apply below_alloc | apply pw_below_drewN | apply below_drew1 | refine below_set ?_ GE213.out) | exact HB.out)⟩⟩
     ·replace c6 := Bool.eq_false_iff.mpr c6
      subst c6
      have H1 : (some false) = some r := by rw [if_neg (show ¬ (false = true) by decide)] at H; exact H
      clear H
      have H := H1
      clear H1
      obtain rfl := Option.some.inj H
      have hcz8_0 : wr.cell? ⟨gb213, 0, none⟩ = some (.int .i64 a0_0) := bc BK213 0
      have hcz8_1 : wr.cell? ⟨gb213, 1, none⟩ = some (.int .i64 a0_1) := bc BK213 1
      have hcz8_2 : wr.cell? ⟨gb213, 2, none⟩ = some (.int .i64 a0_2) := bc BK213 2
      have hcz8_3 : wr.cell? ⟨gb213, 3, none⟩ = some (.slice A0_3 l0_3.length c0_3) := bc BK213 3
      have hcz8_4 : wr.cell? ⟨gb213, 4, none⟩ = some (.bool a0_4) := bc BK213 4
      have hfz8_0 := blk_frozen BK213.out 0
      have hfz8_1 := blk_frozen BK213.out 1
      have hfz8_2 := blk_frozen BK213.out 2
      have hfz8_3 := blk_frozen BK213.out 3
      have hfz8_4 := blk_frozen BK213.out 4
      have p214 : 0 ≤ (x3_1 : Int) := of_decide_eq_true (by first | (with_reducible assumption) | assumption)
      have q214 : x3_1 < (l0_3.length : Int) := of_decide_eq_true (by first | (with_reducible assumption) | assumption)
      obtain ⟨ad214, e214, hx214_0⟩ := Kd.at_string HR0_3.out x3_1 p214 q214
      cases e214
      replace hx214_0 := (HB.out.cell (World.block_lt_of_cell? w _ hx214_0)).trans hx214_0
      replace p214 := eq_true p214
      replace q214 := eq_true q214
      go_wp2_with (first | ((with_reducible refine gate_callee (f := 40) rfl ?_); refine goesL_ (some 17) rfl rfl Try.func40 (by kernel_rfl) rfl #[.int .i64 ((rdOf ByteArray.empty l0_3 x3_1).size : Int), .int .i64 1, .int .i64 53] rfl gl_ ?_; (with_reducible refine (spec_l1In.calls ((rdOf ByteArray.empty l0_3 x3_1).size : Int) 1 53 false _ A5.out).mono ?_); rintro e w' ⟨rfl, ⟨nd, rfl⟩⟩; refine ⟨_, rfl, ?_⟩))
      go_ret
      exact ⟨by first | rfl | (simp [errW_none, errW_some] <;> rfl) | (simp [*, errW_none, errW_some] <;> rfl), by repeat (first | (with_reducible first | exact HB.out | apply below_alloc | apply pw_below_drewN | apply below_drew1 | refine below_set ?_ GE213.out) | exact HB.out)⟩
    ·rw [if_neg c4] at H
     exact absurd H (by simp)
   ·rw [if_neg c3] at H
    have c3b0 : decide (x3_1 < (l0_3.length : Int)) = false := decide_eq_false c3
    clear c3
    replace H := Option.bind_eq_some_iff.mp H
    obtain ⟨t216, A90, H⟩ := H
    replace H : (if t216 = true then ((spec_l1In.f a0_1 0 63).bind fun t217 => (if t217 = true then ((spec_l1In.f a0_2 0 255).bind fun t218 => (if t218 = true then (some (decide ((l0_3.length : Int) ≤ 4))) else (some false))) else (some false))) else (some false)) = some r := H
    have A9 := Aside0.mk A90
    clear A90
    by_cases c10 : t216 = true
    ·subst c10
     have H1 : ((spec_l1In.f a0_1 0 63).bind fun t217 => (if t217 = true then ((spec_l1In.f a0_2 0 255).bind fun t218 => (if t218 = true then (some (decide ((l0_3.length : Int) ≤ 4))) else (some false))) else (some false))) = some r := by rw [if_pos rfl] at H; exact H
     clear H
     have H := H1
     clear H1
     replace H := Option.bind_eq_some_iff.mp H
     obtain ⟨t217, A110, H⟩ := H
     replace H : (if t217 = true then ((spec_l1In.f a0_2 0 255).bind fun t218 => (if t218 = true then (some (decide ((l0_3.length : Int) ≤ 4))) else (some false))) else (some false)) = some r := H
     have A11 := Aside0.mk A110
     clear A110
     by_cases c12 : t217 = true
     ·subst c12
      have H1 : ((spec_l1In.f a0_2 0 255).bind fun t218 => (if t218 = true then (some (decide ((l0_3.length : Int) ≤ 4))) else (some false))) = some r := by rw [if_pos rfl] at H; exact H
      clear H
      have H := H1
      clear H1
      replace H := Option.bind_eq_some_iff.mp H
      obtain ⟨t218, A130, H⟩ := H
      replace H : (if t218 = true then (some (decide ((l0_3.length : Int) ≤ 4))) else (some false)) = some r := H
      have A13 := Aside0.mk A130
      clear A130
      by_cases c14 : t218 = true
      ·subst c14
       have H1 : (some (decide ((l0_3.length : Int) ≤ 4))) = some r := by rw [if_pos rfl] at H; exact H
       clear H
       have H := H1
       clear H1
       obtain rfl := Option.some.inj H
       have hcz15_0 : wr.cell? ⟨gb213, 0, none⟩ = some (.int .i64 a0_0) := bc BK213 0
       have hcz15_1 : wr.cell? ⟨gb213, 1, none⟩ = some (.int .i64 a0_1) := bc BK213 1
       have hcz15_2 : wr.cell? ⟨gb213, 2, none⟩ = some (.int .i64 a0_2) := bc BK213 2
       have hcz15_3 : wr.cell? ⟨gb213, 3, none⟩ = some (.slice A0_3 l0_3.length c0_3) := bc BK213 3
       have hcz15_4 : wr.cell? ⟨gb213, 4, none⟩ = some (.bool a0_4) := bc BK213 4
       have hfz15_0 := blk_frozen BK213.out 0
       have hfz15_1 := blk_frozen BK213.out 1
       have hfz15_2 := blk_frozen BK213.out 2
       have hfz15_3 := blk_frozen BK213.out 3
       have hfz15_4 := blk_frozen BK213.out 4
       go_wp2_with (first | ((with_reducible refine gate_callee (f := 40) rfl ?_); refine goesL_ (some 21) rfl rfl Try.func40 (by kernel_rfl) rfl #[.int .i64 a0_0, .int .i64 0, .int .i64 1023] rfl gl_ ?_; (with_reducible refine (spec_l1In.calls a0_0 0 1023 true _ A9.out).mono ?_); rintro e w' ⟨rfl, ⟨nd, rfl⟩⟩; refine ⟨_, rfl, ?_⟩) | (go_at_call 40; (with_reducible refine (spec_l1In.calls a0_1 0 63 true _ A11.out).mono ?_); rintro e w' ⟨rfl, ⟨nd, rfl⟩⟩) | (go_at_call 40; (with_reducible refine (spec_l1In.calls a0_2 0 255 true _ A13.out).mono ?_); rintro e w' ⟨rfl, ⟨nd, rfl⟩⟩))
       go_ret
       exact ⟨by first | rfl | (simp [errW_none, errW_some] <;> rfl) | (simp [*, errW_none, errW_some] <;> rfl), by repeat (first | (with_reducible first | exact HB.out | apply below_alloc | apply pw_below_drewN | apply below_drew1 | refine below_set ?_ GE213.out) | exact HB.out)⟩
      ·replace c14 := Bool.eq_false_iff.mpr c14
       subst c14
       have H1 : (some false) = some r := by rw [if_neg (show ¬ (false = true) by decide)] at H; exact H
       clear H
       have H := H1
       clear H1
       obtain rfl := Option.some.inj H
       have hcz16_0 : wr.cell? ⟨gb213, 0, none⟩ = some (.int .i64 a0_0) := bc BK213 0
       have hcz16_1 : wr.cell? ⟨gb213, 1, none⟩ = some (.int .i64 a0_1) := bc BK213 1
       have hcz16_2 : wr.cell? ⟨gb213, 2, none⟩ = some (.int .i64 a0_2) := bc BK213 2
       have hcz16_3 : wr.cell? ⟨gb213, 3, none⟩ = some (.slice A0_3 l0_3.length c0_3) := bc BK213 3
       have hcz16_4 : wr.cell? ⟨gb213, 4, none⟩ = some (.bool a0_4) := bc BK213 4
       have hfz16_0 := blk_frozen BK213.out 0
       have hfz16_1 := blk_frozen BK213.out 1
       have hfz16_2 := blk_frozen BK213.out 2
       have hfz16_3 := blk_frozen BK213.out 3
       have hfz16_4 := blk_frozen BK213.out 4
       go_wp2_with (first | ((with_reducible refine gate_callee (f := 40) rfl ?_); refine goesL_ (some 21) rfl rfl Try.func40 (by kernel_rfl) rfl #[.int .i64 a0_0, .int .i64 0, .int .i64 1023] rfl gl_ ?_; (with_reducible refine (spec_l1In.calls a0_0 0 1023 true _ A9.out).mono ?_); rintro e w' ⟨rfl, ⟨nd, rfl⟩⟩; refine ⟨_, rfl, ?_⟩) | (go_at_call 40; (with_reducible refine (spec_l1In.calls a0_1 0 63 true _ A11.out).mono ?_); rintro e w' ⟨rfl, ⟨nd, rfl⟩⟩) | (go_at_call 40; (with_reducible refine (spec_l1In.calls a0_2 0 255 false _ A13.out).mono ?_); rintro e w' ⟨rfl, ⟨nd, rfl⟩⟩))
       go_ret
       exact ⟨by first | rfl | (simp [errW_none, errW_some] <;> rfl) | (simp [*, errW_none, errW_some] <;> rfl), by repeat (first | (with_reducible first | exact HB.out | apply below_alloc | apply pw_below_drewN | apply below_drew1 | refine below_set ?_ GE213.out) | exact HB.out)⟩
     ·replace c12 := Bool.eq_false_iff.mpr c12
      subst c12
      have H1 : (some false) = some r := by rw [if_neg (show ¬ (false = true) by decide)] at H; exact H
      clear H
      have H := H1
      clear H1
      obtain rfl := Option.some.inj H
      have hcz17_0 : wr.cell? ⟨gb213, 0, none⟩ = some (.int .i64 a0_0) := bc BK213 0
      have hcz17_1 : wr.cell? ⟨gb213, 1, none⟩ = some (.int .i64 a0_1) := bc BK213 1
      have hcz17_2 : wr.cell? ⟨gb213, 2, none⟩ = some (.int .i64 a0_2) := bc BK213 2
      have hcz17_3 : wr.cell? ⟨gb213, 3, none⟩ = some (.slice A0_3 l0_3.length c0_3) := bc BK213 3
      have hcz17_4 : wr.cell? ⟨gb213, 4, none⟩ = some (.bool a0_4) := bc BK213 4
      have hfz17_0 := blk_frozen BK213.out 0
      have hfz17_1 := blk_frozen BK213.out 1
      have hfz17_2 := blk_frozen BK213.out 2
      have hfz17_3 := blk_frozen BK213.out 3
      have hfz17_4 := blk_frozen BK213.out 4
      go_wp2_with (first | ((with_reducible refine gate_callee (f := 40) rfl ?_); refine goesL_ (some 21) rfl rfl Try.func40 (by kernel_rfl) rfl #[.int .i64 a0_0, .int .i64 0, .int .i64 1023] rfl gl_ ?_; (with_reducible refine (spec_l1In.calls a0_0 0 1023 true _ A9.out).mono ?_); rintro e w' ⟨rfl, ⟨nd, rfl⟩⟩; refine ⟨_, rfl, ?_⟩) | (go_at_call 40; (with_reducible refine (spec_l1In.calls a0_1 0 63 false _ A11.out).mono ?_); rintro e w' ⟨rfl, ⟨nd, rfl⟩⟩))
      go_ret
      exact ⟨by first | rfl | (simp [errW_none, errW_some] <;> rfl) | (simp [*, errW_none, errW_some] <;> rfl), by repeat (first | (with_reducible first | exact HB.out | apply below_alloc | apply pw_below_drewN | apply below_drew1 | refine below_set ?_ GE213.out) | exact HB.out)⟩
    ·replace c10 := Bool.eq_false_iff.mpr c10
     subst c10
     have H1 : (some false) = some r := by rw [if_neg (show ¬ (false = true) by decide)] at H; exact H
     clear H
     have H := H1
     clear H1
     obtain rfl := Option.some.inj H
     have hcz18_0 : wr.cell? ⟨gb213, 0, none⟩ = some (.int .i64 a0_0) := bc BK213 0
     have hcz18_1 : wr.cell? ⟨gb213, 1, none⟩ = some (.int .i64 a0_1) := bc BK213 1
     have hcz18_2 : wr.cell? ⟨gb213, 2, none⟩ = some (.int .i64 a0_2) := bc BK213 2
     have hcz18_3 : wr.cell? ⟨gb213, 3, none⟩ = some (.slice A0_3 l0_3.length c0_3) := bc BK213 3
     have hcz18_4 : wr.cell? ⟨gb213, 4, none⟩ = some (.bool a0_4) := bc BK213 4
     have hfz18_0 := blk_frozen BK213.out 0
     have hfz18_1 := blk_frozen BK213.out 1
     have hfz18_2 := blk_frozen BK213.out 2
     have hfz18_3 := blk_frozen BK213.out 3
     have hfz18_4 := blk_frozen BK213.out 4
     go_wp2_with (first | ((with_reducible refine gate_callee (f := 40) rfl ?_); refine goesL_ (some 21) rfl rfl Try.func40 (by kernel_rfl) rfl #[.int .i64 a0_0, .int .i64 0, .int .i64 1023] rfl gl_ ?_; (with_reducible refine (spec_l1In.calls a0_0 0 1023 false _ A9.out).mono ?_); rintro e w' ⟨rfl, ⟨nd, rfl⟩⟩; refine ⟨_, rfl, ?_⟩))
     go_ret
     exact ⟨by first | rfl | (simp [errW_none, errW_some] <;> rfl) | (simp [*, errW_none, errW_some] <;> rfl), by repeat (first | (with_reducible first | exact HB.out | apply below_alloc | apply pw_below_drewN | apply below_drew1 | refine below_set ?_ GE213.out) | exact HB.out)⟩

/-! ### spec_l5Copy: function 39 -/
def spec_l5Copy.f (a0_0 : Int) (a0_1 : Int) (a0_2 : Int) (l0_3 : List ByteArray) (a0_4 : Bool) : Option (Int × Int × Int × List ByteArray × Bool) := (some (([] : List ByteArray) : List ByteArray)).bind fun y221 => (if y221.length + l0_3.length < 8796093022208 then (some (a0_0, a0_1, a0_2, (y221 ++ l0_3), a0_4)) else (none))
set_option maxHeartbeats 8000000 in
set_option maxRecDepth 100000 in
theorem spec_l5Copy.calls (a0_0 : Int) (a0_1 : Int) (a0_2 : Int) (A0_3 : Option Addr) (c0_3 : Nat) (l0_3 : List ByteArray) (a0_4 : Bool) (r1 : Int) (r2 : Int) (r3 : Int) (r4 : List ByteArray) (r5 : Bool) (w : World) (hr0_3 : Kd.C Kd.string w A0_3 l0_3.length l0_3) (hc0_3 : l0_3.length ≤ c0_3) (h : spec_l5Copy.f a0_0 a0_1 a0_2 l0_3 a0_4 = some (r1, r2, r3, r4, r5)) :
  Calls Try.prog 39 #[.agg #[.int .i64 a0_0, .int .i64 a0_1, .int .i64 a0_2, .slice A0_3 l0_3.length c0_3, .bool a0_4]] w fun e w' => ∃ v3_ : Value, e = .returned (.agg #[.int .i64 r1, .int .i64 r2, .int .i64 r3, v3_, .bool r5]) ∧ Kd.R Kd.string 9 w' w.heap.size (fun _ => True) v3_ r4 ∧ Below w.heap.size w w' := by
 have hu25 := Try.underlying25
 have HR0_3 := Aside0.mk hr0_3
 have HC0_3 := Aside0.mk hc0_3
 clear hr0_3 hc0_3
 have HB := m_ (Below.refl w.heap.size w)
 have H : ((some (([] : List ByteArray) : List ByteArray)).bind fun y221 => (if y221.length + l0_3.length < 8796093022208 then (some (a0_0, a0_1, a0_2, (y221 ++ l0_3), a0_4)) else (none))) = some (r1, r2, r3, r4, r5) := h
 clear h
 obtain ⟨y221, hy221⟩ : ∃ y_ : List ByteArray, y_ = (([] : List ByteArray)) := ⟨_, rfl⟩
 replace H : (if y221.length + l0_3.length < 8796093022208 then (some (a0_0, a0_1, a0_2, (y221 ++ l0_3), a0_4)) else (none)) = some (r1, r2, r3, r4, r5) := by first | (rw [hy221]; with_reducible exact H) | (have H2_ := (Option.bind_some _ _).symm.trans H; rw [hy221]; with_reducible exact H2_) | (have H2_ := (Option.bind_some _ _).symm.trans H; with_reducible exact H2_) | with_reducible exact H | (rw [hy221]; exact H) | exact H
 have Ny221 := Aside0.mk hy221
 clear hy221
 by_cases c2 : y221.length + l0_3.length < 8796093022208
 ·rw [if_pos c2] at H
  have LMc2 := Aside0.mk c2
  clear c2
  obtain ⟨y224, hy224⟩ : ∃ y_ : List ByteArray, y_ = (y221 ++ l0_3) := ⟨_, rfl⟩
  replace H : (some (a0_0, a0_1, a0_2, y224, a0_4)) = some (r1, r2, r3, r4, r5) := by first | (rw [hy224]; with_reducible exact H) | (have H2_ := (Option.bind_some _ _).symm.trans H; rw [hy224]; with_reducible exact H2_) | (have H2_ := (Option.bind_some _ _).symm.trans H; with_reducible exact H2_) | with_reducible exact H | (rw [hy224]; exact H) | exact H
  have Ny224 := Aside0.mk hy224
  clear hy224
  simp only [Option.some.injEq, Prod.mk.injEq] at H
  obtain ⟨rfl, rfl, rfl, rfl, rfl⟩ := H
  go_enter Try.func39, Try.ntmps39
  go_wp2_with (first | ((with_reducible refine gate_dst (N := 1) rfl ?_); refine box_event ?hg (N := 1) ?hd (cs := #[.int .i64 a0_0, .int .i64 a0_1, .int .i64 a0_2, .slice A0_3 l0_3.length c0_3, .bool a0_4]) (t := 25) ?hr ?_; (case hd => rfl); (case hg => rfl); (case hr => first | (go_simp; done) | (go_simp; rfl)); intro gb219 hg w3 hbox hb; have n0_ := m_ (below_step (bN HB.out) hb); have n1_ := m_ (hbox); have n2_ := m_ ((by rw [hg]; exact (below_size (bN HB.out)) : w.heap.size ≤ gb219)); have n3_ := m_ ((by rw [hg]; exact (below_size (bN HB.out)) : w.heap.size ≤ gb219)); clear HB; have HB := n0_; have BK219 := n1_; have GW219 := n2_; have GE219 := n3_; clear n0_ n1_ n2_ n3_; clear hb hbox hg) | ((with_reducible refine gate_dst (N := 2) rfl ?_); refine box_event ?hg (N := 2) ?hd (cs := #[.int .i64 0, .int .i64 0, .int .i64 0, .slice none 0 0, .bool false]) (t := 25) ?hr ?_; (case hd => rfl); (case hg => rfl); (case hr => first | (go_simp; done) | (go_simp; rfl)); intro gb220 hg w4 hbox hb; have n0_ := m_ (blk_below (kN BK219.out) hb); have n1_ := m_ (below_step (bN HB.out) hb); have n2_ := m_ (hbox); have n3_ := m_ ((by rw [hg]; exact (below_size (bN HB.out)) : w.heap.size ≤ gb220)); have n4_ := m_ ((by rw [hg]; exact (below_size (bN HB.out)) : w.heap.size ≤ gb220)); have n5_ := m_ (nL hg BK219.out); have n6_ := m_ (nG hg BK219.out); clear BK219; clear HB; have BK219 := n0_; have HB := n1_; have BK220 := n2_; have GW220 := n3_; have GE220 := n4_; have NB219_220 := n5_; have NB220_219 := n6_; clear n0_ n1_ n2_ n3_ n4_ n5_ n6_; clear hb hbox hg) | ((with_reducible refine gate_dst (N := 3) rfl ?_); refine Kd.R_lit Kd.string _ 9 ?hg (N := 3) ?hd (xs := ([] : List ByteArray)) (inner := []) (ok := fun _ => True) (okp := fun _ => True) ?hr ?hp (fun _ hk => hk) trivial (Below.refl _ _) (Nat.le_refl _) (by simp) ?_; (case hd => rfl); (case hg => rfl); (case hr => first | (go_simp; done) | (go_simp; rfl)); (case hp => exact (Reps.none _ _)); intro v222 w5 ho6 hb hg_ hnew_; clear hg_ hnew_; (first | rw [← Ny221.out] at ho6 | (simp only [Int.reduceToNat] at ho6; rw [← Ny221.out] at ho6)); have n0_ := m_ (Kd.R_lower ho6 (below_size (bN HB.out))); have n1_ := m_ (blk_below (kN BK219.out) hb); have n2_ := m_ (blk_below (kN BK220.out) hb); have n3_ := m_ (below_step (bN HB.out) hb); clear BK219; clear BK220; clear HB; have HO223 := n0_; have BK219 := n1_; have BK220 := n2_; have HB := n3_; clear n0_ n1_ n2_ n3_; clear hb ho6; have hnb7 := NB219_220.out; have hnc7 := NB220_219.out; have hcz8_0 : w5.cell? ⟨gb219, 0, none⟩ = some (.int .i64 a0_0) := bc BK219 0; have hcz8_1 : w5.cell? ⟨gb219, 1, none⟩ = some (.int .i64 a0_1) := bc BK219 1; have hcz8_2 : w5.cell? ⟨gb219, 2, none⟩ = some (.int .i64 a0_2) := bc BK219 2; have hcz8_3 : w5.cell? ⟨gb219, 3, none⟩ = some (.slice A0_3 l0_3.length c0_3) := bc BK219 3; have hcz8_4 : w5.cell? ⟨gb219, 4, none⟩ = some (.bool a0_4) := bc BK219 4; have hfz8_0 := blk_frozen BK219.out 0; have hfz8_1 := blk_frozen BK219.out 1; have hfz8_2 := blk_frozen BK219.out 2; have hfz8_3 := blk_frozen BK219.out 3; have hfz8_4 := blk_frozen BK219.out 4) | ((with_reducible refine gate_builtin (b := .append) (xs := #[.tmp 3, .tmp 5]) rfl ?_); at_builtin; refine Kd.R_append_rows Kd.string (w0 := w) w.heap.size rfl (.tmp 3) (.tmp 5) 23 9 (.string ⟨#[]⟩) 16 rfl Try.underlying23 info9 rfl (by decide) (by omega) v222 y221 l0_3 _ _ _ (fun _ => True) (fun _ => False) rfl rfl ?aO ?aR (fun _ _ h => h) (fun _ h => h.elim) ?aF ?aB ?aS ?aL ?_; (case aR => exact cN (Kd.C_below HR0_3.out HB.out)); (case aB => exact (bN HB.out)); (case aF => exact (fun _ _ => trivial)); (case aO => exact (rN HO223.out)); (case aS => exact (below_size (bN HB.out))); (case aL => have := LMc2.out; omega); intro v225 w9 ho hb hg hat; rw [← Ny224.out] at ho; have n0_ := m_ (blk_grown (g := gb219) (o := .cells #[.int .i64 a0_0, .int .i64 a0_1, .int .i64 a0_2, .slice A0_3 l0_3.length c0_3, .bool a0_4] 25 (0, 0)) (kN BK219.out) hg (Kd.R_ne HO223.out BK219.out (by decide))); have n1_ := m_ (blk_grown (g := gb220) (o := .cells #[.int .i64 0, .int .i64 0, .int .i64 0, .slice none 0 0, .bool false] 25 (0, 0)) (kN BK220.out) hg (Kd.R_ne HO223.out BK220.out (by decide))); have n2_ := m_ (hb); have n3_ := m_ (ho); clear BK219; clear BK220; clear HB; clear HO223; have BK219 := n0_; have BK220 := n1_; have HB := n2_; have HO226 := n3_; clear n0_ n1_ n2_ n3_; clear ho hb hg hat; obtain ⟨Ao10, co10, eo10⟩ := Kd.R_slice HO226.out; subst eo10; have hcz11_0 : w9.cell? ⟨gb219, 0, none⟩ = some (.int .i64 a0_0) := bc BK219 0; have hcz11_1 : w9.cell? ⟨gb219, 1, none⟩ = some (.int .i64 a0_1) := bc BK219 1; have hcz11_2 : w9.cell? ⟨gb219, 2, none⟩ = some (.int .i64 a0_2) := bc BK219 2; have hcz11_3 : w9.cell? ⟨gb219, 3, none⟩ = some (.slice A0_3 l0_3.length c0_3) := bc BK219 3; have hcz11_4 : w9.cell? ⟨gb219, 4, none⟩ = some (.bool a0_4) := bc BK219 4; have hfz11_0 := blk_frozen BK219.out 0; have hfz11_1 := blk_frozen BK219.out 1; have hfz11_2 := blk_frozen BK219.out 2; have hfz11_3 := blk_frozen BK219.out 3; have hfz11_4 := blk_frozen BK219.out 4; have hcz12_0 : w9.cell? ⟨gb220, 0, none⟩ = some (.int .i64 0) := bc BK220 0; have hcz12_1 : w9.cell? ⟨gb220, 1, none⟩ = some (.int .i64 0) := bc BK220 1; have hcz12_2 : w9.cell? ⟨gb220, 2, none⟩ = some (.int .i64 0) := bc BK220 2; have hcz12_3 : w9.cell? ⟨gb220, 3, none⟩ = some (.slice none 0 0) := bc BK220 3; have hcz12_4 : w9.cell? ⟨gb220, 4, none⟩ = some (.bool false) := bc BK220 4; have hfz12_0 := blk_frozen BK220.out 0; have hfz12_1 := blk_frozen BK220.out 1; have hfz12_2 := blk_frozen BK220.out 2; have hfz12_3 := blk_frozen BK220.out 3; have hfz12_4 := blk_frozen BK220.out 4))
  refine bodyPost_ret (results_cell_row rfl _ _ gb220 25 #[.int .i64 a0_0, .int .i64 a0_1, .int .i64 a0_2, .slice Ao10 y224.length co10, .bool a0_4] (0, 0) _ rfl (kR BK220.out NB220_219.out) Try.underlying25 rfl (by kernel_rfl)) rfl ?_
  exact ⟨_, by first | rfl | (simp [errW_none, errW_some] <;> rfl) | (simp [*, errW_none, errW_some] <;> rfl), by (with_reducible repeat (first | apply Kd.R_alloc | apply Kd.R_drewN | apply Kd.R_drew)); exact frM (Kd.R_types (Kd.R_types HO226.out BK219.out (by decide)) BK220.out (by decide)), by repeat (first | (with_reducible first | exact HB.out | apply below_alloc | apply pw_below_drewN | apply below_drew1 | refine below_set ?_ GE219.out | refine below_set ?_ GE220.out) | exact HB.out)⟩
 ·rw [if_neg c2] at H
  exact absurd H (by simp)

/-! ### spec_l4Mod: function 41 -/
def spec_l4Mod.f (a0 : Int) : Option (Int) := some (Int.tmod (wrap64 (a0 + 512)) 256)
set_option maxHeartbeats 8000000 in
set_option maxRecDepth 100000 in
theorem spec_l4Mod.calls (a0 : Int) (r : Int) (w : World) (h : spec_l4Mod.f a0 = some r) :
  Calls Try.prog 41 #[.int .i64 a0] w fun e w' => e = .returned (.int .i64 r) ∧ Drawn0 w w' := by
 have H : (some (Int.tmod (wrap64 (a0 + 512)) 256)) = some r := h
 clear h
 obtain rfl := Option.some.inj H
 go_enter Try.func41, Try.ntmps41
 go_wp2
 go_ret
 exact ⟨by first | rfl | (simp; done) | (simp [*]; done), by repeat (first | exact Drawn0.refl _ | apply Drawn0.step)⟩

end Go.Proofs.Ytnlhaiihbcdmoaa.P
