/- The machine side of these statements, function by function: what each Go function answers (as a Lean function), and that it does. Written by a program (mp.py) for this claim. -/
import Derived.Test.YtokpagopokkjfaaDoorPx0
import Derived.Test.YtokpagopokkjfaaDoorPx5
import Derived.Test.YtokpagopokkjfaaDoorPx6
namespace Go.Proofs.YtokpagopokkjfaaDoor.P
open Go.RowKit Go.Proofs.YtokpagopokkjfaaDoorW.PrintWords Go.Proofs.YtokpagopokkjfaaDoorW.PrintLast Go.Proofs.YtokpagopokkjfaaDoorW.PrintMore
attribute [local go_sem] max2_int min2_int max_two min_two max_three min_three max_four min_four   -- for this text's walks alone
set_option linter.unusedVariables false
set_option linter.unusedSimpArgs false

/-! ### impl_queueCopy: function 38 -/
def impl_queueCopy.f (l0_0 : List ByteArray) (a0_1 : Int) : Option (List ByteArray × Int) := (slices_Clone_string_string.f l0_0).bind fun t264 => (some (t264, a0_1))
set_option maxHeartbeats 8000000 in
set_option maxRecDepth 100000 in
theorem impl_queueCopy.calls (A0_0 : Option Addr) (c0_0 : Nat) (l0_0 : List ByteArray) (a0_1 : Int) (r1 : List ByteArray) (r2 : Int) (w : World) (hr0_0 : Kd.C Kd.string w A0_0 l0_0.length l0_0) (hc0_0 : l0_0.length ≤ c0_0) (h : impl_queueCopy.f l0_0 a0_1 = some (r1, r2)) :
  Calls Tryd.prog 38 #[.agg #[.slice A0_0 l0_0.length c0_0, .int .i64 a0_1]] w fun e w' => ∃ v0_ : Value, e = .returned (.agg #[v0_, .int .i64 r2]) ∧ Kd.R Kd.string 9 w' w.heap.size (fun _ => True) v0_ r1 ∧ Below w.heap.size w w' := by
 have hu27 := Tryd.underlying27
 have HR0_0 := Aside0.mk hr0_0
 have HC0_0 := Aside0.mk hc0_0
 clear hr0_0 hc0_0
 have HB := m_ (Below.refl w.heap.size w)
 have H : ((slices_Clone_string_string.f l0_0).bind fun t264 => (some (t264, a0_1))) = some (r1, r2) := h
 clear h
 replace H := Option.bind_eq_some_iff.mp H
 obtain ⟨t264, A20, H⟩ := H
 replace H : (some (t264, a0_1)) = some (r1, r2) := H
 have A2 := Aside0.mk A20
 clear A20
 simp only [Option.some.injEq, Prod.mk.injEq] at H
 obtain ⟨rfl, rfl⟩ := H
 go_enter Tryd.func38, Tryd.ntmps38
 go_wp2_with (first | ((with_reducible refine gate_dst (N := 1) rfl ?_); refine box_event ?hg (N := 1) ?hd (cs := #[.slice A0_0 l0_0.length c0_0, .int .i64 a0_1]) (t := 27) ?hr ?_; (case hd => rfl); (case hg => rfl); (case hr => first | (go_simp; done) | (go_simp; rfl)); intro gb262 hg w3 hbox hb; have n0_ := m_ (below_step (bN HB.out) hb); have n1_ := m_ (hbox); have n2_ := m_ ((by rw [hg]; exact (below_size (bN HB.out)) : w.heap.size ≤ gb262)); have n3_ := m_ ((by rw [hg]; exact (below_size (bN HB.out)) : w.heap.size ≤ gb262)); clear HB; have HB := n0_; have BK262 := n1_; have GW262 := n2_; have GE262 := n3_; clear n0_ n1_ n2_ n3_; clear hb hbox hg) | ((with_reducible refine gate_dst (N := 2) rfl ?_); refine box_event ?hg (N := 2) ?hd (cs := #[.slice none 0 0, .int .i64 0]) (t := 27) ?hr ?_; (case hd => rfl); (case hg => rfl); (case hr => first | (go_simp; done) | (go_simp; rfl)); intro gb263 hg w4 hbox hb; have n0_ := m_ (blk_below (kN BK262.out) hb); have n1_ := m_ (below_step (bN HB.out) hb); have n2_ := m_ (hbox); have n3_ := m_ ((by rw [hg]; exact (below_size (bN HB.out)) : w.heap.size ≤ gb263)); have n4_ := m_ ((by rw [hg]; exact (below_size (bN HB.out)) : w.heap.size ≤ gb263)); have n5_ := m_ (nL hg BK262.out); have n6_ := m_ (nG hg BK262.out); clear BK262; clear HB; have BK262 := n0_; have HB := n1_; have BK263 := n2_; have GW263 := n3_; have GE263 := n4_; have NB262_263 := n5_; have NB263_262 := n6_; clear n0_ n1_ n2_ n3_ n4_ n5_ n6_; clear hb hbox hg; have hnb5 := NB262_263.out; have hnc5 := NB263_262.out; have hcz6_0 : w4.cell? ⟨gb262, 0, none⟩ = some (.slice A0_0 l0_0.length c0_0) := bc BK262 0; have hcz6_1 : w4.cell? ⟨gb262, 1, none⟩ = some (.int .i64 a0_1) := bc BK262 1; have hfz6_0 := blk_frozen BK262.out 0; have hfz6_1 := blk_frozen BK262.out 1) | ((with_reducible refine gate_callee (f := 66) rfl ?_); refine goesL_ (some 5) rfl rfl Tryd.func66 (by kernel_rfl) rfl #[.slice A0_0 l0_0.length c0_0] rfl gl_ ?_; (with_reducible refine (slices_Clone_string_string.calls _ _ l0_0 t264 _ ?side1 ?side2 A2.out).mono ?_); (case side1 => exact cN (Kd.C_below HR0_0.out HB.out)); (case side2 => exact HC0_0.out); rintro e w7 ⟨v265, rfl, ho0, hb⟩; refine ⟨_, rfl, ?_⟩; have n0_ := m_ (Kd.R_lower ho0 (below_size (bN HB.out))); have n1_ := m_ (blk_below (kN BK262.out) hb); have n2_ := m_ (blk_below (kN BK263.out) hb); have n3_ := m_ (below_step (bN HB.out) hb); clear BK262; clear BK263; clear HB; have HO266 := n0_; have BK262 := n1_; have BK263 := n2_; have HB := n3_; clear n0_ n1_ n2_ n3_; (try clear hb); (try clear hb2); (try clear hk); (try clear hi); (try clear ho0); obtain ⟨Ao8, co8, eo8⟩ := Kd.R_slice HO266.out; subst eo8; have hcz9_0 : w7.cell? ⟨gb262, 0, none⟩ = some (.slice A0_0 l0_0.length c0_0) := bc BK262 0; have hcz9_1 : w7.cell? ⟨gb262, 1, none⟩ = some (.int .i64 a0_1) := bc BK262 1; have hfz9_0 := blk_frozen BK262.out 0; have hfz9_1 := blk_frozen BK262.out 1; have hcz10_0 : w7.cell? ⟨gb263, 0, none⟩ = some (.slice none 0 0) := bc BK263 0; have hcz10_1 : w7.cell? ⟨gb263, 1, none⟩ = some (.int .i64 0) := bc BK263 1; have hfz10_0 := blk_frozen BK263.out 0; have hfz10_1 := blk_frozen BK263.out 1))
 refine bodyPost_ret (results_cell_row rfl _ _ gb263 27 #[.slice Ao8 t264.length co8, .int .i64 a0_1] (0, 0) _ rfl (kR BK263.out NB263_262.out) Tryd.underlying27 rfl (by kernel_rfl)) rfl ?_
 exact ⟨_, by first | rfl | (simp [errW_none, errW_some] <;> rfl) | (simp [*, errW_none, errW_some] <;> rfl), by (with_reducible repeat (first | apply Kd.R_alloc | apply Kd.R_drewN | apply Kd.R_drew)); exact frM (Kd.R_types (Kd.R_types HO266.out BK262.out (by decide)) BK263.out (by decide)), by repeat (first | (with_reducible first | exact HB.out | apply below_alloc | apply pw_below_drewN | apply below_drew1 | refine below_set ?_ GE262.out | refine below_set ?_ GE263.out) | exact HB.out)⟩

/-! ### impl_QueuePut: function 15 -/
theorem q_row {W : World} {g : Nat} {v0 v1 : Value} {t : Nat} (h : W.heap[g]? = some (.cells #[v0, v1] t (0, 0))) :
    (W.cell? ⟨g, 0, none⟩ = some v0 ∧ W.cell? ⟨g, 1, none⟩ = some v1) ∧ (W.frozen? ⟨g, 0, none⟩ = false ∧ W.frozen? ⟨g, 1, none⟩ = false) := by
  have c := fun j => cell_of_row W g j _ _ _ h
  have f := fun j => frozen_of_row W g j _ _ h
  exact ⟨⟨c 0, c 1⟩, f 0, f 1⟩
theorem q_set {W : World} {g : Nat} {c0 c1 : Value} {t : Nat} (h : W.heap[g]? = some (.cells #[c0, c1] t (0, 0))) (v0 v1 : Value) :
    ((W.setCell ⟨g, 0, none⟩ v0).setCell ⟨g, 1, none⟩ v1).heap[g]? = some (.cells #[v0, v1] t (0, 0)) := by
  have h4 := blk_set (blk_set h 0 v0) 1 v1
  simpa using h4
theorem q_set_below {B : Nat} {w W : World} {g : Nat} (h : Below B w W) (hg : B ≤ g) (v0 v1 : Value) : Below B w ((W.setCell ⟨g, 0, none⟩ v0).setCell ⟨g, 1, none⟩ v1) := (h.setCell hg _).setCell hg _
theorem q_set_R {α : Type} {d : Kd α} {e : Nat} {W : World} {base g : Nat} {v : Value} {xs : List α} {cs : Array Value} {t : Nat} (h : d.R e W base (fun _ => True) v xs) (hb : W.heap[g]? = some (.cells cs t (0, 0))) (ht : ∀ q, q ∈ e :: d.E → q ≠ t) (v0 v1 : Value) :
    d.R e ((W.setCell ⟨g, 0, none⟩ v0).setCell ⟨g, 1, none⟩ v1) base (fun _ => True) v xs :=
  Kd.R_mono (Kd.R_far (Kd.R_far (Kd.R_types h hb ht) (fun _ hk => hk.2) _) (fun _ hk => hk.2) _) (fun _ _ => trivial)
def impl_QueuePut.c (l0_0 : List ByteArray) (a0_1 : Int) : Option (List ByteArray × Int × Bool) := (impl_queueCopy.f l0_0 a0_1).bind fun c => some (c.1, c.2, false)
def impl_QueuePut.f (k : Nat) (l0_0 : List ByteArray) (a0_1 : Int) (a1 : ByteArray) : Option (List ByteArray × Int × Bool) :=
  (impl_QueueOk.f k l0_0 a0_1).bind fun o => if o = true then
    if l0_0.length ≤ 1000 then
      (impl_packetOnly.f k a1).bind fun p => if p.2.2.2.2 = true then (if (l0_0.length : Int) < 8 then some (l0_0 ++ [a1], a0_1, true) else impl_QueuePut.c l0_0 a0_1) else impl_QueuePut.c l0_0 a0_1
    else none
  else some ([], 0, false)
theorem impl_QueuePut.mono : ∀ a0 a1 a2 k, LeO (impl_QueuePut.f k a0 a1 a2) (impl_QueuePut.f (k + 1) a0 a1 a2) := by
  intro a0 a1 a2 k
  unfold impl_QueuePut.f
  repeat' first
  | (with_reducible exact impl_QueueOk.mono _ _ _)
  | (with_reducible exact impl_packetOnly.mono _ _)
  | (with_reducible exact LeO.refl _)
  | (with_reducible exact LeO.none _)
  | (with_reducible refine LeO.ite ?_ ?_)
  | (with_reducible refine LeO.bind ?_ (fun _ => ?_))
set_option maxHeartbeats 8000000 in
set_option maxRecDepth 100000 in
theorem impl_QueuePut.calls (k : Nat) (A0_0 : Option Addr) (c0_0 : Nat) (l0_0 : List ByteArray) (a0_1 : Int) (a1 : ByteArray) (r1 : List ByteArray) (r2 : Int) (r3 : Bool) (w : World) (hr0_0 : Kd.C Kd.string w A0_0 l0_0.length l0_0) (hc0_0 : l0_0.length ≤ c0_0) (h : impl_QueuePut.f k l0_0 a0_1 a1 = some (r1, r2, r3)) :
  Calls Tryd.prog 15 #[.agg #[.slice A0_0 l0_0.length c0_0, .int .i64 a0_1], .string a1] w fun e w' => ∃ v0_ : Value, e = .returned (.tuple #[.agg #[v0_, .int .i64 r2], .bool r3]) ∧ Kd.R Kd.string 9 w' w.heap.size (fun _ => True) v0_ r1 ∧ Below w.heap.size w w' := by
  have HH := h
  clear h
  unfold impl_QueuePut.f at HH
  have HR := Aside0.mk hr0_0
  have HC := Aside0.mk hc0_0
  clear hr0_0 hc0_0
  obtain ⟨o, A1, HH⟩ := Option.bind_eq_some_iff.mp HH
  replace A1 := Aside0.mk A1
  have F0 : Aside0 (((w.alloc (.cells #[.slice A0_0 l0_0.length c0_0, .int .i64 a0_1] 27)).alloc (.cells #[.slice none 0 0, .int .i64 0] 27)).heap[w.heap.size]? = some (.cells #[.slice A0_0 l0_0.length c0_0, .int .i64 a0_1] 27 (0, 0))) := ⟨blk_alloc (heap_alloc_new _ _) _⟩
  have Z0 : Aside0 (((w.alloc (.cells #[.slice A0_0 l0_0.length c0_0, .int .i64 a0_1] 27)).alloc (.cells #[.slice none 0 0, .int .i64 0] 27)).heap[w.heap.size + 1]? = some (.cells #[.slice none 0 0, .int .i64 0] 27 (0, 0))) := ⟨heap_alloc2_new _ _ _⟩
  have G0 : Aside0 (Below w.heap.size w ((w.alloc (.cells #[.slice A0_0 l0_0.length c0_0, .int .i64 a0_1] 27)).alloc (.cells #[.slice none 0 0, .int .i64 0] 27))) := ⟨((Below.refl _ _).alloc (Nat.le_refl _) _).alloc (by simp) _⟩
  go_enter Tryd.func15, Tryd.ntmps15
  go_wp2_with fail
  refine (impl_QueueOk.calls k A0_0 c0_0 l0_0 a0_1 _ _ (Kd.C_below HR.out G0.out) HC.out A1.out).mono ?_
  rintro e w1 ⟨rfl, B1⟩
  have F1 := Aside0.mk (blk_below F0.out B1)
  have Z1 := Aside0.mk (blk_below Z0.out B1)
  have G1 := Aside0.mk (below_then G0.out G0.out.size B1)
  clear F0 Z0 G0 B1
  obtain ⟨⟨c0, c1⟩, f0, f1⟩ := q_row F1.out
  obtain ⟨⟨z0, z1⟩, u0, u1⟩ := q_row Z1.out
  cases o with
  | false =>
    rw [if_neg (by simp)] at HH
    simp only [Option.some.injEq, Prod.mk.injEq] at HH
    obtain ⟨rfl, rfl, rfl⟩ := HH
    go_wp2_with fail
    refine bodyPost_ret (results_ct rfl _ _ (w.heap.size + 1) 27 #[.slice none 0 0, .int .i64 0] (0, 0) _ rfl (q_set Z1.out _ _) Tryd.underlying27 rfl (by kernel_rfl)) rfl ?_
    exact ⟨_, rfl, Kd.R_nil _ _ _ _ _, q_set_below G1.out (by omega) _ _⟩
  | true =>
    rw [if_pos rfl] at HH
    split at HH
    case isFalse => cases HH
    rename_i hl
    obtain ⟨p, A2, HH⟩ := Option.bind_eq_some_iff.mp HH
    obtain ⟨p1, p2, p3, p4, p5⟩ := p
    replace A2 := Aside0.mk A2
    have HHA := Aside0.mk HH
    clear HH
    go_wp2_with fail
    refine (line_of A0_0 c0_0 l0_0 _ (Kd.C_below HR.out G1.out) HC.out (by omega)).mono ?_
    rintro e w2 ⟨g, rfl, Q2, hg, B2⟩
    replace Q2 := Aside0.mk Q2
    have F2 := Aside0.mk (blk_below F1.out B2)
    have Z2 := Aside0.mk (blk_below Z1.out B2)
    have G2 := Aside0.mk (below_then G1.out G1.out.size B2)
    have L1 : Aside0 (w.heap.size + 1 < w1.heap.size) := ⟨blk_lt Z1.out⟩
    have L2 : Aside0 (w.heap.size + 1 < g) := ⟨Nat.lt_of_lt_of_le (blk_lt Z1.out) hg⟩
    have HL := Aside0.mk hl
    clear c0 c1 f0 f1 z0 z1 u0 u1
    clear F1 Z1 G1
    obtain ⟨⟨c0, c1⟩, f0, f1⟩ := q_row F2.out
    obtain ⟨⟨z0, z1⟩, u0, u1⟩ := q_row Z2.out
    have hg2 := Aside0.mk hg
    clear hg hl B2
    go_wp2_with fail
    refine (impl_packetOnly.calls k a1 _ _ _ _ _ _ A2.out).mono ?_
    rintro e w3 ⟨rfl, B3⟩
    have F3 := Aside0.mk (blk_below F2.out B3)
    have Z3 := Aside0.mk (blk_below Z2.out B3)
    have G3 := Aside0.mk (below_then G2.out G2.out.size B3)
    have Q3 := Aside0.mk (Q2.out.below B3)
    clear c0 c1 f0 f1 z0 z1 u0 u1
    clear F2 Z2 G2 Q2 B3
    have F4 := Aside0.mk (blk_alloc F3.out (.cells #[.bool p1, .int .i64 p2, .int .i64 p3, .string p4] 53))
    have Z4 := Aside0.mk (blk_alloc Z3.out (.cells #[.bool p1, .int .i64 p2, .int .i64 p3, .string p4] 53))
    have G4 := Aside0.mk (G3.out.alloc G3.out.size (.cells #[.bool p1, .int .i64 p2, .int .i64 p3, .string p4] 53))
    have Q4 := Aside0.mk (Q3.out.alloc (.cells #[.bool p1, .int .i64 p2, .int .i64 p3, .string p4] 53))
    have hz0 : w.heap.size < w3.heap.size := Nat.lt_trans (Nat.lt_succ_self _) (blk_lt Z3.out)
    have hz5 : w.heap.size + 1 < w3.heap.size := blk_lt Z3.out
    have hz1 : ¬ (w3.heap.size = w.heap.size) := by omega
    have hz2 : ¬ (w.heap.size = w3.heap.size) := by omega
    have hz3 : ¬ (w3.heap.size = w.heap.size + 1) := by omega
    have hz4 : ¬ (w.heap.size + 1 = w3.heap.size) := by omega
    obtain ⟨⟨c0, c1⟩, f0, f1⟩ := q_row F3.out
    obtain ⟨⟨z0, z1⟩, u0, u1⟩ := q_row Z3.out
    have HH := HHA.out
    clear HHA
    cases p5 with
    | false =>
      rw [if_neg (by simp)] at HH
      unfold impl_QueuePut.c at HH
      obtain ⟨⟨q1, q2⟩, AC, HH⟩ := Option.bind_eq_some_iff.mp HH
      simp only [Option.some.injEq, Prod.mk.injEq] at HH
      obtain ⟨rfl, rfl, rfl⟩ := HH
      go_wp2_with fail
      refine (impl_queueCopy.calls A0_0 c0_0 l0_0 a0_1 _ _ _ (Kd.C_below HR.out G4.out) HC.out AC).mono ?_
      rintro e w9 ⟨v9, rfl, O9, B9⟩
      obtain ⟨A9, c9, rfl⟩ := Kd.R_slice O9
      have F9 := Aside0.mk (blk_below F4.out B9)
      have Z9 := Aside0.mk (blk_below Z4.out B9)
      have G9 := Aside0.mk (below_then G4.out G4.out.size B9)
      have L9 := G4.out.size
      clear c0 c1 f0 f1 z0 z1 u0 u1
      obtain ⟨⟨c0, c1⟩, f0, f1⟩ := q_row F9.out
      obtain ⟨⟨z0, z1⟩, u0, u1⟩ := q_row Z9.out
      go_wp2_with fail
      refine bodyPost_ret (results_ct rfl _ _ (w.heap.size + 1) 27 #[.slice _ _ _, .int .i64 _] (0, 0) _ rfl (q_set Z9.out _ _) Tryd.underlying27 rfl (by kernel_rfl)) rfl ?_
      exact ⟨_, rfl, Kd.R_lower (q_set_R O9 Z9.out (by decide) _ _) L9, q_set_below G9.out (by omega) _ _⟩
    | true =>
      rw [if_pos rfl] at HH
      go_wp2_with fail
      refine (line_size g _ l0_0 _ Q4.out).mono ?_
      rintro e w5 ⟨rfl, rfl⟩
      by_cases h8 : (l0_0.length : Int) < 8
      rotate_left
      · skip
        rw [if_neg h8] at HH
        have d8 : decide (8 ≤ (l0_0.length : Int)) = true := decide_eq_true (by omega)
        unfold impl_QueuePut.c at HH
        obtain ⟨⟨q1, q2⟩, AC, HH⟩ := Option.bind_eq_some_iff.mp HH
        simp only [Option.some.injEq, Prod.mk.injEq] at HH
        obtain ⟨rfl, rfl, rfl⟩ := HH
        go_wp2_with fail
        refine (impl_queueCopy.calls A0_0 c0_0 l0_0 a0_1 _ _ _ (Kd.C_below HR.out G4.out) HC.out AC).mono ?_
        rintro e w9 ⟨v9, rfl, O9, B9⟩
        obtain ⟨A9, c9, rfl⟩ := Kd.R_slice O9
        have F9 := Aside0.mk (blk_below F4.out B9)
        have Z9 := Aside0.mk (blk_below Z4.out B9)
        have G9 := Aside0.mk (below_then G4.out G4.out.size B9)
        have L9 := G4.out.size
        clear c0 c1 f0 f1 z0 z1 u0 u1
        obtain ⟨⟨c0, c1⟩, f0, f1⟩ := q_row F9.out
        obtain ⟨⟨z0, z1⟩, u0, u1⟩ := q_row Z9.out
        go_wp2_with fail
        refine bodyPost_ret (results_ct rfl _ _ (w.heap.size + 1) 27 #[.slice _ _ _, .int .i64 _] (0, 0) _ rfl (q_set Z9.out _ _) Tryd.underlying27 rfl (by kernel_rfl)) rfl ?_
        exact ⟨_, rfl, Kd.R_lower (q_set_R O9 Z9.out (by decide) _ _) L9, q_set_below G9.out (by omega) _ _⟩
      · skip
        rw [if_pos h8] at HH
        have d8 : decide (8 ≤ (l0_0.length : Int)) = false := decide_eq_false (by omega)
        simp only [Option.some.injEq, Prod.mk.injEq] at HH
        obtain ⟨rfl, rfl, rfl⟩ := HH
        go_wp2_with fail
        refine (line_push g w1.heap.size l0_0 a1 _ Q4.out hg2.out (by have := HL.out; omega)).mono ?_
        rintro e w6 ⟨rfl, Q6, B6⟩
        have F6 := Aside0.mk ((B6.block w.heap.size (by have := L1.out; omega)).trans F4.out)
        have Z6 := Aside0.mk ((B6.block (w.heap.size + 1) (by have := L1.out; omega)).trans Z4.out)
        have G6 := Aside0.mk (G4.out.trans (B6.mono (by have := L1.out; omega)))
        replace Q6 := Aside0.mk Q6
        clear c0 c1 f0 f1 z0 z1 u0 u1
        clear F3 Z3 G3 Q3 F4 Z4 G4 Q4 B6
        go_wp2_with fail
        have F7 : Aside0 (w6.drew.heap[w.heap.size]? = some (.cells #[.slice A0_0 l0_0.length c0_0, .int .i64 a0_1] 27 (0, 0))) := F6
        have Z7 : Aside0 (w6.drew.heap[w.heap.size + 1]? = some (.cells #[.slice none 0 0, .int .i64 0] 27 (0, 0))) := Z6
        have G7 : Aside0 (Below w.heap.size w w6.drew) := ⟨G6.out.drew⟩
        have Q7 : Aside0 (LineAt w6.drew g w1.heap.size (l0_0 ++ [a1])) := ⟨Q6.out.below (Below.refl _ _).drew⟩
        obtain ⟨⟨c0, c1⟩, f0, f1⟩ := q_row F7.out
        obtain ⟨⟨z0, z1⟩, u0, u1⟩ := q_row Z7.out
        refine start_ (n := 7) (S := fun w' => w'.cell? ⟨w.heap.size, 1, none⟩ = some (.int .i64 a0_1)) (ds := [5]) #[false, false, false, false, false, false, false] (by kernel_rfl) rfl rfl (c1) (fun hHeld => ?_)
        generalize w6.drew = w7 at F7 Z7 G7 Q7 hHeld ⊢
        clear c0 c1 f0 f1 z0 z1 u0 u1
        clear F6 Z6 G6 Q6
        refine pure_ (i := 0) (N := some 33) (v := ?_) (a' := ?_) #[true, false, false, false, false, false, false] rfl rfl (by kernel_rfl) (fun _ _ _ h => h) (Or.inl ⟨by rfl, ?_⟩) ?_ ?_
        rotate_left
        · intro w'
          go_simp
          with_reducible rfl
        rotate_left
        · simp only [Act.put, List.setIfInBounds_toArray, List.set_cons_zero, List.set_cons_succ, i64_w, i32_w]
          rfl
        refine pure_ (i := 2) (N := some 35) (v := ?_) (a' := ?_) #[true, false, true, false, false, false, false] rfl rfl (by kernel_rfl) (fun _ _ _ h => h) (Or.inl ⟨by rfl, ?_⟩) ?_ ?_
        rotate_left
        · intro w'
          go_simp
          with_reducible rfl
        rotate_left
        · simp only [Act.put, List.setIfInBounds_toArray, List.set_cons_zero, List.set_cons_succ, i64_w, i32_w]
          rfl
        refine take_ (i := 3) (N := some 36) (v := ?_) (a' := ?_) #[true, false, true, true, false, false, false] rfl rfl (by kernel_rfl) (fun _ _ _ h => h) (Or.inl ⟨by rfl, ?_⟩) hHeld ?_ ?_
        rotate_left
        · intro w' s0
          go_simp
          with_reducible rfl
        rotate_left
        · simp only [Act.put, List.setIfInBounds_toArray, List.set_cons_zero, List.set_cons_succ, i64_w, i32_w]
          rfl
        refine one_ (i := 1) (N := some 34) #[true, true, true, true, false, false, false] rfl rfl (by kernel_rfl) (by decide) (fun K hK => ?_)
        refine goes_ Tryd.func40 (by kernel_rfl) rfl #[.pointer (some ⟨g, 0, none⟩)] (by rfl) rfl rfl gl_ ?_
        refine (line_list g w1.heap.size (l0_0 ++ [a1]) _ Q7.out (by have := HL.out; simp; omega)).mono ?_
        rintro e w8 ⟨v8, rfl, O8, B8⟩
        obtain ⟨A8, c8, rfl⟩ := Kd.R_slice O8
        simp only [List.length_append, List.length_cons, List.length_nil, Nat.zero_add] at O8
        have L8 := G7.out.size
        have F8 := Aside0.mk (blk_below F7.out B8)
        have Z8 := Aside0.mk (blk_below Z7.out B8)
        have G8 := Aside0.mk (below_then G7.out G7.out.size B8)
        clear F7 Z7 G7 Q7 B8
        refine ⟨_, rfl, ?_⟩
        obtain ⟨⟨c0, c1⟩, f0, f1⟩ := q_row F8.out
        obtain ⟨⟨z0, z1⟩, u0, u1⟩ := q_row Z8.out
        refine hK.out _ _ c1 (fun hHeld => ?_)
        clear hK K
        refine norm_ (a' := ?_) ?_ ?_
        rotate_left
        · show Act.put _ (some 34) _ = _
          simp only [Act.put, List.setIfInBounds_toArray, List.set_cons_zero, List.set_cons_succ, i64_w, i32_w]
          rfl
        refine pure_ (i := 4) (N := some 37) (v := ?_) (a' := ?_) #[true, true, true, true, true, false, false] rfl rfl (by kernel_rfl) (fun _ _ _ h => h) (Or.inl ⟨by rfl, ?_⟩) ?_ ?_
        rotate_left
        · intro w'
          go_simp
          with_reducible rfl
        rotate_left
        · simp only [Act.put, List.setIfInBounds_toArray, List.set_cons_zero, List.set_cons_succ, i64_w, i32_w]
          rfl
        refine last_ (i := 5) (N := none) #[true, true, true, true, true, true, false] rfl rfl (by kernel_rfl) (by decide) (fun K hK => ?_)
        refine skip_ (w1 := ?_) (by rfl) rfl ?_ ?_
        rotate_left
        · go_simp
          rfl
        refine hK.out _ _ ?_
        clear hK K
        refine pure_ (i := 6) (N := some 5) (v := ?_) (a' := ?_) #[true, true, true, true, true, true, true] rfl rfl (by kernel_rfl) (fun _ _ _ h => h) (Or.inl ⟨by rfl, ?_⟩) ?_ ?_
        rotate_left
        · intro w'
          go_simp
          with_reducible rfl
        rotate_left
        · simp only [Act.put, List.setIfInBounds_toArray, List.set_cons_zero, List.set_cons_succ, i64_w, i32_w]
          rfl
        refine done_ (by kernel_rfl) ?_
        go_wp2_with fail
        refine bodyPost_ret (results_ct rfl _ _ (w.heap.size + 1) 27 #[.slice _ _ _, .int .i64 _] (0, 0) _ rfl (q_set Z8.out _ _) Tryd.underlying27 rfl (by kernel_rfl)) rfl ?_
        exact ⟨_, rfl, Kd.R_lower (q_set_R O8 Z8.out (by decide) _ _) L8, q_set_below G8.out (by omega) _ _⟩

end Go.Proofs.YtokpagopokkjfaaDoor.P
