/- The machine side of these statements, function by function: what each Go function answers (as a Lean function), and that it does. Written by a program (mp.py) for this claim. -/
import Derived.Test.YtnlhaiihbcdmoaaPx0
import Derived.Test.YtnlhaiihbcdmoaaPx3
import Derived.Test.YtnlhaiihbcdmoaaPx4
import Derived.Test.YtnlhaiihbcdmoaaPx5
namespace Go.Proofs.Ytnlhaiihbcdmoaa.P
open Go.RowKit Go.Proofs.YtnlhaiihbcdmoaaW.PrintWords Go.Proofs.YtnlhaiihbcdmoaaW.PrintLast Go.Proofs.YtnlhaiihbcdmoaaW.PrintMore
attribute [local go_sem] max2_int min2_int max_two min_two max_three min_three max_four min_four   -- for this text's walks alone
set_option linter.unusedVariables false
set_option linter.unusedSimpArgs false

/-! ### impl_Fop_frame: function 36 -/
def impl_Fop_frame.f (a0_0 : Int) (a0_1 : Int) (a0_2 : Int) (l0_3 : List ByteArray) (a0_4 : Bool) (a1 : Int) (a2 : ByteArray) : Option (Bool × Bool × Int × Int × Int × ByteArray) := some (false, false, a0_0, a0_1, a1, a2)
set_option maxHeartbeats 8000000 in
set_option maxRecDepth 100000 in
theorem impl_Fop_frame.calls (a0_0 : Int) (a0_1 : Int) (a0_2 : Int) (A0_3 : Option Addr) (c0_3 : Nat) (l0_3 : List ByteArray) (a0_4 : Bool) (a1 : Int) (a2 : ByteArray) (r1 : Bool) (r2 : Bool) (r3 : Int) (r4 : Int) (r5 : Int) (r6 : ByteArray) (w : World) (hr0_3 : Kd.C Kd.string w A0_3 l0_3.length l0_3) (hc0_3 : l0_3.length ≤ c0_3) (h : impl_Fop_frame.f a0_0 a0_1 a0_2 l0_3 a0_4 a1 a2 = some (r1, r2, r3, r4, r5, r6)) :
  Calls Try.prog 36 #[.agg #[.int .i64 a0_0, .int .i64 a0_1, .int .i64 a0_2, .slice A0_3 l0_3.length c0_3, .bool a0_4], .int .i64 a1, .string a2] w fun e w' => e = .returned (.agg #[.bool r1, .bool r2, .int .i64 r3, .int .i64 r4, .int .i64 r5, .string r6]) ∧ Below w.heap.size w w' := by
 have hu25 := Try.underlying25
 have hu35 := Try.underlying35
 have HR0_3 := Aside0.mk hr0_3
 have HC0_3 := Aside0.mk hc0_3
 clear hr0_3 hc0_3
 have HB := m_ (Below.refl w.heap.size w)
 have H : (some (false, false, a0_0, a0_1, a1, a2)) = some (r1, r2, r3, r4, r5, r6) := h
 clear h
 simp only [Option.some.injEq, Prod.mk.injEq] at H
 obtain ⟨rfl, rfl, rfl, rfl, rfl, rfl⟩ := H
 go_enter Try.func36, Try.ntmps36
 go_wp2_with (first | ((with_reducible refine gate_dst (N := 3) rfl ?_); refine box_event ?hg (N := 3) ?hd (cs := #[.int .i64 a0_0, .int .i64 a0_1, .int .i64 a0_2, .slice A0_3 l0_3.length c0_3, .bool a0_4]) (t := 25) ?hr ?_; (case hd => rfl); (case hg => rfl); (case hr => first | (go_simp; done) | (go_simp; rfl)); intro gb211 hg w4 hbox hb; have n0_ := m_ (below_step (bN HB.out) hb); have n1_ := m_ (hbox); have n2_ := m_ ((by rw [hg]; exact (below_size (bN HB.out)) : w.heap.size ≤ gb211)); have n3_ := m_ ((by rw [hg]; exact (below_size (bN HB.out)) : w.heap.size ≤ gb211)); clear HB; have HB := n0_; have BK211 := n1_; have GW211 := n2_; have GE211 := n3_; clear n0_ n1_ n2_ n3_; clear hb hbox hg) | ((with_reducible refine gate_dst (N := 6) rfl ?_); refine box_event ?hg (N := 6) ?hd (cs := #[.bool false, .bool false, .int .i64 0, .int .i64 0, .int .i64 0, .string (⟨#[]⟩ : ByteArray)]) (t := 35) ?hr ?_; (case hd => rfl); (case hg => rfl); (case hr => first | (go_simp; done) | (go_simp; rfl)); intro gb212 hg w5 hbox hb; have n0_ := m_ (blk_below (kN BK211.out) hb); have n1_ := m_ (below_step (bN HB.out) hb); have n2_ := m_ (hbox); have n3_ := m_ ((by rw [hg]; exact (below_size (bN HB.out)) : w.heap.size ≤ gb212)); have n4_ := m_ ((by rw [hg]; exact (below_size (bN HB.out)) : w.heap.size ≤ gb212)); have n5_ := m_ (nL hg BK211.out); have n6_ := m_ (nG hg BK211.out); clear BK211; clear HB; have BK211 := n0_; have HB := n1_; have BK212 := n2_; have GW212 := n3_; have GE212 := n4_; have NB211_212 := n5_; have NB212_211 := n6_; clear n0_ n1_ n2_ n3_ n4_ n5_ n6_; clear hb hbox hg; have hnb6 := NB211_212.out; have hnc6 := NB212_211.out; have hcz7_0 : w5.cell? ⟨gb211, 0, none⟩ = some (.int .i64 a0_0) := bc BK211 0; have hcz7_1 : w5.cell? ⟨gb211, 1, none⟩ = some (.int .i64 a0_1) := bc BK211 1; have hcz7_2 : w5.cell? ⟨gb211, 2, none⟩ = some (.int .i64 a0_2) := bc BK211 2; have hcz7_3 : w5.cell? ⟨gb211, 3, none⟩ = some (.slice A0_3 l0_3.length c0_3) := bc BK211 3; have hcz7_4 : w5.cell? ⟨gb211, 4, none⟩ = some (.bool a0_4) := bc BK211 4; have hfz7_0 := blk_frozen BK211.out 0; have hfz7_1 := blk_frozen BK211.out 1; have hfz7_2 := blk_frozen BK211.out 2; have hfz7_3 := blk_frozen BK211.out 3; have hfz7_4 := blk_frozen BK211.out 4; have hcz8_0 : w5.cell? ⟨gb212, 0, none⟩ = some (.bool false) := bc BK212 0; have hcz8_1 : w5.cell? ⟨gb212, 1, none⟩ = some (.bool false) := bc BK212 1; have hcz8_2 : w5.cell? ⟨gb212, 2, none⟩ = some (.int .i64 0) := bc BK212 2; have hcz8_3 : w5.cell? ⟨gb212, 3, none⟩ = some (.int .i64 0) := bc BK212 3; have hcz8_4 : w5.cell? ⟨gb212, 4, none⟩ = some (.int .i64 0) := bc BK212 4; have hcz8_5 : w5.cell? ⟨gb212, 5, none⟩ = some (.string (⟨#[]⟩ : ByteArray)) := bc BK212 5; have hfz8_0 := blk_frozen BK212.out 0; have hfz8_1 := blk_frozen BK212.out 1; have hfz8_2 := blk_frozen BK212.out 2; have hfz8_3 := blk_frozen BK212.out 3; have hfz8_4 := blk_frozen BK212.out 4; have hfz8_5 := blk_frozen BK212.out 5))
 refine bodyPost_ret (results_cell_row rfl _ _ gb212 35 #[.bool false, .bool false, .int .i64 a0_0, .int .i64 a0_1, .int .i64 a1, .string a2] (0, 0) _ rfl (kP BK212.out) Try.underlying35 rfl (by kernel_rfl)) rfl ?_
 exact ⟨by first | rfl | (simp [errW_none, errW_some] <;> rfl) | (simp [*, errW_none, errW_some] <;> rfl), by repeat (first | (with_reducible first | exact HB.out | apply below_alloc | apply pw_below_drewN | apply below_drew1 | refine below_set ?_ GE211.out | refine below_set ?_ GE212.out) | exact HB.out)⟩

/-! ### impl_FopSend: function 8 -/
def impl_FopSend.c (a0_0 a0_1 a0_2 : Int) (l0_3 : List ByteArray) (a0_4 : Bool) : Option (Int × Int × Int × List ByteArray × Bool × List (S35)) :=
  (impl_fopCopy.f a0_0 a0_1 a0_2 l0_3 a0_4).bind fun c => some (c.1, c.2.1, c.2.2.1, c.2.2.2.1, c.2.2.2.2, [])
def impl_FopSend.f (k : Nat) (a0_0 a0_1 a0_2 : Int) (l0_3 : List ByteArray) (a0_4 : Bool) (a1 : ByteArray) : Option (Int × Int × Int × List ByteArray × Bool × List (S35)) :=
  (impl_FopOk.f k a0_0 a0_1 a0_2 l0_3 a0_4).bind fun o => if o = true then
    if l0_3.length ≤ 4 then
      if a0_4 = true then impl_FopSend.c a0_0 a0_1 a0_2 l0_3 a0_4
      else (impl_frameDataOk.f a1).bind fun b => if b = true then
        if l0_3.length = 4 then impl_FopSend.c a0_0 a0_1 a0_2 l0_3 a0_4
        else (impl_goesRound_plus.f a0_2 1).bind fun m => some (a0_0, a0_1, m, l0_3 ++ [a1], a0_4, [⟨false, false, a0_0, a0_1, a0_2, a1⟩])
      else impl_FopSend.c a0_0 a0_1 a0_2 l0_3 a0_4
    else none
  else some (0, 0, 0, [], false, [])
theorem impl_FopSend.mono : ∀ a0 a1 a2 a3 a4 a5 k, LeO (impl_FopSend.f k a0 a1 a2 a3 a4 a5) (impl_FopSend.f (k + 1) a0 a1 a2 a3 a4 a5) := by
  intro a0 a1 a2 a3 a4 a5 k
  unfold impl_FopSend.f
  repeat' first
  | (with_reducible exact impl_FopOk.mono _ _ _ _ _ _)
  | (with_reducible exact LeO.refl _)
  | (with_reducible exact LeO.none _)
  | (with_reducible refine LeO.ite ?_ ?_)
  | (with_reducible refine LeO.bind ?_ (fun _ => ?_))
set_option maxHeartbeats 8000000 in
set_option maxRecDepth 100000 in
theorem impl_FopSend.calls (k : Nat) (a0_0 : Int) (a0_1 : Int) (a0_2 : Int) (A0_3 : Option Addr) (c0_3 : Nat) (l0_3 : List ByteArray) (a0_4 : Bool) (a1 : ByteArray) (r1 : Int) (r2 : Int) (r3 : Int) (r4 : List ByteArray) (r5 : Bool) (r6 : List (S35)) (w : World) (hr0_3 : Kd.C Kd.string w A0_3 l0_3.length l0_3) (hc0_3 : l0_3.length ≤ c0_3) (h : impl_FopSend.f k a0_0 a0_1 a0_2 l0_3 a0_4 a1 = some (r1, r2, r3, r4, r5, r6)) :
  Calls Try.prog 8 #[.agg #[.int .i64 a0_0, .int .i64 a0_1, .int .i64 a0_2, .slice A0_3 l0_3.length c0_3, .bool a0_4], .string a1] w fun e w' => ∃ v3_ v5_ : Value, e = .returned (.tuple #[.agg #[.int .i64 r1, .int .i64 r2, .int .i64 r3, v3_, .bool r5], v5_]) ∧ Kd.R Kd.string 9 w' w.heap.size (fun _ => True) v3_ r4 ∧ Kd.R k35 35 w' w.heap.size (fun _ => True) v5_ r6 ∧ Below w.heap.size w w' := by
  have HH := h
  clear h
  unfold impl_FopSend.f at HH
  have HR := Aside0.mk hr0_3
  have HC := Aside0.mk hc0_3
  clear hr0_3 hc0_3
  obtain ⟨o, A1, HH⟩ := Option.bind_eq_some_iff.mp HH
  replace A1 := Aside0.mk A1
  have F0 : Aside0 (((w.alloc (.cells #[.int .i64 a0_0, .int .i64 a0_1, .int .i64 a0_2, .slice A0_3 l0_3.length c0_3, .bool a0_4] 25)).alloc (.cells #[.int .i64 0, .int .i64 0, .int .i64 0, .slice none 0 0, .bool false] 25)).heap[w.heap.size]? = some (.cells #[.int .i64 a0_0, .int .i64 a0_1, .int .i64 a0_2, .slice A0_3 l0_3.length c0_3, .bool a0_4] 25 (0, 0))) := ⟨blk_alloc (heap_alloc_new _ _) _⟩
  have Z0 : Aside0 (((w.alloc (.cells #[.int .i64 a0_0, .int .i64 a0_1, .int .i64 a0_2, .slice A0_3 l0_3.length c0_3, .bool a0_4] 25)).alloc (.cells #[.int .i64 0, .int .i64 0, .int .i64 0, .slice none 0 0, .bool false] 25)).heap[w.heap.size + 1]? = some (.cells #[.int .i64 0, .int .i64 0, .int .i64 0, .slice none 0 0, .bool false] 25 (0, 0))) := ⟨heap_alloc2_new _ _ _⟩
  have G0 : Aside0 (Below w.heap.size w ((w.alloc (.cells #[.int .i64 a0_0, .int .i64 a0_1, .int .i64 a0_2, .slice A0_3 l0_3.length c0_3, .bool a0_4] 25)).alloc (.cells #[.int .i64 0, .int .i64 0, .int .i64 0, .slice none 0 0, .bool false] 25))) := ⟨((Below.refl _ _).alloc (Nat.le_refl _) _).alloc (by simp) _⟩
  go_enter Try.func8, Try.ntmps8
  go_wp2_with fail
  refine (impl_FopOk.calls k a0_0 a0_1 a0_2 A0_3 c0_3 l0_3 a0_4 _ _ (Kd.C_below HR.out G0.out) HC.out A1.out).mono ?_
  rintro e w1 ⟨rfl, B1⟩
  have F1 := Aside0.mk (blk_below F0.out B1)
  have Z1 := Aside0.mk (blk_below Z0.out B1)
  have G1 := Aside0.mk (below_then G0.out G0.out.size B1)
  clear F0 Z0 G0 B1
  obtain ⟨⟨c0, c1, c2, c3, c4⟩, f0, f1, f2, f3, f4⟩ := fop_row F1.out
  obtain ⟨⟨z0, z1, z2, z3, z4⟩, u0, u1, u2, u3, u4⟩ := fop_row Z1.out
  cases o with
  | false =>
    rw [if_neg (by simp)] at HH
    simp only [Option.some.injEq, Prod.mk.injEq] at HH
    obtain ⟨rfl, rfl, rfl, rfl, rfl, rfl⟩ := HH
    go_wp2_with fail
    refine bodyPost_ret (results_ct rfl _ _ (w.heap.size + 1) 25 #[.int .i64 0, .int .i64 0, .int .i64 0, .slice none 0 0, .bool false] (0, 0) _ rfl (fop_set Z1.out _ _ _ _ _) Try.underlying25 rfl (by kernel_rfl)) rfl ?_
    exact ⟨_, _, rfl, Kd.R_nil _ _ _ _ _, Kd.R_nil _ _ _ _ _, fop_set_below G1.out (by omega) _ _ _ _ _⟩
  | true =>
    rw [if_pos rfl] at HH
    split at HH
    case isFalse => cases HH
    rename_i hl4
    go_wp2_with fail
    refine (ring_of A0_3 c0_3 l0_3 _ (Kd.C_below HR.out G1.out) HC.out hl4).mono ?_
    rintro e w2 ⟨rfl, B2⟩
    unfold ringV
    have F2 := Aside0.mk (blk_below F1.out B2)
    have Z2 := Aside0.mk (blk_below Z1.out B2)
    have G2 := Aside0.mk (below_then G1.out G1.out.size B2)
    have L2 : Aside0 (w.heap.size + 1 < w2.heap.size) := ⟨blk_lt Z2.out⟩
    clear c0 c1 c2 c3 c4 f0 f1 f2 f3 f4 z0 z1 z2 z3 z4 u0 u1 u2 u3 u4
    clear F1 Z1 G1 B2
    have Q3 : Aside0 (RingL (w2.alloc (.cells #[.string (tx l0_3 0), .string (tx l0_3 1), .string (tx l0_3 2), .string (tx l0_3 3), .int .i64 0, .int .i64 (l0_3.length : Int)] 61)) w2.heap.size l0_3) := ⟨heap_alloc_new _ _⟩
    have F3 := Aside0.mk (blk_alloc F2.out (.cells #[.string (tx l0_3 0), .string (tx l0_3 1), .string (tx l0_3 2), .string (tx l0_3 3), .int .i64 0, .int .i64 (l0_3.length : Int)] 61))
    have Z3 := Aside0.mk (blk_alloc Z2.out (.cells #[.string (tx l0_3 0), .string (tx l0_3 1), .string (tx l0_3 2), .string (tx l0_3 3), .int .i64 0, .int .i64 (l0_3.length : Int)] 61))
    have G3 := Aside0.mk (G2.out.alloc G2.out.size (.cells #[.string (tx l0_3 0), .string (tx l0_3 1), .string (tx l0_3 2), .string (tx l0_3 3), .int .i64 0, .int .i64 (l0_3.length : Int)] 61))
    obtain ⟨⟨c0, c1, c2, c3, c4⟩, f0, f1, f2, f3, f4⟩ := fop_row F2.out
    obtain ⟨⟨z0, z1, z2, z3, z4⟩, u0, u1, u2, u3, u4⟩ := fop_row Z2.out
    have hz0 : w.heap.size < w2.heap.size := by have := L2.out; omega
    have hz5 : w.heap.size + 1 < w2.heap.size := L2.out
    have hz1 : ¬ (w2.heap.size = w.heap.size) := by have := L2.out; omega
    have hz2 : ¬ (w.heap.size = w2.heap.size) := by have := L2.out; omega
    have hz3 : ¬ (w2.heap.size = w.heap.size + 1) := by have := L2.out; omega
    have hz4 : ¬ (w.heap.size + 1 = w2.heap.size) := by have := L2.out; omega
    cases a0_4 with
    | true =>
      rw [if_pos rfl] at HH
      unfold impl_FopSend.c at HH
      obtain ⟨⟨q1, q2, q3, q4, q5⟩, AC, HH⟩ := Option.bind_eq_some_iff.mp HH
      simp only [Option.some.injEq, Prod.mk.injEq] at HH
      obtain ⟨rfl, rfl, rfl, rfl, rfl, rfl⟩ := HH
      go_wp2_with fail
      refine (impl_fopCopy.calls a0_0 a0_1 a0_2 A0_3 c0_3 l0_3 true _ _ _ _ _ _ (Kd.C_below HR.out G3.out) HC.out AC).mono ?_
      rintro e w9 ⟨v9, rfl, O9, B9⟩
      obtain ⟨A9, c9, rfl⟩ := Kd.R_slice O9
      have F9 := Aside0.mk (blk_below F3.out B9)
      have Z9 := Aside0.mk (blk_below Z3.out B9)
      have G9 := Aside0.mk (below_then G3.out G3.out.size B9)
      have L9 := G3.out.size
      clear c0 c1 c2 c3 c4 f0 f1 f2 f3 f4 z0 z1 z2 z3 z4 u0 u1 u2 u3 u4
      obtain ⟨⟨c0, c1, c2, c3, c4⟩, f0, f1, f2, f3, f4⟩ := fop_row F9.out
      obtain ⟨⟨z0, z1, z2, z3, z4⟩, u0, u1, u2, u3, u4⟩ := fop_row Z9.out
      go_wp2_with fail
      refine bodyPost_ret (results_ct rfl _ _ (w.heap.size + 1) 25 #[.int .i64 _, .int .i64 _, .int .i64 _, .slice _ _ _, .bool _] (0, 0) _ rfl (fop_set Z9.out _ _ _ _ _) Try.underlying25 rfl (by kernel_rfl)) rfl ?_
      exact ⟨_, _, rfl, Kd.R_lower (fop_set_R O9 Z9.out (by decide) _ _ _ _ _) L9, Kd.R_nil _ _ _ _ _, fop_set_below G9.out (by omega) _ _ _ _ _⟩
    | false =>
      rw [if_neg (by simp)] at HH
      obtain ⟨b, A2, HH⟩ := Option.bind_eq_some_iff.mp HH
      replace A2 := Aside0.mk A2
      go_wp2_with fail
      refine (impl_frameDataOk.calls a1 _ _ A2.out).mono ?_
      rintro e w4 ⟨rfl, ⟨⟨nd, rfl⟩⟩⟩
      have F4 := Aside0.mk (blk_drewN F3.out nd)
      have Z4 := Aside0.mk (blk_drewN Z3.out nd)
      have G4 := Aside0.mk (pw_below_drewN G3.out nd)
      have Q4 : Aside0 (RingL _ w2.heap.size l0_3) := ⟨blk_drewN Q3.out nd⟩
      clear c0 c1 c2 c3 c4 f0 f1 f2 f3 f4 z0 z1 z2 z3 z4 u0 u1 u2 u3 u4
      obtain ⟨⟨c0, c1, c2, c3, c4⟩, f0, f1, f2, f3, f4⟩ := fop_row F4.out
      obtain ⟨⟨z0, z1, z2, z3, z4⟩, u0, u1, u2, u3, u4⟩ := fop_row Z4.out
      clear F3 Z3 G3 Q3
      generalize (w2.alloc _).drewN nd = w4 at F4 Z4 G4 Q4 c0 c1 c2 c3 c4 f0 f1 f2 f3 f4 z0 z1 z2 z3 z4 u0 u1 u2 u3 u4 ⊢
      cases b with
      | false =>
        rw [if_neg (by simp)] at HH
        unfold impl_FopSend.c at HH
        obtain ⟨⟨q1, q2, q3, q4, q5⟩, AC, HH⟩ := Option.bind_eq_some_iff.mp HH
        simp only [Option.some.injEq, Prod.mk.injEq] at HH
        obtain ⟨rfl, rfl, rfl, rfl, rfl, rfl⟩ := HH
        go_wp2_with fail
        refine (impl_fopCopy.calls a0_0 a0_1 a0_2 A0_3 c0_3 l0_3 false _ _ _ _ _ _ (Kd.C_below HR.out G4.out) HC.out AC).mono ?_
        rintro e w9 ⟨v9, rfl, O9, B9⟩
        obtain ⟨A9, c9, rfl⟩ := Kd.R_slice O9
        have F9 := Aside0.mk (blk_below F4.out B9)
        have Z9 := Aside0.mk (blk_below Z4.out B9)
        have G9 := Aside0.mk (below_then G4.out G4.out.size B9)
        have L9 := G4.out.size
        clear c0 c1 c2 c3 c4 f0 f1 f2 f3 f4 z0 z1 z2 z3 z4 u0 u1 u2 u3 u4
        obtain ⟨⟨c0, c1, c2, c3, c4⟩, f0, f1, f2, f3, f4⟩ := fop_row F9.out
        obtain ⟨⟨z0, z1, z2, z3, z4⟩, u0, u1, u2, u3, u4⟩ := fop_row Z9.out
        go_wp2_with fail
        refine bodyPost_ret (results_ct rfl _ _ (w.heap.size + 1) 25 #[.int .i64 _, .int .i64 _, .int .i64 _, .slice _ _ _, .bool _] (0, 0) _ rfl (fop_set Z9.out _ _ _ _ _) Try.underlying25 rfl (by kernel_rfl)) rfl ?_
        exact ⟨_, _, rfl, Kd.R_lower (fop_set_R O9 Z9.out (by decide) _ _ _ _ _) L9, Kd.R_nil _ _ _ _ _, fop_set_below G9.out (by omega) _ _ _ _ _⟩
      | true =>
        rw [if_pos rfl] at HH
        by_cases h4 : l0_3.length = 4
        · skip
          rw [if_pos h4] at HH
          replace h4 := Aside0.mk h4
          go_wp2_with fail
          refine (ring_full w2.heap.size l0_3 a1 _ Q4.out h4.out).mono ?_
          rintro e w5 ⟨rfl, rfl⟩
          unfold impl_FopSend.c at HH
          obtain ⟨⟨q1, q2, q3, q4, q5⟩, AC, HH⟩ := Option.bind_eq_some_iff.mp HH
          simp only [Option.some.injEq, Prod.mk.injEq] at HH
          obtain ⟨rfl, rfl, rfl, rfl, rfl, rfl⟩ := HH
          go_wp2_with fail
          refine (impl_fopCopy.calls a0_0 a0_1 a0_2 A0_3 c0_3 l0_3 false _ _ _ _ _ _ (Kd.C_below HR.out G4.out) HC.out AC).mono ?_
          rintro e w9 ⟨v9, rfl, O9, B9⟩
          obtain ⟨A9, c9, rfl⟩ := Kd.R_slice O9
          have F9 := Aside0.mk (blk_below F4.out B9)
          have Z9 := Aside0.mk (blk_below Z4.out B9)
          have G9 := Aside0.mk (below_then G4.out G4.out.size B9)
          have L9 := G4.out.size
          clear c0 c1 c2 c3 c4 f0 f1 f2 f3 f4 z0 z1 z2 z3 z4 u0 u1 u2 u3 u4
          obtain ⟨⟨c0, c1, c2, c3, c4⟩, f0, f1, f2, f3, f4⟩ := fop_row F9.out
          obtain ⟨⟨z0, z1, z2, z3, z4⟩, u0, u1, u2, u3, u4⟩ := fop_row Z9.out
          go_wp2_with fail
          refine bodyPost_ret (results_ct rfl _ _ (w.heap.size + 1) 25 #[.int .i64 _, .int .i64 _, .int .i64 _, .slice _ _ _, .bool _] (0, 0) _ rfl (fop_set Z9.out _ _ _ _ _) Try.underlying25 rfl (by kernel_rfl)) rfl ?_
          exact ⟨_, _, rfl, Kd.R_lower (fop_set_R O9 Z9.out (by decide) _ _ _ _ _) L9, Kd.R_nil _ _ _ _ _, fop_set_below G9.out (by omega) _ _ _ _ _⟩
        · skip
          rw [if_neg h4] at HH
          obtain ⟨m, A3, HH⟩ := Option.bind_eq_some_iff.mp HH
          replace A3 := Aside0.mk A3
          simp only [Option.some.injEq, Prod.mk.injEq] at HH
          obtain ⟨rfl, rfl, rfl, rfl, rfl, rfl⟩ := HH
          go_wp2_with fail
          refine (ring_push w2.heap.size l0_3 a1 _ Q4.out (by omega)).mono ?_
          rintro e w5 ⟨rfl, Q5, K5, D5⟩
          have F5 := Aside0.mk (K5.blk F4.out (by have := L2.out; omega) (by simp))
          have Z5 := Aside0.mk (K5.blk Z4.out (by have := L2.out; omega) (by simp))
          have G5 := Aside0.mk (G4.out.trans (D5.mono (by have := L2.out; omega)))
          replace Q5 := Aside0.mk Q5
          clear c0 c1 c2 c3 c4 f0 f1 f2 f3 f4 z0 z1 z2 z3 z4 u0 u1 u2 u3 u4
          clear F4 Z4 G4 Q4 K5 D5
          obtain ⟨⟨c0, c1, c2, c3, c4⟩, f0, f1, f2, f3, f4⟩ := fop_row F5.out
          obtain ⟨⟨z0, z1, z2, z3, z4⟩, u0, u1, u2, u3, u4⟩ := fop_row Z5.out
          go_wp2_with fail
          refine (impl_Fop_frame.calls a0_0 a0_1 a0_2 A0_3 c0_3 l0_3 false a0_2 a1 _ _ _ _ _ _ _ (Kd.C_below HR.out G5.out) HC.out rfl).mono ?_
          rintro e w6 ⟨rfl, B6⟩
          have F6 := Aside0.mk (blk_below F5.out B6)
          have Z6 := Aside0.mk (blk_below Z5.out B6)
          have G6 := Aside0.mk (below_then G5.out G5.out.size B6)
          have Q6 : Aside0 (RingL w6 w2.heap.size (l0_3 ++ [a1])) := ⟨blk_below Q5.out B6⟩
          clear c0 c1 c2 c3 c4 f0 f1 f2 f3 f4 z0 z1 z2 z3 z4 u0 u1 u2 u3 u4
          clear F5 Z5 G5 Q5 B6
          obtain ⟨⟨c0, c1, c2, c3, c4⟩, f0, f1, f2, f3, f4⟩ := fop_row F6.out
          obtain ⟨⟨z0, z1, z2, z3, z4⟩, u0, u1, u2, u3, u4⟩ := fop_row Z6.out
          have L6 := Aside0.mk G6.out.size
          go_wp2_with (first | ((with_reducible refine gate_dst (N := 34) rfl ?_); refine Kd.R_lit k35 w.heap.size 35 (w0 := w) ?hg (N := 34) ?hd (xs := ([⟨false, false, a0_0, a0_1, a0_2, a1⟩] : List (S35))) (inner := [.bool false, .bool false, .int .i64 a0_0, .int .i64 a0_1, .int .i64 a0_2, .string a1]) (ok := fun _ => True) (okp := fun _ => True) ?hr ?hp (fun _ hk => hk) trivial G6.out L6.out (by simp) ?_; (case hd => rfl); (case hg => rfl); (case hr => first | (go_simp; done) | (go_simp; rfl)); (case hp => exact (Reps.c6 (show Kd.M k35 _ _ _ (⟨false, false, a0_0, a0_1, a0_2, a1⟩ : S35) [.bool false, .bool false, .int .i64 a0_0, .int .i64 a0_1, .int .i64 a0_2, .string a1] from (k35_mkM _ _ _ (⟨false, false, a0_0, a0_1, a0_2, a1⟩ : S35) )) (Reps.none _ _))); intro v7 w7 o7 b7 g7 n7; have F7 := Aside0.mk (blk_grown F6.out g7 (by simp)); have Z7 := Aside0.mk (blk_grown Z6.out g7 (by simp)); have Q7 : Aside0 (RingL w7 w2.heap.size (l0_3 ++ [a1])) := ⟨blk_grown Q6.out g7 (by simp)⟩; have G7 := Aside0.mk b7; have O7 := Aside0.mk o7; clear o7 b7 g7 n7 F6 Z6 Q6 G6 L6 c0 c1 c2 c3 c4 f0 f1 f2 f3 f4 z0 z1 z2 z3 z4 u0 u1 u2 u3 u4; obtain ⟨⟨c0, c1, c2, c3, c4⟩, f0, f1, f2, f3, f4⟩ := fop_row F7.out))
          refine (ring_list w2.heap.size (tx (l0_3 ++ [a1])) 0 (l0_3 ++ [a1]).length _ Q7.out (by omega) (by simp; omega)).mono ?_
          rintro e w8 ⟨v8, rfl, O8, B8⟩
          rw [ringOut_all _ (by simp; omega)] at O8
          obtain ⟨A8, c8, rfl⟩ := Kd.R_slice O8
          simp only [List.length_append, List.length_cons, List.length_nil, Nat.zero_add] at O8
          have L8 := G7.out.size
          have P8 := Kd.R_below O7.out B8
          obtain ⟨A7, c7, rfl⟩ := Kd.R_slice O7.out
          have F8 := Aside0.mk (blk_below F7.out B8)
          have Z8 := Aside0.mk (blk_below Z7.out B8)
          have G8 := Aside0.mk (below_then G7.out G7.out.size B8)
          clear c0 c1 c2 c3 c4 f0 f1 f2 f3 f4
          clear F7 Z7 G7 Q7 B8
          obtain ⟨⟨c0, c1, c2, c3, c4⟩, f0, f1, f2, f3, f4⟩ := fop_row F8.out
          obtain ⟨⟨z0, z1, z2, z3, z4⟩, u0, u1, u2, u3, u4⟩ := fop_row Z8.out
          go_wp2_with fail
          refine (impl_goesRound_plus.calls a0_2 1 _ _ A3.out).mono ?_
          rintro e w9 ⟨rfl, ⟨⟨nd2, rfl⟩⟩⟩
          go_wp2_with fail
          refine bodyPost_ret (results_ct rfl _ _ (w.heap.size + 1) 25 #[.int .i64 _, .int .i64 _, .int .i64 _, .slice _ _ _, .bool _] (0, 0) _ rfl (fop_set (blk_far (blk_drewN (blk_far Z8.out (p := ⟨w.heap.size, 3, none⟩) (by simp) _) _) (p := ⟨w.heap.size, 2, none⟩) (by simp) _) _ _ _ _ _) Try.underlying25 rfl (by kernel_rfl)) rfl ?_
          have ZZ := fun s m => blk_far (blk_drewN (blk_far Z8.out (p := ⟨w.heap.size, 3, none⟩) (by simp) s) nd2) (p := ⟨w.heap.size, 2, none⟩) (by simp) m
          exact ⟨_, _, rfl, Kd.R_lower (fop_set_R (R_one (Kd.R_drewN (R_one O8 F8.out (by decide)) _) (blk_drewN (blk_set F8.out 3 _) _) (by decide)) (ZZ _ _) (by decide) _ _ _ _ _) L8, fop_set_R (R_one (Kd.R_drewN (R_one P8 F8.out (by decide)) _) (blk_drewN (blk_set F8.out 3 _) _) (by decide)) (ZZ _ _) (by decide) _ _ _ _ _, fop_set_below ((pw_below_drewN (G8.out.setCell (Nat.le_refl _) _) _).setCell (Nat.le_refl _) _) (by omega) _ _ _ _ _⟩

/-! ### spec_l5Frame: function 42 -/
def spec_l5Frame.f (a0_0 : Int) (a0_1 : Int) (a0_2 : Int) (l0_3 : List ByteArray) (a0_4 : Bool) (a1 : Int) (a2 : ByteArray) : Option (Bool × Bool × Int × Int × Int × ByteArray) := some (false, false, a0_0, a0_1, a1, a2)
set_option maxHeartbeats 8000000 in
set_option maxRecDepth 100000 in
theorem spec_l5Frame.calls (a0_0 : Int) (a0_1 : Int) (a0_2 : Int) (A0_3 : Option Addr) (c0_3 : Nat) (l0_3 : List ByteArray) (a0_4 : Bool) (a1 : Int) (a2 : ByteArray) (r1 : Bool) (r2 : Bool) (r3 : Int) (r4 : Int) (r5 : Int) (r6 : ByteArray) (w : World) (hr0_3 : Kd.C Kd.string w A0_3 l0_3.length l0_3) (hc0_3 : l0_3.length ≤ c0_3) (h : spec_l5Frame.f a0_0 a0_1 a0_2 l0_3 a0_4 a1 a2 = some (r1, r2, r3, r4, r5, r6)) :
  Calls Try.prog 42 #[.agg #[.int .i64 a0_0, .int .i64 a0_1, .int .i64 a0_2, .slice A0_3 l0_3.length c0_3, .bool a0_4], .int .i64 a1, .string a2] w fun e w' => e = .returned (.agg #[.bool r1, .bool r2, .int .i64 r3, .int .i64 r4, .int .i64 r5, .string r6]) ∧ Below w.heap.size w w' := by
 have hu25 := Try.underlying25
 have hu35 := Try.underlying35
 have HR0_3 := Aside0.mk hr0_3
 have HC0_3 := Aside0.mk hc0_3
 clear hr0_3 hc0_3
 have HB := m_ (Below.refl w.heap.size w)
 have H : (some (false, false, a0_0, a0_1, a1, a2)) = some (r1, r2, r3, r4, r5, r6) := h
 clear h
 simp only [Option.some.injEq, Prod.mk.injEq] at H
 obtain ⟨rfl, rfl, rfl, rfl, rfl, rfl⟩ := H
 go_enter Try.func42, Try.ntmps42
 go_wp2_with (first | ((with_reducible refine gate_dst (N := 3) rfl ?_); refine box_event ?hg (N := 3) ?hd (cs := #[.int .i64 a0_0, .int .i64 a0_1, .int .i64 a0_2, .slice A0_3 l0_3.length c0_3, .bool a0_4]) (t := 25) ?hr ?_; (case hd => rfl); (case hg => rfl); (case hr => first | (go_simp; done) | (go_simp; rfl)); intro gb227 hg w4 hbox hb; have n0_ := m_ (below_step (bN HB.out) hb); have n1_ := m_ (hbox); have n2_ := m_ ((by rw [hg]; exact (below_size (bN HB.out)) : w.heap.size ≤ gb227)); have n3_ := m_ ((by rw [hg]; exact (below_size (bN HB.out)) : w.heap.size ≤ gb227)); clear HB; have HB := n0_; have BK227 := n1_; have GW227 := n2_; have GE227 := n3_; clear n0_ n1_ n2_ n3_; clear hb hbox hg) | ((with_reducible refine gate_dst (N := 6) rfl ?_); refine box_event ?hg (N := 6) ?hd (cs := #[.bool false, .bool false, .int .i64 0, .int .i64 0, .int .i64 0, .string (⟨#[]⟩ : ByteArray)]) (t := 35) ?hr ?_; (case hd => rfl); (case hg => rfl); (case hr => first | (go_simp; done) | (go_simp; rfl)); intro gb228 hg w5 hbox hb; have n0_ := m_ (blk_below (kN BK227.out) hb); have n1_ := m_ (below_step (bN HB.out) hb); have n2_ := m_ (hbox); have n3_ := m_ ((by rw [hg]; exact (below_size (bN HB.out)) : w.heap.size ≤ gb228)); have n4_ := m_ ((by rw [hg]; exact (below_size (bN HB.out)) : w.heap.size ≤ gb228)); have n5_ := m_ (nL hg BK227.out); have n6_ := m_ (nG hg BK227.out); clear BK227; clear HB; have BK227 := n0_; have HB := n1_; have BK228 := n2_; have GW228 := n3_; have GE228 := n4_; have NB227_228 := n5_; have NB228_227 := n6_; clear n0_ n1_ n2_ n3_ n4_ n5_ n6_; clear hb hbox hg; have hnb6 := NB227_228.out; have hnc6 := NB228_227.out; have hcz7_0 : w5.cell? ⟨gb227, 0, none⟩ = some (.int .i64 a0_0) := bc BK227 0; have hcz7_1 : w5.cell? ⟨gb227, 1, none⟩ = some (.int .i64 a0_1) := bc BK227 1; have hcz7_2 : w5.cell? ⟨gb227, 2, none⟩ = some (.int .i64 a0_2) := bc BK227 2; have hcz7_3 : w5.cell? ⟨gb227, 3, none⟩ = some (.slice A0_3 l0_3.length c0_3) := bc BK227 3; have hcz7_4 : w5.cell? ⟨gb227, 4, none⟩ = some (.bool a0_4) := bc BK227 4; have hfz7_0 := blk_frozen BK227.out 0; have hfz7_1 := blk_frozen BK227.out 1; have hfz7_2 := blk_frozen BK227.out 2; have hfz7_3 := blk_frozen BK227.out 3; have hfz7_4 := blk_frozen BK227.out 4; have hcz8_0 : w5.cell? ⟨gb228, 0, none⟩ = some (.bool false) := bc BK228 0; have hcz8_1 : w5.cell? ⟨gb228, 1, none⟩ = some (.bool false) := bc BK228 1; have hcz8_2 : w5.cell? ⟨gb228, 2, none⟩ = some (.int .i64 0) := bc BK228 2; have hcz8_3 : w5.cell? ⟨gb228, 3, none⟩ = some (.int .i64 0) := bc BK228 3; have hcz8_4 : w5.cell? ⟨gb228, 4, none⟩ = some (.int .i64 0) := bc BK228 4; have hcz8_5 : w5.cell? ⟨gb228, 5, none⟩ = some (.string (⟨#[]⟩ : ByteArray)) := bc BK228 5; have hfz8_0 := blk_frozen BK228.out 0; have hfz8_1 := blk_frozen BK228.out 1; have hfz8_2 := blk_frozen BK228.out 2; have hfz8_3 := blk_frozen BK228.out 3; have hfz8_4 := blk_frozen BK228.out 4; have hfz8_5 := blk_frozen BK228.out 5))
 refine bodyPost_ret (results_cell_row rfl _ _ gb228 35 #[.bool false, .bool false, .int .i64 a0_0, .int .i64 a0_1, .int .i64 a1, .string a2] (0, 0) _ rfl (kP BK228.out) Try.underlying35 rfl (by kernel_rfl)) rfl ?_
 exact ⟨by first | rfl | (simp [errW_none, errW_some] <;> rfl) | (simp [*, errW_none, errW_some] <;> rfl), by repeat (first | (with_reducible first | exact HB.out | apply below_alloc | apply pw_below_drewN | apply below_drew1 | refine below_set ?_ GE227.out | refine below_set ?_ GE228.out) | exact HB.out)⟩

/-! ### spec_FopSend: function 9 -/
def spec_FopSend.j0 : Nat → ByteArray → Bool → Int → Int → Int → List ByteArray → Bool → Int → Int → Int → List ByteArray → Bool → Option (Int × Int × Int × List ByteArray × Bool × (List (S35)))
 | 0, _, _, _, _, _, _, _, _, _, _, _, _ => none
 | k + 1, x1, x27, x230000, x230001, x230002, x230003, x230004, x243000, x243001, x243002, x243003, x243004 => if x27 = true then (some (x243000, x243001, x243002, x243003, x243004, (([] : List (S35))))) else (if x243003.length < 8796093022208 then ((spec_l4Mod.f (wrap64 (x230002 + 1))).bind fun t250 => ((spec_l5Frame.f x230000 x230001 x230002 x230003 x230004 x230002 x1).bind fun bt251 => (some (x243000, x243001, t250, (x243003 ++ [x1]), x243004, (([(⟨bt251.1, bt251.2.1, bt251.2.2.1, bt251.2.2.2.1, bt251.2.2.2.2.1, bt251.2.2.2.2.2⟩ : S35)] : List (S35))))))) else (none))
def spec_FopSend.f (k : Nat) (a0_0 : Int) (a0_1 : Int) (a0_2 : Int) (l0_3 : List ByteArray) (a0_4 : Bool) (a1 : ByteArray) : Option (Int × Int × Int × List ByteArray × Bool × (List (S35))) := (spec_FopOk.f k a0_0 a0_1 a0_2 l0_3 a0_4).bind fun t231 => (if t231 = true then ((spec_l5Copy.f a0_0 a0_1 a0_2 l0_3 a0_4).bind fun bt235 => (if a0_4 = true then (spec_FopSend.j0 k a1 true a0_0 a0_1 a0_2 l0_3 a0_4 bt235.1 bt235.2.1 bt235.2.2.1 bt235.2.2.2.1 bt235.2.2.2.2) else (if (l0_3.length : Int) ≥ 4 then (spec_FopSend.j0 k a1 true a0_0 a0_1 a0_2 l0_3 a0_4 bt235.1 bt235.2.1 bt235.2.2.1 bt235.2.2.2.1 bt235.2.2.2.2) else ((spec_l1In.f (a1.size : Int) 1 53).bind fun t243 => (spec_FopSend.j0 k a1 (!t243) a0_0 a0_1 a0_2 l0_3 a0_4 bt235.1 bt235.2.1 bt235.2.2.1 bt235.2.2.2.1 bt235.2.2.2.2))))) else (some (0, 0, 0, ([] : List ByteArray), false, (([] : List (S35))))))
theorem spec_FopSend.mono_l : ∀ k, (∀ y0 y1 y2 y3 y4 y5 y6 y7 y8 y9 y10 y11, LeO (spec_FopSend.j0 k y0 y1 y2 y3 y4 y5 y6 y7 y8 y9 y10 y11) (spec_FopSend.j0 (k + 1) y0 y1 y2 y3 y4 y5 y6 y7 y8 y9 y10 y11))
 | 0 => fun _ _ _ _ _ _ _ _ _ _ _ _ r h => by simp [spec_FopSend.j0] at h
 | k + 1 => by
  have ih0 := spec_FopSend.mono_l k
  ·intro y0 y1 y2 y3 y4 y5 y6 y7 y8 y9 y10 y11
   unfold spec_FopSend.j0
   repeat' first
   | (with_reducible exact ih0 _ _ _ _ _ _ _ _ _ _ _ _)
   | (with_reducible exact spec_FopOk.mono _ _ _ _ _ _)
   | (with_reducible exact LeO.refl _)
   | (with_reducible exact LeO.none _)
   | (with_reducible refine LeO.ite ?_ ?_)
   | (with_reducible refine LeO.bind ?_ (fun _ => ?_))
   | exact ih0 _ _ _ _ _ _ _ _ _ _ _ _
   | exact spec_FopOk.mono _ _ _ _ _ _
   | exact LeO.none _
   | refine LeO.ite ?_ ?_
   | refine LeO.bind ?_ (fun _ => ?_)
theorem spec_FopSend.mono : ∀ a0 a1 a2 a3 a4 a5 k, LeO (spec_FopSend.f k a0 a1 a2 a3 a4 a5) (spec_FopSend.f (k + 1) a0 a1 a2 a3 a4 a5) := by
 intro a0 a1 a2 a3 a4 a5 k
 have ih0 := spec_FopSend.mono_l k
 unfold spec_FopSend.f
 repeat' first
   | (with_reducible exact ih0 _ _ _ _ _ _ _ _ _ _ _ _)
   | (with_reducible exact spec_FopOk.mono _ _ _ _ _ _)
   | (with_reducible exact LeO.refl _)
   | (with_reducible exact LeO.none _)
   | (with_reducible refine LeO.ite ?_ ?_)
   | (with_reducible refine LeO.bind ?_ (fun _ => ?_))
   | exact ih0 _ _ _ _ _ _ _ _ _ _ _ _
   | exact spec_FopOk.mono _ _ _ _ _ _
   | exact LeO.none _
   | refine LeO.ite ?_ ?_
   | refine LeO.bind ?_ (fun _ => ?_)
def spec_FopSend.T8 : Bool × List (List Nat × List Nat) := (true, [([], []), ([], []), ([], []), ([2], [2]), ([], []), ([1, 3, 4], [1, 3, 4]), ([5], [5]), ([0, 5, 0], [0]), ([6, 7, 0, 1, 2, 3, 4, 5, 6, 7], [6])])
def spec_FopSend.B8 : List Nat := [0, 0, 0, 4, 0, 30, 62, 63, 255]
theorem spec_FopSend.tab8 : rtab .any (opsOf Try.f9 8) = spec_FopSend.T8 := by kernel_rfl
theorem spec_FopSend.bits8 : waitsOk spec_FopSend.T8.2 spec_FopSend.B8 = true := by kernel_rfl
set_option maxHeartbeats 8000000 in
set_option maxRecDepth 100000 in
theorem spec_FopSend.calls (k : Nat) (a0_0 : Int) (a0_1 : Int) (a0_2 : Int) (A0_3 : Option Addr) (c0_3 : Nat) (l0_3 : List ByteArray) (a0_4 : Bool) (a1 : ByteArray) (r1 : Int) (r2 : Int) (r3 : Int) (r4 : List ByteArray) (r5 : Bool) (r6 : List (S35)) (w : World) (hr0_3 : Kd.C Kd.string w A0_3 l0_3.length l0_3) (hc0_3 : l0_3.length ≤ c0_3) (h : spec_FopSend.f k a0_0 a0_1 a0_2 l0_3 a0_4 a1 = some (r1, r2, r3, r4, r5, r6)) :
  Calls Try.prog 9 #[.agg #[.int .i64 a0_0, .int .i64 a0_1, .int .i64 a0_2, .slice A0_3 l0_3.length c0_3, .bool a0_4], .string a1] w fun e w' => ∃ v3_ v5_ : Value, e = .returned (.tuple #[.agg #[.int .i64 r1, .int .i64 r2, .int .i64 r3, v3_, .bool r5], v5_]) ∧ Kd.R Kd.string 9 w' w.heap.size (fun _ => True) v3_ r4 ∧ Kd.R k35 35 w' w.heap.size (fun _ => True) v5_ r6 ∧ Below w.heap.size w w' := by
 have hu25 := Try.underlying25
 have HR0_3 := Aside0.mk hr0_3
 have HC0_3 := Aside0.mk hc0_3
 clear hr0_3 hc0_3
 have HB := m_ (Below.refl w.heap.size w)
 have H : ((spec_FopOk.f k a0_0 a0_1 a0_2 l0_3 a0_4).bind fun t231 => (if t231 = true then ((spec_l5Copy.f a0_0 a0_1 a0_2 l0_3 a0_4).bind fun bt235 => (if a0_4 = true then (spec_FopSend.j0 k a1 true a0_0 a0_1 a0_2 l0_3 a0_4 bt235.1 bt235.2.1 bt235.2.2.1 bt235.2.2.2.1 bt235.2.2.2.2) else (if (l0_3.length : Int) ≥ 4 then (spec_FopSend.j0 k a1 true a0_0 a0_1 a0_2 l0_3 a0_4 bt235.1 bt235.2.1 bt235.2.2.1 bt235.2.2.2.1 bt235.2.2.2.2) else ((spec_l1In.f (a1.size : Int) 1 53).bind fun t243 => (spec_FopSend.j0 k a1 (!t243) a0_0 a0_1 a0_2 l0_3 a0_4 bt235.1 bt235.2.1 bt235.2.2.1 bt235.2.2.2.1 bt235.2.2.2.2))))) else (some (0, 0, 0, ([] : List ByteArray), false, (([] : List (S35))))))) = some (r1, r2, r3, r4, r5, r6) := h
 clear h
 replace H := Option.bind_eq_some_iff.mp H
 obtain ⟨t231, A30, H⟩ := H
 replace H : (if t231 = true then ((spec_l5Copy.f a0_0 a0_1 a0_2 l0_3 a0_4).bind fun bt235 => (if a0_4 = true then (spec_FopSend.j0 k a1 true a0_0 a0_1 a0_2 l0_3 a0_4 bt235.1 bt235.2.1 bt235.2.2.1 bt235.2.2.2.1 bt235.2.2.2.2) else (if (l0_3.length : Int) ≥ 4 then (spec_FopSend.j0 k a1 true a0_0 a0_1 a0_2 l0_3 a0_4 bt235.1 bt235.2.1 bt235.2.2.1 bt235.2.2.2.1 bt235.2.2.2.2) else ((spec_l1In.f (a1.size : Int) 1 53).bind fun t243 => (spec_FopSend.j0 k a1 (!t243) a0_0 a0_1 a0_2 l0_3 a0_4 bt235.1 bt235.2.1 bt235.2.2.1 bt235.2.2.2.1 bt235.2.2.2.2))))) else (some (0, 0, 0, ([] : List ByteArray), false, (([] : List (S35)))))) = some (r1, r2, r3, r4, r5, r6) := H
 have A3 := Aside0.mk A30
 clear A30
 by_cases c4 : t231 = true
 ·subst c4
  have H1 : ((spec_l5Copy.f a0_0 a0_1 a0_2 l0_3 a0_4).bind fun bt235 => (if a0_4 = true then (spec_FopSend.j0 k a1 true a0_0 a0_1 a0_2 l0_3 a0_4 bt235.1 bt235.2.1 bt235.2.2.1 bt235.2.2.2.1 bt235.2.2.2.2) else (if (l0_3.length : Int) ≥ 4 then (spec_FopSend.j0 k a1 true a0_0 a0_1 a0_2 l0_3 a0_4 bt235.1 bt235.2.1 bt235.2.2.1 bt235.2.2.2.1 bt235.2.2.2.2) else ((spec_l1In.f (a1.size : Int) 1 53).bind fun t243 => (spec_FopSend.j0 k a1 (!t243) a0_0 a0_1 a0_2 l0_3 a0_4 bt235.1 bt235.2.1 bt235.2.2.1 bt235.2.2.2.1 bt235.2.2.2.2))))) = some (r1, r2, r3, r4, r5, r6) := by rw [if_pos rfl] at H; exact H
  clear H
  have H := H1
  clear H1
  replace H := Option.bind_eq_some_iff.mp H
  obtain ⟨⟨t235, t236, t237, t238, t241⟩, A50, H⟩ := H
  replace H : (if a0_4 = true then (spec_FopSend.j0 k a1 true a0_0 a0_1 a0_2 l0_3 a0_4 t235 t236 t237 t238 t241) else (if (l0_3.length : Int) ≥ 4 then (spec_FopSend.j0 k a1 true a0_0 a0_1 a0_2 l0_3 a0_4 t235 t236 t237 t238 t241) else ((spec_l1In.f (a1.size : Int) 1 53).bind fun t243 => (spec_FopSend.j0 k a1 (!t243) a0_0 a0_1 a0_2 l0_3 a0_4 t235 t236 t237 t238 t241)))) = some (r1, r2, r3, r4, r5, r6) := H
  have A5 := Aside0.mk A50
  clear A50
  have HC6 := Aside0.mk H
  clear H
  go_enter Try.func9, Try.ntmps9
  go_upto_region 4 with (first | ((with_reducible refine gate_dst (N := 2) rfl ?_); (try (refine gate_guard (by rfl) ?_; dsimp only)); refine box_event ?hg (N := 2) ?hd (cs := #[.int .i64 a0_0, .int .i64 a0_1, .int .i64 a0_2, .slice A0_3 l0_3.length c0_3, .bool a0_4]) (t := 25) ?hr ?_; (case hd => rfl); (case hg => rfl); (case hr => first | (go_simp; done) | (go_simp; rfl)); intro gb229 hg w7 hbox hb; have n0_ := m_ (below_step (bN HB.out) hb); have n1_ := m_ (hbox); have n2_ := m_ ((by rw [hg]; exact (below_size (bN HB.out)) : w.heap.size ≤ gb229)); have n3_ := m_ ((by rw [hg]; exact (below_size (bN HB.out)) : w.heap.size ≤ gb229)); clear HB; have HB := n0_; have BK229 := n1_; have GW229 := n2_; have GE229 := n3_; clear n0_ n1_ n2_ n3_; clear hb hbox hg) | ((with_reducible refine gate_dst (N := 4) rfl ?_); (try (refine gate_guard (by rfl) ?_; dsimp only)); refine box_event ?hg (N := 4) ?hd (cs := #[.int .i64 0, .int .i64 0, .int .i64 0, .slice none 0 0, .bool false]) (t := 25) ?hr ?_; (case hd => rfl); (case hg => rfl); (case hr => first | (go_simp; done) | (go_simp; rfl)); intro gb230 hg w8 hbox hb; have n0_ := m_ (blk_below (kN BK229.out) hb); have n1_ := m_ (below_step (bN HB.out) hb); have n2_ := m_ (hbox); have n3_ := m_ ((by rw [hg]; exact (below_size (bN HB.out)) : w.heap.size ≤ gb230)); have n4_ := m_ ((by rw [hg]; exact (below_size (bN HB.out)) : w.heap.size ≤ gb230)); have n5_ := m_ (nL hg BK229.out); have n6_ := m_ (nG hg BK229.out); clear BK229; clear HB; have BK229 := n0_; have HB := n1_; have BK230 := n2_; have GW230 := n3_; have GE230 := n4_; have NB229_230 := n5_; have NB230_229 := n6_; clear n0_ n1_ n2_ n3_ n4_ n5_ n6_; clear hb hbox hg; have hnb9 := NB229_230.out; have hnc9 := NB230_229.out; have hcz10_0 : w8.cell? ⟨gb229, 0, none⟩ = some (.int .i64 a0_0) := bc BK229 0; have hcz10_1 : w8.cell? ⟨gb229, 1, none⟩ = some (.int .i64 a0_1) := bc BK229 1; have hcz10_2 : w8.cell? ⟨gb229, 2, none⟩ = some (.int .i64 a0_2) := bc BK229 2; have hcz10_3 : w8.cell? ⟨gb229, 3, none⟩ = some (.slice A0_3 l0_3.length c0_3) := bc BK229 3; have hcz10_4 : w8.cell? ⟨gb229, 4, none⟩ = some (.bool a0_4) := bc BK229 4; have hfz10_0 := blk_frozen BK229.out 0; have hfz10_1 := blk_frozen BK229.out 1; have hfz10_2 := blk_frozen BK229.out 2; have hfz10_3 := blk_frozen BK229.out 3; have hfz10_4 := blk_frozen BK229.out 4) | ((with_reducible refine gate_callee (f := 13) rfl ?_); refine goesL_ (some 8) rfl rfl Try.func13 (by kernel_rfl) rfl #[.agg #[.int .i64 a0_0, .int .i64 a0_1, .int .i64 a0_2, .slice A0_3 l0_3.length c0_3, .bool a0_4]] rfl gl_ ?_; (with_reducible refine (spec_FopOk.calls k a0_0 a0_1 a0_2 _ _ l0_3 a0_4 true _ ?side1 ?side2 A3.out).mono ?_); (case side1 => exact cN (Kd.C_below HR0_3.out HB.out)); (case side2 => exact HC0_3.out); rintro e w11 ⟨rfl, hb⟩; refine ⟨_, rfl, ?_⟩; have n0_ := m_ (blk_below (kN BK229.out) hb); have n1_ := m_ (blk_below (kN BK230.out) hb); have n2_ := m_ (below_step (bN HB.out) hb); clear BK229; clear BK230; clear HB; have BK229 := n0_; have BK230 := n1_; have HB := n2_; clear n0_ n1_ n2_; (try clear hb); (try clear hb2); (try clear hk); (try clear hi); have hcz12_0 : w11.cell? ⟨gb229, 0, none⟩ = some (.int .i64 a0_0) := bc BK229 0; have hcz12_1 : w11.cell? ⟨gb229, 1, none⟩ = some (.int .i64 a0_1) := bc BK229 1; have hcz12_2 : w11.cell? ⟨gb229, 2, none⟩ = some (.int .i64 a0_2) := bc BK229 2; have hcz12_3 : w11.cell? ⟨gb229, 3, none⟩ = some (.slice A0_3 l0_3.length c0_3) := bc BK229 3; have hcz12_4 : w11.cell? ⟨gb229, 4, none⟩ = some (.bool a0_4) := bc BK229 4; have hfz12_0 := blk_frozen BK229.out 0; have hfz12_1 := blk_frozen BK229.out 1; have hfz12_2 := blk_frozen BK229.out 2; have hfz12_3 := blk_frozen BK229.out 3; have hfz12_4 := blk_frozen BK229.out 4) | ((with_reducible refine gate_callee (f := 39) rfl ?_); refine goesL_ (some 13) rfl rfl Try.func39 (by kernel_rfl) rfl #[.agg #[.int .i64 a0_0, .int .i64 a0_1, .int .i64 a0_2, .slice A0_3 l0_3.length c0_3, .bool a0_4]] rfl gl_ ?_; (with_reducible refine (spec_l5Copy.calls a0_0 a0_1 a0_2 _ _ l0_3 a0_4 t235 t236 t237 t238 t241 _ ?side1 ?side2 A5.out).mono ?_); (case side1 => exact cN (Kd.C_below HR0_3.out HB.out)); (case side2 => exact HC0_3.out); rintro e w13 ⟨v239, rfl, ho0, hb⟩; refine ⟨_, rfl, ?_⟩; have n0_ := m_ (Kd.R_lower ho0 (below_size (bN HB.out))); have n1_ := m_ (blk_below (kN BK229.out) hb); have n2_ := m_ (blk_below (kN BK230.out) hb); have n3_ := m_ (below_step (bN HB.out) hb); clear BK229; clear BK230; clear HB; have HO240 := n0_; have BK229 := n1_; have BK230 := n2_; have HB := n3_; clear n0_ n1_ n2_ n3_; (try clear hb); (try clear hb2); (try clear hk); (try clear hi); (try clear ho0)) | ((with_reducible refine gate_dst (N := 6) rfl ?_); (try (refine gate_guard (by rfl) ?_; dsimp only)); refine box_event ?hg (N := 6) ?hd (cs := #[.int .i64 0, .int .i64 0, .int .i64 0, .slice none 0 0, .bool false]) (t := 25) ?hr ?_; (case hd => rfl); (case hg => rfl); (case hr => first | (go_simp; done) | (go_simp; rfl)); intro gb242 hg w14 hbox hb; have n0_ := m_ (Kd.R_below (rN HO240.out) hb); have n1_ := m_ (blk_below (kN BK229.out) hb); have n2_ := m_ (blk_below (kN BK230.out) hb); have n3_ := m_ (below_step (bN HB.out) hb); have n4_ := m_ (hbox); have n5_ := m_ ((by rw [hg]; exact (below_size (bN HB.out)) : w.heap.size ≤ gb242)); have n6_ := m_ ((by rw [hg]; exact (below_size (bN HB.out)) : w.heap.size ≤ gb242)); have n7_ := m_ (nL hg BK229.out); have n8_ := m_ (nG hg BK229.out); have n9_ := m_ (nL hg BK230.out); have n10_ := m_ (nG hg BK230.out); clear HO240; clear BK229; clear BK230; clear HB; have HO240 := n0_; have BK229 := n1_; have BK230 := n2_; have HB := n3_; have BK242 := n4_; have GW242 := n5_; have GE242 := n6_; have NB229_242 := n7_; have NB242_229 := n8_; have NB230_242 := n9_; have NB242_230 := n10_; clear n0_ n1_ n2_ n3_ n4_ n5_ n6_ n7_ n8_ n9_ n10_; clear hb hbox hg; have hnb15 := NB242_229.out; have hnc15 := NB229_242.out; have hnb16 := NB242_230.out; have hnc16 := NB230_242.out; have hcz17_0 : w14.cell? ⟨gb242, 0, none⟩ = some (.int .i64 0) := bc BK242 0; have hcz17_1 : w14.cell? ⟨gb242, 1, none⟩ = some (.int .i64 0) := bc BK242 1; have hcz17_2 : w14.cell? ⟨gb242, 2, none⟩ = some (.int .i64 0) := bc BK242 2; have hcz17_3 : w14.cell? ⟨gb242, 3, none⟩ = some (.slice none 0 0) := bc BK242 3; have hcz17_4 : w14.cell? ⟨gb242, 4, none⟩ = some (.bool false) := bc BK242 4; have hfz17_0 := blk_frozen BK242.out 0; have hfz17_1 := blk_frozen BK242.out 1; have hfz17_2 := blk_frozen BK242.out 2; have hfz17_3 := blk_frozen BK242.out 3; have hfz17_4 := blk_frozen BK242.out 4; obtain ⟨Ao18, co18, eo18⟩ := Kd.R_slice HO240.out; subst eo18))
  (try simp only [Act.put, List.setIfInBounds_toArray, List.set_cons_zero, List.set_cons_succ])
  go_cut [27] (fun v27 wc => ∃ (kq : Nat) (x27_5 : Bool), v27 = .bool x27_5 ∧ Aside0 (spec_FopSend.j0 kq a1 x27_5 a0_0 a0_1 a0_2 l0_3 a0_4 t235 t236 t237 t238 t241 = some (r1, r2, r3, r4, r5, r6)) ∧ Aside0 (kq ≤ k) ∧ Aside0 (Kd.R Kd.string 9 wc w.heap.size (fun _ => True) (.slice Ao18 t238.length co18) t238) ∧ Aside0 (wc.heap[gb229]? = some (.cells #[.int .i64 a0_0, .int .i64 a0_1, .int .i64 a0_2, (.slice A0_3 l0_3.length c0_3), .bool a0_4] 25 (0, 0))) ∧ Aside0 (wc.heap[gb230]? = some (.cells #[.int .i64 0, .int .i64 0, .int .i64 0, (.slice none 0 0), .bool false] 25 (0, 0))) ∧ Aside0 (wc.heap[gb242]? = some (.cells #[.int .i64 t235, .int .i64 t236, .int .i64 t237, (.slice Ao18 t238.length co18), .bool t241] 25 (0, 0))) ∧ Aside0 (Below w.heap.size w wc))
  case first =>
   have H := HC6.out
   clear HC6
   by_cases c19 : a0_4 = true
   ·subst c19
    have H1 : (spec_FopSend.j0 k a1 true a0_0 a0_1 a0_2 l0_3 true t235 t236 t237 t238 t241) = some (r1, r2, r3, r4, r5, r6) := by rw [if_pos rfl] at H; exact H
    clear H
    have H := H1
    clear H1
    have H' := Aside0.mk H
    clear H
    have hnb20 := NB229_230.out
    have hnc20 := NB230_229.out
    have hnb21 := NB229_242.out
    have hnc21 := NB242_229.out
    have hcz22_0 : w14.cell? ⟨gb229, 0, none⟩ = some (.int .i64 a0_0) := bc BK229 0
    have hcz22_1 : w14.cell? ⟨gb229, 1, none⟩ = some (.int .i64 a0_1) := bc BK229 1
    have hcz22_2 : w14.cell? ⟨gb229, 2, none⟩ = some (.int .i64 a0_2) := bc BK229 2
    have hcz22_3 : w14.cell? ⟨gb229, 3, none⟩ = some (.slice A0_3 l0_3.length c0_3) := bc BK229 3
    have hcz22_4 : w14.cell? ⟨gb229, 4, none⟩ = some (.bool true) := bc BK229 4
    have hfz22_0 := blk_frozen BK229.out 0
    have hfz22_1 := blk_frozen BK229.out 1
    have hfz22_2 := blk_frozen BK229.out 2
    have hfz22_3 := blk_frozen BK229.out 3
    have hfz22_4 := blk_frozen BK229.out 4
    go_wp2
    go_meet
    case rel => exact ⟨_, (true), (by first | rfl | (simp; done) | (simp [*]; done)), H', ⟨by first | omega | exact Nat.le_refl _⟩, ⟨by (with_reducible repeat (first | apply Kd.R_alloc | apply Kd.R_drewN | apply Kd.R_drew)); exact frM (Kd.R_types HO240.out BK242.out (by decide))⟩, ⟨kF BK229.out NB229_242.out⟩, ⟨kF BK230.out NB230_242.out⟩, ⟨kP BK242.out⟩, ⟨by repeat (first | (with_reducible first | exact HB.out | apply below_alloc | apply pw_below_drewN | apply below_drew1 | refine below_set ?_ GE229.out | refine below_set ?_ GE230.out | refine below_set ?_ GE242.out) | exact HB.out)⟩⟩
   ·replace c19 := Bool.eq_false_iff.mpr c19
    subst c19
    have H1 : (if (l0_3.length : Int) ≥ 4 then (spec_FopSend.j0 k a1 true a0_0 a0_1 a0_2 l0_3 false t235 t236 t237 t238 t241) else ((spec_l1In.f (a1.size : Int) 1 53).bind fun t243 => (spec_FopSend.j0 k a1 (!t243) a0_0 a0_1 a0_2 l0_3 false t235 t236 t237 t238 t241))) = some (r1, r2, r3, r4, r5, r6) := by rw [if_neg (show ¬ (false = true) by decide)] at H; exact H
    clear H
    have H := H1
    clear H1
    by_cases c23 : (l0_3.length : Int) ≥ 4
    ·rw [if_pos c23] at H
     have c23b0 : decide (4 ≤ (l0_3.length : Int)) = true := decide_eq_true c23
     have c23b1 : decide (4 ≤ l0_3.length) = true := decide_eq_true (by omega)
     clear c23
     (first | rw [c23b0] | (simp only [i64_w, i32_w]; rw [c23b0]) | skip)
     have H' := Aside0.mk H
     clear H
     have hnb24 := NB229_230.out
     have hnc24 := NB230_229.out
     have hnb25 := NB229_242.out
     have hnc25 := NB242_229.out
     have hcz26_0 : w14.cell? ⟨gb229, 0, none⟩ = some (.int .i64 a0_0) := bc BK229 0
     have hcz26_1 : w14.cell? ⟨gb229, 1, none⟩ = some (.int .i64 a0_1) := bc BK229 1
     have hcz26_2 : w14.cell? ⟨gb229, 2, none⟩ = some (.int .i64 a0_2) := bc BK229 2
     have hcz26_3 : w14.cell? ⟨gb229, 3, none⟩ = some (.slice A0_3 l0_3.length c0_3) := bc BK229 3
     have hcz26_4 : w14.cell? ⟨gb229, 4, none⟩ = some (.bool false) := bc BK229 4
     have hfz26_0 := blk_frozen BK229.out 0
     have hfz26_1 := blk_frozen BK229.out 1
     have hfz26_2 := blk_frozen BK229.out 2
     have hfz26_3 := blk_frozen BK229.out 3
     have hfz26_4 := blk_frozen BK229.out 4
     go_wp2
     go_meet
     case rel => exact ⟨_, (true), (by first | rfl | (simp; done) | (simp [*]; done)), H', ⟨by first | omega | exact Nat.le_refl _⟩, ⟨by (with_reducible repeat (first | apply Kd.R_alloc | apply Kd.R_drewN | apply Kd.R_drew)); exact frM (Kd.R_types HO240.out BK242.out (by decide))⟩, ⟨kF BK229.out NB229_242.out⟩, ⟨kF BK230.out NB230_242.out⟩, ⟨kP BK242.out⟩, ⟨by repeat (first | (with_reducible first | exact HB.out | apply below_alloc | apply pw_below_drewN | apply below_drew1 | refine below_set ?_ GE229.out | refine below_set ?_ GE230.out | refine below_set ?_ GE242.out) | exact HB.out)⟩⟩
    ·rw [if_neg c23] at H
     have c23b0 : decide (4 ≤ (l0_3.length : Int)) = false := decide_eq_false c23
     have c23b1 : decide (4 ≤ l0_3.length) = false := decide_eq_false (by omega)
     clear c23
     (first | rw [c23b0] | (simp only [i64_w, i32_w]; rw [c23b0]) | skip)
     replace H := Option.bind_eq_some_iff.mp H
     obtain ⟨t243, A270, H⟩ := H
     replace H : (spec_FopSend.j0 k a1 (!t243) a0_0 a0_1 a0_2 l0_3 false t235 t236 t237 t238 t241) = some (r1, r2, r3, r4, r5, r6) := H
     have A27 := Aside0.mk A270
     clear A270
     have H' := Aside0.mk H
     clear H
     have hnb28 := NB229_230.out
     have hnc28 := NB230_229.out
     have hnb29 := NB229_242.out
     have hnc29 := NB242_229.out
     have hcz30_0 : w14.cell? ⟨gb229, 0, none⟩ = some (.int .i64 a0_0) := bc BK229 0
     have hcz30_1 : w14.cell? ⟨gb229, 1, none⟩ = some (.int .i64 a0_1) := bc BK229 1
     have hcz30_2 : w14.cell? ⟨gb229, 2, none⟩ = some (.int .i64 a0_2) := bc BK229 2
     have hcz30_3 : w14.cell? ⟨gb229, 3, none⟩ = some (.slice A0_3 l0_3.length c0_3) := bc BK229 3
     have hcz30_4 : w14.cell? ⟨gb229, 4, none⟩ = some (.bool false) := bc BK229 4
     have hfz30_0 := blk_frozen BK229.out 0
     have hfz30_1 := blk_frozen BK229.out 1
     have hfz30_2 := blk_frozen BK229.out 2
     have hfz30_3 := blk_frozen BK229.out 3
     have hfz30_4 := blk_frozen BK229.out 4
     go_wp2_with (first | (go_at_call 40; (with_reducible refine (spec_l1In.calls (a1.size : Int) 1 53 t243 _ A27.out).mono ?_); rintro e w' ⟨rfl, ⟨nd, rfl⟩⟩))
     go_meet
     case rel => exact ⟨_, (!t243), (by first | rfl | (simp; done) | (simp [*]; done)), H', ⟨by first | omega | exact Nat.le_refl _⟩, ⟨by (with_reducible repeat (first | apply Kd.R_alloc | apply Kd.R_drewN | apply Kd.R_drew)); exact frM (Kd.R_types HO240.out BK242.out (by decide))⟩, ⟨kF BK229.out NB229_242.out⟩, ⟨kF BK230.out NB230_242.out⟩, ⟨kP BK242.out⟩, ⟨by repeat (first | (with_reducible first | exact HB.out | apply below_alloc | apply pw_below_drewN | apply below_drew1 | refine below_set ?_ GE229.out | refine below_set ?_ GE230.out | refine below_set ?_ GE242.out) | exact HB.out)⟩⟩
  case rest =>
   clear HC6
   try clear c1
   try clear c2
   try clear p2
   try clear c3
   try clear c4
   try clear c9
   try clear c13
   try clear c15
   try clear c16
   try clear c19
   try clear c20
   try clear c21
   try clear c23
   try clear c23b0
   try clear c23b1
   try clear c24
   try clear c25
   try clear c28
   try clear c29
   try clear hcz10_0
   try clear hcz10_1
   try clear hcz10_2
   try clear hcz10_3
   try clear hcz10_4
   try clear hcz12_0
   try clear hcz12_1
   try clear hcz12_2
   try clear hcz12_3
   try clear hcz12_4
   try clear hcz17_0
   try clear hcz17_1
   try clear hcz17_2
   try clear hcz17_3
   try clear hcz17_4
   try clear hcz22_0
   try clear hcz22_1
   try clear hcz22_2
   try clear hcz22_3
   try clear hcz22_4
   try clear hcz26_0
   try clear hcz26_1
   try clear hcz26_2
   try clear hcz26_3
   try clear hcz26_4
   try clear hcz30_0
   try clear hcz30_1
   try clear hcz30_2
   try clear hcz30_3
   try clear hcz30_4
   try clear hfz10_0
   try clear hfz10_1
   try clear hfz10_2
   try clear hfz10_3
   try clear hfz10_4
   try clear hfz12_0
   try clear hfz12_1
   try clear hfz12_2
   try clear hfz12_3
   try clear hfz12_4
   try clear hfz17_0
   try clear hfz17_1
   try clear hfz17_2
   try clear hfz17_3
   try clear hfz17_4
   try clear hfz22_0
   try clear hfz22_1
   try clear hfz22_2
   try clear hfz22_3
   try clear hfz22_4
   try clear hfz26_0
   try clear hfz26_1
   try clear hfz26_2
   try clear hfz26_3
   try clear hfz26_4
   try clear hfz30_0
   try clear hfz30_1
   try clear hfz30_2
   try clear hfz30_3
   try clear hfz30_4
   obtain ⟨kq, x27_5, rfl, HA, HJ5, HO_243003, BK229, BK230, BK242, HB⟩ := hcut
   cases kq with
   | zero => exact absurd HA.out (by simp [spec_FopSend.j0])
   | succ kj5 =>
    have H := HA.out
    clear HA
    simp only [spec_FopSend.j0] at H
    by_cases c31 : x27_5 = true
    ·subst c31
     have H1 : (some (t235, t236, t237, t238, t241, (([] : List (S35))))) = some (r1, r2, r3, r4, r5, r6) := by rw [if_pos rfl] at H; exact H
     clear H
     have H := H1
     clear H1
     obtain ⟨y244, hy244⟩ : ∃ y_ : List (S35), y_ = (([] : List (S35))) := ⟨_, rfl⟩
     replace H : (some (t235, t236, t237, t238, t241, y244)) = some (r1, r2, r3, r4, r5, r6) := by first | (rw [hy244]; with_reducible exact H) | (have H2_ := (Option.bind_some _ _).symm.trans H; rw [hy244]; with_reducible exact H2_) | (have H2_ := (Option.bind_some _ _).symm.trans H; with_reducible exact H2_) | with_reducible exact H | (rw [hy244]; exact H) | exact H
     have Ny244 := Aside0.mk hy244
     clear hy244
     simp only [Option.some.injEq, Prod.mk.injEq] at H
     obtain ⟨rfl, rfl, rfl, rfl, rfl, rfl⟩ := H
     have hnb32 := NB242_229.out
     have hnc32 := NB229_242.out
     have hnb33 := NB242_230.out
     have hnc33 := NB230_242.out
     have hcz34_0 : wc.cell? ⟨gb242, 0, none⟩ = some (.int .i64 t235) := bc BK242 0
     have hcz34_1 : wc.cell? ⟨gb242, 1, none⟩ = some (.int .i64 t236) := bc BK242 1
     have hcz34_2 : wc.cell? ⟨gb242, 2, none⟩ = some (.int .i64 t237) := bc BK242 2
     have hcz34_3 : wc.cell? ⟨gb242, 3, none⟩ = some (.slice Ao18 t238.length co18) := bc BK242 3
     have hcz34_4 : wc.cell? ⟨gb242, 4, none⟩ = some (.bool t241) := bc BK242 4
     have hfz34_0 := blk_frozen BK242.out 0
     have hfz34_1 := blk_frozen BK242.out 1
     have hfz34_2 := blk_frozen BK242.out 2
     have hfz34_3 := blk_frozen BK242.out 3
     have hfz34_4 := blk_frozen BK242.out 4
     go_wp2_with (first | ((with_reducible refine gate_dst (N := 29) rfl ?_); (try (refine gate_guard (by rfl) ?_; dsimp only)); refine Kd.R_lit k35 _ 35 ?hg (N := 29) ?hd (xs := ([] : List (S35))) (inner := []) (ok := fun _ => True) (okp := fun _ => True) ?hr ?hp (fun _ hk => hk) trivial (Below.refl _ _) (Nat.le_refl _) (by simp) ?_; (case hd => rfl); (case hg => rfl); (case hr => first | (go_simp; done) | (go_simp; rfl)); (case hp => exact (Reps.none _ _)); intro v245 w35 ho36 hb hg_ hnew_; clear hg_ hnew_; (first | rw [← Ny244.out] at ho36 | (simp only [Int.reduceToNat] at ho36; rw [← Ny244.out] at ho36)); have n0_ := m_ (Kd.R_below (rN HO_243003.out) hb); have n1_ := m_ (Kd.R_lower ho36 (below_size (bN HB.out))); have n2_ := m_ (blk_below (kN BK229.out) hb); have n3_ := m_ (blk_below (kN BK230.out) hb); have n4_ := m_ (blk_below (kN BK242.out) hb); have n5_ := m_ (below_step (bN HB.out) hb); clear HO_243003; clear BK229; clear BK230; clear BK242; clear HB; have HO_243003 := n0_; have HO246 := n1_; have BK229 := n2_; have BK230 := n3_; have BK242 := n4_; have HB := n5_; clear n0_ n1_ n2_ n3_ n4_ n5_; clear hb ho36; have hnb37 := NB230_229.out; have hnc37 := NB229_230.out; have hcz38_0 : w35.cell? ⟨gb230, 0, none⟩ = some (.int .i64 0) := bc BK230 0; have hcz38_1 : w35.cell? ⟨gb230, 1, none⟩ = some (.int .i64 0) := bc BK230 1; have hcz38_2 : w35.cell? ⟨gb230, 2, none⟩ = some (.int .i64 0) := bc BK230 2; have hcz38_3 : w35.cell? ⟨gb230, 3, none⟩ = some (.slice none 0 0) := bc BK230 3; have hcz38_4 : w35.cell? ⟨gb230, 4, none⟩ = some (.bool false) := bc BK230 4; have hfz38_0 := blk_frozen BK230.out 0; have hfz38_1 := blk_frozen BK230.out 1; have hfz38_2 := blk_frozen BK230.out 2; have hfz38_3 := blk_frozen BK230.out 3; have hfz38_4 := blk_frozen BK230.out 4))
     refine bodyPost_ret (results_ct rfl _ _ gb230 25 #[.int .i64 t235, .int .i64 t236, .int .i64 t237, .slice Ao18 t238.length co18, .bool t241] (0, 0) _ rfl (kP BK230.out) Try.underlying25 rfl (by kernel_rfl)) rfl ?_
     exact ⟨_, _, by first | rfl | (simp [errW_none, errW_some] <;> rfl) | (simp [*, errW_none, errW_some] <;> rfl), by (with_reducible repeat (first | apply Kd.R_alloc | apply Kd.R_drewN | apply Kd.R_drew)); exact frM (Kd.R_types HO_243003.out BK230.out (by decide)), by (with_reducible repeat (first | apply Kd.R_alloc | apply Kd.R_drewN | apply Kd.R_drew)); exact frM (Kd.R_types HO246.out BK230.out (by decide)), by repeat (first | (with_reducible first | exact HB.out | apply below_alloc | apply pw_below_drewN | apply below_drew1 | refine below_set ?_ GE229.out | refine below_set ?_ GE230.out | refine below_set ?_ GE242.out) | exact HB.out)⟩
    ·replace c31 := Bool.eq_false_iff.mpr c31
     subst c31
     have H1 : (if t238.length < 8796093022208 then ((spec_l4Mod.f (wrap64 (a0_2 + 1))).bind fun t250 => ((spec_l5Frame.f a0_0 a0_1 a0_2 l0_3 a0_4 a0_2 a1).bind fun bt251 => (some (t235, t236, t250, (t238 ++ [a1]), t241, (([(⟨bt251.1, bt251.2.1, bt251.2.2.1, bt251.2.2.2.1, bt251.2.2.2.2.1, bt251.2.2.2.2.2⟩ : S35)] : List (S35))))))) else (none)) = some (r1, r2, r3, r4, r5, r6) := by rw [if_neg (show ¬ (false = true) by decide)] at H; exact H
     clear H
     have H := H1
     clear H1
     by_cases c39 : t238.length < 8796093022208
     ·rw [if_pos c39] at H
      have LMc39 := Aside0.mk c39
      clear c39
      obtain ⟨y247, hy247⟩ : ∃ y_ : List ByteArray, y_ = (t238 ++ [a1]) := ⟨_, rfl⟩
      replace H : ((spec_l4Mod.f (wrap64 (a0_2 + 1))).bind fun t250 => ((spec_l5Frame.f a0_0 a0_1 a0_2 l0_3 a0_4 a0_2 a1).bind fun bt251 => (some (t235, t236, t250, y247, t241, (([(⟨bt251.1, bt251.2.1, bt251.2.2.1, bt251.2.2.2.1, bt251.2.2.2.2.1, bt251.2.2.2.2.2⟩ : S35)] : List (S35))))))) = some (r1, r2, r3, r4, r5, r6) := by first | (rw [hy247]; with_reducible exact H) | (have H2_ := (Option.bind_some _ _).symm.trans H; rw [hy247]; with_reducible exact H2_) | (have H2_ := (Option.bind_some _ _).symm.trans H; with_reducible exact H2_) | with_reducible exact H | (rw [hy247]; exact H) | exact H
      have Ny247 := Aside0.mk hy247
      clear hy247
      replace H := Option.bind_eq_some_iff.mp H
      obtain ⟨t250, A400, H⟩ := H
      replace H : ((spec_l5Frame.f a0_0 a0_1 a0_2 l0_3 a0_4 a0_2 a1).bind fun bt251 => (some (t235, t236, t250, y247, t241, (([(⟨bt251.1, bt251.2.1, bt251.2.2.1, bt251.2.2.2.1, bt251.2.2.2.2.1, bt251.2.2.2.2.2⟩ : S35)] : List (S35)))))) = some (r1, r2, r3, r4, r5, r6) := H
      have A40 := Aside0.mk A400
      clear A400
      replace H := Option.bind_eq_some_iff.mp H
      obtain ⟨⟨t251, t252, t253, t254, t255, t256⟩, A410, H⟩ := H
      replace H : (some (t235, t236, t250, y247, t241, (([(⟨t251, t252, t253, t254, t255, t256⟩ : S35)] : List (S35))))) = some (r1, r2, r3, r4, r5, r6) := H
      have A41 := Aside0.mk A410
      clear A410
      obtain ⟨y257, hy257⟩ : ∃ y_ : List (S35), y_ = (([(⟨t251, t252, t253, t254, t255, t256⟩ : S35)] : List (S35))) := ⟨_, rfl⟩
      replace H : (some (t235, t236, t250, y247, t241, y257)) = some (r1, r2, r3, r4, r5, r6) := by first | (rw [hy257]; with_reducible exact H) | (have H2_ := (Option.bind_some _ _).symm.trans H; rw [hy257]; with_reducible exact H2_) | (have H2_ := (Option.bind_some _ _).symm.trans H; with_reducible exact H2_) | with_reducible exact H | (rw [hy257]; exact H) | exact H
      have Ny257 := Aside0.mk hy257
      clear hy257
      simp only [Option.some.injEq, Prod.mk.injEq] at H
      obtain ⟨rfl, rfl, rfl, rfl, rfl, rfl⟩ := H
      have hnb42 := NB242_229.out
      have hnc42 := NB229_242.out
      have hnb43 := NB242_230.out
      have hnc43 := NB230_242.out
      have hcz44_0 : wc.cell? ⟨gb242, 0, none⟩ = some (.int .i64 t235) := bc BK242 0
      have hcz44_1 : wc.cell? ⟨gb242, 1, none⟩ = some (.int .i64 t236) := bc BK242 1
      have hcz44_2 : wc.cell? ⟨gb242, 2, none⟩ = some (.int .i64 t237) := bc BK242 2
      have hcz44_3 : wc.cell? ⟨gb242, 3, none⟩ = some (.slice Ao18 t238.length co18) := bc BK242 3
      have hcz44_4 : wc.cell? ⟨gb242, 4, none⟩ = some (.bool t241) := bc BK242 4
      have hfz44_0 := blk_frozen BK242.out 0
      have hfz44_1 := blk_frozen BK242.out 1
      have hfz44_2 := blk_frozen BK242.out 2
      have hfz44_3 := blk_frozen BK242.out 3
      have hfz44_4 := blk_frozen BK242.out 4
      try go_wp2_with (first | ((with_reducible refine gate_builtin (b := .append) (xs := #[.tmp 31, .tmp 33]) rfl ?_); (try (refine gate_guard (by rfl) ?_; dsimp only)); at_builtin; refine Kd.R_append Kd.string (w0 := w) w.heap.size rfl (.tmp 31) (.tmp 33) 23 9 (.string ⟨#[]⟩) 16 rfl Try.underlying23 info9 rfl (by decide) (by omega) (.slice Ao18 t238.length co18) t238 a1 [.string a1] (fun _ => True) (fun _ => False) rfl rfl ?aP (fun _ hk => hk.elim) ?aF ?aO ?aB ?aS ?aL ?_; (case aP => exact rfl); (case aB => exact (bN HB.out)); (case aF => exact (fun _ _ => trivial)); (case aO => exact (rN HO_243003.out)); (case aS => exact (below_size (bN HB.out))); (case aL => have := LMc39.out; omega); intro v248 w45 ho hb hg hat; rw [← Ny247.out] at ho; have n0_ := m_ (blk_grown (g := gb229) (o := .cells #[.int .i64 a0_0, .int .i64 a0_1, .int .i64 a0_2, .slice A0_3 l0_3.length c0_3, .bool a0_4] 25 (0, 0)) (kN BK229.out) hg (Kd.R_ne HO_243003.out BK229.out (by decide))); have n1_ := m_ (blk_grown (g := gb230) (o := .cells #[.int .i64 0, .int .i64 0, .int .i64 0, .slice none 0 0, .bool false] 25 (0, 0)) (kN BK230.out) hg (Kd.R_ne HO_243003.out BK230.out (by decide))); have n2_ := m_ (blk_grown (g := gb242) (o := .cells #[.int .i64 t235, .int .i64 t236, .int .i64 t237, .slice Ao18 t238.length co18, .bool t241] 25 (0, 0)) (kN BK242.out) hg (Kd.R_ne HO_243003.out BK242.out (by decide))); have n3_ := m_ (hb); have n4_ := m_ (ho); clear BK229; clear BK230; clear BK242; clear HB; clear HO_243003; have BK229 := n0_; have BK230 := n1_; have BK242 := n2_; have HB := n3_; have HO249 := n4_; clear n0_ n1_ n2_ n3_ n4_; clear ho hb hg hat; obtain ⟨Ao46, co46, eo46⟩ := Kd.R_slice HO249.out; subst eo46; have hcz47_0 : w45.cell? ⟨gb242, 0, none⟩ = some (.int .i64 t235) := bc BK242 0; have hcz47_1 : w45.cell? ⟨gb242, 1, none⟩ = some (.int .i64 t236) := bc BK242 1; have hcz47_2 : w45.cell? ⟨gb242, 2, none⟩ = some (.int .i64 t237) := bc BK242 2; have hcz47_3 : w45.cell? ⟨gb242, 3, none⟩ = some (.slice Ao18 t238.length co18) := bc BK242 3; have hcz47_4 : w45.cell? ⟨gb242, 4, none⟩ = some (.bool t241) := bc BK242 4; have hfz47_0 := blk_frozen BK242.out 0; have hfz47_1 := blk_frozen BK242.out 1; have hfz47_2 := blk_frozen BK242.out 2; have hfz47_3 := blk_frozen BK242.out 3; have hfz47_4 := blk_frozen BK242.out 4; have hnb48 := NB229_230.out; have hnc48 := NB230_229.out; have hcz49_0 : w45.cell? ⟨gb229, 0, none⟩ = some (.int .i64 a0_0) := bc BK229 0; have hcz49_1 : w45.cell? ⟨gb229, 1, none⟩ = some (.int .i64 a0_1) := bc BK229 1; have hcz49_2 : w45.cell? ⟨gb229, 2, none⟩ = some (.int .i64 a0_2) := bc BK229 2; have hcz49_3 : w45.cell? ⟨gb229, 3, none⟩ = some (.slice A0_3 l0_3.length c0_3) := bc BK229 3; have hcz49_4 : w45.cell? ⟨gb229, 4, none⟩ = some (.bool a0_4) := bc BK229 4; have hfz49_0 := blk_frozen BK229.out 0; have hfz49_1 := blk_frozen BK229.out 1; have hfz49_2 := blk_frozen BK229.out 2; have hfz49_3 := blk_frozen BK229.out 3; have hfz49_4 := blk_frozen BK229.out 4) | ((with_reducible refine gate_callee (f := 41) rfl ?_); refine goesL_ (some 39) rfl rfl Try.func41 (by kernel_rfl) rfl #[.int .i64 (wrap64 (a0_2 + 1))] rfl gl_ ?_; (with_reducible refine (spec_l4Mod.calls (wrap64 (a0_2 + 1)) t250 _ A40.out).mono ?_); rintro e w' ⟨rfl, ⟨nd, rfl⟩⟩; refine ⟨_, rfl, ?_⟩))
      have n0_ : Aside0 (Kd.R Kd.string 9 ((w45.setCell ⟨gb242, 3, none⟩ (.slice Ao46 y247.length co46)).setCell ⟨gb242, 2, none⟩ (.int .i64 t250)) w.heap.size (fun _ => True) (.slice Ao46 y247.length co46) y247) := ⟨by (with_reducible repeat (first | apply Kd.R_alloc | apply Kd.R_drewN | apply Kd.R_drew)); exact frM (Kd.R_types HO249.out BK242.out (by decide))⟩
      have n1_ : Aside0 (((w45.setCell ⟨gb242, 3, none⟩ (.slice Ao46 y247.length co46)).setCell ⟨gb242, 2, none⟩ (.int .i64 t250)).heap[gb229]? = some (.cells #[.int .i64 a0_0, .int .i64 a0_1, .int .i64 a0_2, .slice A0_3 l0_3.length c0_3, .bool a0_4] 25 (0, 0))) := ⟨kF BK229.out NB229_242.out⟩
      have n2_ : Aside0 (((w45.setCell ⟨gb242, 3, none⟩ (.slice Ao46 y247.length co46)).setCell ⟨gb242, 2, none⟩ (.int .i64 t250)).heap[gb230]? = some (.cells #[.int .i64 0, .int .i64 0, .int .i64 0, .slice none 0 0, .bool false] 25 (0, 0))) := ⟨kF BK230.out NB230_242.out⟩
      have n3_ : Aside0 (((w45.setCell ⟨gb242, 3, none⟩ (.slice Ao46 y247.length co46)).setCell ⟨gb242, 2, none⟩ (.int .i64 t250)).heap[gb242]? = some (.cells #[.int .i64 t235, .int .i64 t236, .int .i64 t250, .slice Ao46 y247.length co46, .bool t241] 25 (0, 0))) := ⟨kP BK242.out⟩
      have n4_ : Aside0 (Below w.heap.size w ((w45.setCell ⟨gb242, 3, none⟩ (.slice Ao46 y247.length co46)).setCell ⟨gb242, 2, none⟩ (.int .i64 t250))) := ⟨by repeat (first | (with_reducible first | exact HB.out | apply below_alloc | apply pw_below_drewN | apply below_drew1 | refine below_set ?_ GE229.out | refine below_set ?_ GE230.out | refine below_set ?_ GE242.out) | exact HB.out)⟩
      (try clear HO249)
      (try clear BK229)
      (try clear BK230)
      (try clear BK242)
      (try clear HB)
      (repeat rw [sdN])
      generalize ((w45.setCell ⟨gb242, 3, none⟩ (.slice Ao46 y247.length co46)).setCell ⟨gb242, 2, none⟩ (.int .i64 t250)) = w50 at n0_ n1_ n2_ n3_ n4_ ⊢
      have HO249 := n0_
      have BK229 := n1_
      have BK230 := n2_
      have BK242 := n3_
      have HB := n4_
      clear n0_ n1_ n2_ n3_ n4_
      (try (rw [drewN_self w50]; generalize hq_ : World.drewN w50 _ = w50; have n0_ : Aside0 (Kd.R Kd.string 9 w50 w.heap.size (fun _ => True) (.slice Ao46 y247.length co46) y247) := ⟨by rw [← hq_]; exact (rN HO249.out)⟩; have n1_ : Aside0 (w50.heap[gb229]? = some (.cells #[.int .i64 a0_0, .int .i64 a0_1, .int .i64 a0_2, .slice A0_3 l0_3.length c0_3, .bool a0_4] 25 (0, 0))) := ⟨by rw [← hq_]; exact (kN BK229.out)⟩; have n2_ : Aside0 (w50.heap[gb230]? = some (.cells #[.int .i64 0, .int .i64 0, .int .i64 0, .slice none 0 0, .bool false] 25 (0, 0))) := ⟨by rw [← hq_]; exact (kN BK230.out)⟩; have n3_ : Aside0 (w50.heap[gb242]? = some (.cells #[.int .i64 t235, .int .i64 t236, .int .i64 t250, .slice Ao46 y247.length co46, .bool t241] 25 (0, 0))) := ⟨by rw [← hq_]; exact (kN BK242.out)⟩; have n4_ : Aside0 (Below w.heap.size w w50) := ⟨by rw [← hq_]; exact (bN HB.out)⟩; clear HO249 BK229 BK230 BK242 HB hq_; have HO249 := n0_; have BK229 := n1_; have BK230 := n2_; have BK242 := n3_; have HB := n4_; clear n0_ n1_ n2_ n3_ n4_))
      have n0_ := m_ (Kd.R_drew HO249.out)
      have n1_ := m_ (blk_drew BK229.out)
      have n2_ := m_ (blk_drew BK230.out)
      have n3_ := m_ (blk_drew BK242.out)
      have n4_ := m_ (below_drew1 HB.out)
      clear HO249
      clear BK229
      clear BK230
      clear BK242
      clear HB
      have HO249 := n0_
      have BK229 := n1_
      have BK230 := n2_
      have BK242 := n3_
      have HB := n4_
      clear n0_ n1_ n2_ n3_ n4_
      refine start_ (n := 9) (S := fun w' => True) (ds := []) #[false, false, false, false, false, false, false, false, false] (by kernel_rfl) rfl rfl trivial (fun hHeld => ?_); refine with_tabW spec_FopSend.tab8 spec_FopSend.bits8 (fun HT_ HW_ => ?_)
      generalize w50.drew = w51 at HO249 BK229 BK230 BK242 HB hHeld ⊢
      refine pu 2 43 HT_ (h := ?_)
      refine pu 4 45 HT_ (h := ?_)
      refine inv_at [0, 1, 3, 5, 6, 7, 8] (fun a0_ b a w' => ∃ (v258 : Value) (m8_ : Value), a = putSel a0_ b [(0, 41, .agg #[.int .i64 t235, .int .i64 t236, .int .i64 t250, .slice Ao46 y247.length co46, .bool t241]), (1, 42, .agg #[.int .i64 a0_0, .int .i64 a0_1, .int .i64 a0_2, .slice A0_3 l0_3.length c0_3, .bool a0_4]), (3, 44, .int .i64 a0_2), (5, 46, .agg #[.bool t251, .bool t252, .int .i64 t253, .int .i64 t254, .int .i64 t255, .string t256]), (6, 47, v258), (8, 5, m8_)] ∧ (Kd.R Kd.string 9 w' w.heap.size (fun _ => True) (.slice Ao46 y247.length co46) y247) ∧ (w'.heap[gb229]? = some (.cells #[.int .i64 a0_0, .int .i64 a0_1, .int .i64 a0_2, .slice A0_3 l0_3.length c0_3, .bool a0_4] 25 (0, 0))) ∧ (b 7 = false → w'.heap[gb230]? = some (.cells #[.int .i64 0, .int .i64 0, .int .i64 0, .slice none 0 0, .bool false] 25 (0, 0))) ∧ (w'.heap[gb242]? = some (.cells #[.int .i64 t235, .int .i64 t236, .int .i64 t250, .slice Ao46 y247.length co46, .bool t241] 25 (0, 0))) ∧ (Below w.heap.size w w') ∧ (b 6 = true → Kd.R k35 35 w' w.heap.size (fun _ => True) v258 y257) ∧ (b 7 = true → w'.heap[gb230]? = some (.cells #[.int .i64 t235, .int .i64 t236, .int .i64 t250, .slice Ao46 y247.length co46, .bool t241] 25 (0, 0))) ∧ (b 8 = true → (m8_ : Value) = v258)) HT_.out HW_.out (by kernel_rfl) (by kernel_rfl) ?_ ?_ ?_
      ·exact ⟨.bool false, .bool false, by simp only [putSel, Bool.false_eq_true, if_false], HO249.out, BK229.out, fun _ => BK230.out, BK242.out, HB.out, fun h_ => absurd h_ (by decide), fun h_ => absurd h_ (by decide), fun h_ => absurd h_ (by decide)⟩
      ·skip
       clear BK229 BK230 BK242 HB HO249
       refine steps_cons ?_ ?_
       ·rintro b a w' ⟨v258, m8_, ha, Q_HO249, Q_BK229, Q_BK230, Q_BK242, Q_HB, Q_HO259, Q_BK230_e7, Q_X8_⟩ hb_ hon hoff
        refine ⟨_, rfl, fun K hK => ?_⟩
        have e6 : a.tmps[6]? = some (.pointer (some ⟨gb242, 0, none⟩)) := by rw [ha]; exact (putSel_off rfl).trans rfl
        replace ha := Aside0.mk ha
        have HO249 := Aside0.mk Q_HO249
        have BK229 := Aside0.mk Q_BK229
        have BK230 := m_ (Q_BK230 (hoff 7 (by kernel_rfl)))
        have BK242 := Aside0.mk Q_BK242
        have HB := Aside0.mk Q_HB
        have hc0_ : w'.cell? ⟨gb242, 0, none⟩ = some (.int .i64 t235) := bc BK242 0
        have hc1_ : w'.cell? ⟨gb242, 1, none⟩ = some (.int .i64 t236) := bc BK242 1
        have hc2_ : w'.cell? ⟨gb242, 2, none⟩ = some (.int .i64 t250) := bc BK242 2
        have hc3_ : w'.cell? ⟨gb242, 3, none⟩ = some (.slice Ao46 y247.length co46) := bc BK242 3
        have hc4_ : w'.cell? ⟨gb242, 4, none⟩ = some (.bool t241) := bc BK242 4
        refine value_ (w1 := w') (v := .agg #[.int .i64 t235, .int .i64 t236, .int .i64 t250, .slice Ao46 y247.length co46, .bool t241]) (by rfl) rfl ?_ ?_
        ·go_simp
         (try simp only [i64_w])
         try rfl
        refine hK.out _ _ ⟨v258, m8_, (by rw [ha.out]; exact putSel_upk 0 hb_ rfl rfl rfl), Q_HO249, Q_BK229, Q_BK230, Q_BK242, Q_HB, Q_HO259, fun h0_ => absurd ((hoff 7 (by kernel_rfl)).symm.trans h0_) (by decide), fun h0_ => absurd ((hoff 8 (by kernel_rfl)).symm.trans h0_) (by decide)⟩
       refine steps_cons ?_ ?_
       ·rintro b a w' ⟨v258, m8_, ha, Q_HO249, Q_BK229, Q_BK230, Q_BK242, Q_HB, Q_HO259, Q_BK230_e7, Q_X8_⟩ hb_ hon hoff
        refine ⟨_, rfl, fun K hK => ?_⟩
        have e2 : a.tmps[2]? = some (.pointer (some ⟨gb229, 0, none⟩)) := by rw [ha]; exact (putSel_off rfl).trans rfl
        replace ha := Aside0.mk ha
        have HO249 := Aside0.mk Q_HO249
        have BK229 := Aside0.mk Q_BK229
        have BK230 := m_ (Q_BK230 (hoff 7 (by kernel_rfl)))
        have BK242 := Aside0.mk Q_BK242
        have HB := Aside0.mk Q_HB
        have hc0_ : w'.cell? ⟨gb229, 0, none⟩ = some (.int .i64 a0_0) := bc BK229 0
        have hc1_ : w'.cell? ⟨gb229, 1, none⟩ = some (.int .i64 a0_1) := bc BK229 1
        have hc2_ : w'.cell? ⟨gb229, 2, none⟩ = some (.int .i64 a0_2) := bc BK229 2
        have hc3_ : w'.cell? ⟨gb229, 3, none⟩ = some (.slice A0_3 l0_3.length c0_3) := bc BK229 3
        have hc4_ : w'.cell? ⟨gb229, 4, none⟩ = some (.bool a0_4) := bc BK229 4
        refine value_ (w1 := w') (v := .agg #[.int .i64 a0_0, .int .i64 a0_1, .int .i64 a0_2, .slice A0_3 l0_3.length c0_3, .bool a0_4]) (by rfl) rfl ?_ ?_
        ·go_simp
         (try simp only [i64_w])
         try rfl
        refine hK.out _ _ ⟨v258, m8_, (by rw [ha.out]; exact putSel_upk 1 hb_ rfl rfl rfl), Q_HO249, Q_BK229, Q_BK230, Q_BK242, Q_HB, fun h0_ => absurd ((hoff 6 (by kernel_rfl)).symm.trans h0_) (by decide), fun h0_ => absurd ((hoff 7 (by kernel_rfl)).symm.trans h0_) (by decide), fun h0_ => absurd ((hoff 8 (by kernel_rfl)).symm.trans h0_) (by decide)⟩
       refine steps_cons ?_ ?_
       ·rintro b a w' ⟨v258, m8_, ha, Q_HO249, Q_BK229, Q_BK230, Q_BK242, Q_HB, Q_HO259, Q_BK230_e7, Q_X8_⟩ hb_ hon hoff
        refine ⟨_, rfl, fun K hK => ?_⟩
        have e43 : a.tmps[43]? = some (.pointer (some ⟨gb229, 2, none⟩)) := by rw [ha]; exact (putSel_off rfl).trans rfl
        replace ha := Aside0.mk ha
        have HO249 := Aside0.mk Q_HO249
        have BK229 := Aside0.mk Q_BK229
        have BK230 := m_ (Q_BK230 (hoff 7 (by kernel_rfl)))
        have BK242 := Aside0.mk Q_BK242
        have HB := Aside0.mk Q_HB
        have hc0_ : w'.cell? ⟨gb229, 0, none⟩ = some (.int .i64 a0_0) := bc BK229 0
        have hc1_ : w'.cell? ⟨gb229, 1, none⟩ = some (.int .i64 a0_1) := bc BK229 1
        have hc2_ : w'.cell? ⟨gb229, 2, none⟩ = some (.int .i64 a0_2) := bc BK229 2
        have hc3_ : w'.cell? ⟨gb229, 3, none⟩ = some (.slice A0_3 l0_3.length c0_3) := bc BK229 3
        have hc4_ : w'.cell? ⟨gb229, 4, none⟩ = some (.bool a0_4) := bc BK229 4
        refine value_ (w1 := w') (v := .int .i64 a0_2) (by rfl) rfl ?_ ?_
        ·go_simp
         (try simp only [i64_w])
         try rfl
        refine hK.out _ _ ⟨v258, m8_, (by rw [ha.out]; exact putSel_upk 2 hb_ rfl rfl rfl), Q_HO249, Q_BK229, Q_BK230, Q_BK242, Q_HB, fun h0_ => absurd ((hoff 6 (by kernel_rfl)).symm.trans h0_) (by decide), fun h0_ => absurd ((hoff 7 (by kernel_rfl)).symm.trans h0_) (by decide), fun h0_ => absurd ((hoff 8 (by kernel_rfl)).symm.trans h0_) (by decide)⟩
       refine steps_cons ?_ ?_
       ·rintro b a w' ⟨v258, m8_, ha, Q_HO249, Q_BK229, Q_BK230, Q_BK242, Q_HB, Q_HO259, Q_BK230_e7, Q_X8_⟩ hb_ hon hoff
        refine ⟨_, rfl, fun K hK => ?_⟩
        have e42 : a.tmps[42]? = some (.agg #[.int .i64 a0_0, .int .i64 a0_1, .int .i64 a0_2, .slice A0_3 l0_3.length c0_3, .bool a0_4]) := by rw [ha]; exact putSel_on (e := (1, 42, .agg #[.int .i64 a0_0, .int .i64 a0_1, .int .i64 a0_2, .slice A0_3 l0_3.length c0_3, .bool a0_4])) 1 rfl rfl (hon 1 (by kernel_rfl)) rfl
        have e44 : a.tmps[44]? = some (.int .i64 a0_2) := by rw [ha]; exact putSel_on (e := (3, 44, .int .i64 a0_2)) 2 rfl rfl (hon 3 (by kernel_rfl)) rfl
        have e45 : a.tmps[45]? = some (.string a1) := by rw [ha]; exact (putSel_off rfl).trans rfl
        replace ha := Aside0.mk ha
        have HO249 := Aside0.mk Q_HO249
        have BK229 := Aside0.mk Q_BK229
        have BK230 := m_ (Q_BK230 (hoff 7 (by kernel_rfl)))
        have BK242 := Aside0.mk Q_BK242
        have HB := Aside0.mk Q_HB
        refine goes_ Try.func42 (by kernel_rfl) rfl #[.agg #[.int .i64 a0_0, .int .i64 a0_1, .int .i64 a0_2, .slice A0_3 l0_3.length c0_3, .bool a0_4], .int .i64 a0_2, .string a1] (by rfl) rfl rfl (by first | (simp only [List.map_toArray, List.map_cons, List.map_nil, Act.eval, Array.getD_eq_getD_getElem?, Option.getD_some, e42, e44, e45]; done) | (simp only [List.map_toArray, List.map_cons, List.map_nil, Act.eval, Array.getD_eq_getD_getElem?, Option.getD_some, e42, e44, e45]; rfl)) ?_
        with_reducible refine (spec_l5Frame.calls a0_0 a0_1 a0_2 _ _ l0_3 a0_4 a0_2 a1 t251 t252 t253 t254 t255 t256 _ ?side1 ?side2 A41.out).mono ?_
        (case side1 => exact cN (Kd.C_below HR0_3.out HB.out))
        (case side2 => exact HC0_3.out)
        rintro e w52 ⟨rfl, hb⟩
        refine ⟨_, rfl, ?_⟩
        have n0_ := m_ (Kd.R_below (rN HO249.out) hb)
        have n1_ := m_ (blk_below (kN BK229.out) hb)
        have n2_ := m_ (blk_below (kN BK230.out) hb)
        have n3_ := m_ (blk_below (kN BK242.out) hb)
        have n4_ := m_ (below_step (bN HB.out) hb)
        clear HO249
        clear BK229
        clear BK230
        clear BK242
        clear HB
        have HO249 := n0_
        have BK229 := n1_
        have BK230 := n2_
        have BK242 := n3_
        have HB := n4_
        clear n0_ n1_ n2_ n3_ n4_
        (try clear hb)
        (try clear hb2)
        (try clear hk)
        (try clear hi)
        refine hK.out _ _ ⟨v258, m8_, (by rw [ha.out]; exact putSel_upk 3 hb_ rfl rfl rfl), (rN HO249.out), (kN BK229.out), fun _ => (kN BK230.out), (kN BK242.out), (bN HB.out), fun h0_ => absurd ((hoff 6 (by kernel_rfl)).symm.trans h0_) (by decide), fun h0_ => absurd ((hoff 7 (by kernel_rfl)).symm.trans h0_) (by decide), fun h0_ => absurd ((hoff 8 (by kernel_rfl)).symm.trans h0_) (by decide)⟩
       refine steps_cons ?_ ?_
       ·rintro b a w' ⟨v258, m8_, ha, Q_HO249, Q_BK229, Q_BK230, Q_BK242, Q_HB, Q_HO259, Q_BK230_e7, Q_X8_⟩ hb_ hon hoff
        refine ⟨_, rfl, fun K hK => ?_⟩
        have e46 : a.tmps[46]? = some (.agg #[.bool t251, .bool t252, .int .i64 t253, .int .i64 t254, .int .i64 t255, .string t256]) := by rw [ha]; exact putSel_on (e := (5, 46, .agg #[.bool t251, .bool t252, .int .i64 t253, .int .i64 t254, .int .i64 t255, .string t256])) 3 rfl rfl (hon 5 (by kernel_rfl)) rfl
        replace ha := Aside0.mk ha
        have HO249 := Aside0.mk Q_HO249
        have BK229 := Aside0.mk Q_BK229
        have BK242 := Aside0.mk Q_BK242
        have HB := Aside0.mk Q_HB
        refine Kd.R_lit_step k35 _ 35 ?hg (N := 47) ?hd (xs := ([(⟨t251, t252, t253, t254, t255, t256⟩ : S35)] : List (S35))) (inner := [.bool t251, .bool t252, .int .i64 t253, .int .i64 t254, .int .i64 t255, .string t256]) (ok := fun _ => True) (okp := fun _ => True) ?hr ?hp (fun _ hk => hk) trivial (Below.refl _ _) (Nat.le_refl _) (by simp) ?_; (case hd => rfl); (case hg => rfl); (case hr => first | (go_simp; done) | (go_simp; rfl)); (case hp => exact (Reps.c6 (show Kd.M k35 _ _ _ (⟨t251, t252, t253, t254, t255, t256⟩ : S35) [.bool t251, .bool t252, .int .i64 t253, .int .i64 t254, .int .i64 t255, .string t256] from (k35_mkM _ _ _ (⟨t251, t252, t253, t254, t255, t256⟩ : S35) )) (Reps.none _ _)))
        intro v258 w54 ho55 hb hg_ hnew_
        clear hg_ hnew_
        (first | rw [← Ny257.out] at ho55 | (simp only [Int.reduceToNat] at ho55; rw [← Ny257.out] at ho55))
        have n0_ := m_ (Kd.R_below (rN HO249.out) hb)
        have n1_ := m_ (Kd.R_lower ho55 (below_size (bN HB.out)))
        have n2_ := m_ (blk_below (kN BK229.out) hb)
        have n4_ := m_ (blk_below (kN BK242.out) hb)
        have n5_ := m_ (below_step (bN HB.out) hb)
        have z_BK230 := fun (h0_ : b 7 = false) => (show w54.heap[gb230]? = some (.cells #[.int .i64 0, .int .i64 0, .int .i64 0, .slice none 0 0, .bool false] 25 (0, 0)) from by first | exact (blk_below (g := gb230) (o := .cells #[.int .i64 0, .int .i64 0, .int .i64 0, .slice none 0 0, .bool false] 25 (0, 0)) (by (with_reducible repeat (first | refine blk_drewN ?_ _ | refine blk_drew ?_ | refine blk_alloc ?_ _)); exact (Q_BK230 h0_)) hb))
        have z_BK230_e7 := fun (h0_ : b 7 = true) => (show w54.heap[gb230]? = some (.cells #[.int .i64 t235, .int .i64 t236, .int .i64 t250, .slice Ao46 y247.length co46, .bool t241] 25 (0, 0)) from by first | exact (blk_below (g := gb230) (o := .cells #[.int .i64 t235, .int .i64 t236, .int .i64 t250, .slice Ao46 y247.length co46, .bool t241] 25 (0, 0)) (by (with_reducible repeat (first | refine blk_drewN ?_ _ | refine blk_drew ?_ | refine blk_alloc ?_ _)); exact (Q_BK230_e7 h0_)) hb))
        clear HO249
        clear BK229
        clear BK242
        clear HB
        have HO249 := n0_
        have HO259 := n1_
        have BK229 := n2_
        have BK242 := n4_
        have HB := n5_
        clear n0_ n1_ n2_ n4_ n5_
        clear hb ho55
        refine hK.out _ _ ⟨v258, m8_, (by rw [ha.out]; exact putSel_upk 4 hb_ rfl rfl rfl), (rN HO249.out), (kN BK229.out), z_BK230, (kN BK242.out), (bN HB.out), fun _ => (rN HO259.out), z_BK230_e7, fun h0_ => absurd ((hoff 8 (by kernel_rfl)).symm.trans h0_) (by decide)⟩
       refine steps_cons ?_ ?_
       ·rintro b a w' ⟨v258, m8_, ha, Q_HO249, Q_BK229, Q_BK230, Q_BK242, Q_HB, Q_HO259, Q_BK230_e7, Q_X8_⟩ hb_ hon hoff
        refine ⟨_, rfl, fun K hK => ?_⟩
        have e4 : a.tmps[4]? = some (.pointer (some ⟨gb230, 0, none⟩)) := by rw [ha]; exact (putSel_off rfl).trans rfl
        have e41 : a.tmps[41]? = some (.agg #[.int .i64 t235, .int .i64 t236, .int .i64 t250, .slice Ao46 y247.length co46, .bool t241]) := by rw [ha]; exact putSel_on (e := (0, 41, .agg #[.int .i64 t235, .int .i64 t236, .int .i64 t250, .slice Ao46 y247.length co46, .bool t241])) 0 rfl rfl (hon 0 (by kernel_rfl)) rfl
        replace ha := Aside0.mk ha
        have HO249 := Aside0.mk Q_HO249
        have BK229 := Aside0.mk Q_BK229
        have BK230 := m_ (Q_BK230 hb_)
        have BK242 := Aside0.mk Q_BK242
        have HB := Aside0.mk Q_HB
        have hs54 : w'.cell? ⟨gb230, 0, none⟩ = some (.int .i64 0) := bc BK230 0
        have hfs54 := blk_frozen BK230.out 0
        have hns54_0 := NB229_230.out
        have hns54_2 := NB242_230.out
        have hms54_0 := NB230_229.out
        have hms54_2 := NB230_242.out
        have hs55 : w'.cell? ⟨gb230, 1, none⟩ = some (.int .i64 0) := bc BK230 1
        have hfs55 := blk_frozen BK230.out 1
        have hns55_0 := NB229_230.out
        have hns55_2 := NB242_230.out
        have hms55_0 := NB230_229.out
        have hms55_2 := NB230_242.out
        have hs56 : w'.cell? ⟨gb230, 2, none⟩ = some (.int .i64 0) := bc BK230 2
        have hfs56 := blk_frozen BK230.out 2
        have hns56_0 := NB229_230.out
        have hns56_2 := NB242_230.out
        have hms56_0 := NB230_229.out
        have hms56_2 := NB230_242.out
        have hs57 : w'.cell? ⟨gb230, 3, none⟩ = some (.slice none 0 0) := bc BK230 3
        have hfs57 := blk_frozen BK230.out 3
        have hns57_0 := NB229_230.out
        have hns57_2 := NB242_230.out
        have hms57_0 := NB230_229.out
        have hms57_2 := NB230_242.out
        have hs58 : w'.cell? ⟨gb230, 4, none⟩ = some (.bool false) := bc BK230 4
        have hfs58 := blk_frozen BK230.out 4
        have hns58_0 := NB229_230.out
        have hns58_2 := NB242_230.out
        have hms58_0 := NB230_229.out
        have hms58_2 := NB230_242.out
        refine skip_ (w1 := ?_) (by rfl) rfl ?_ ?_
        rotate_left
        ·go_simp
         rfl
        refine hK.out _ _ ⟨v258, m8_, (by rw [ha.out]; exact putSel_none (v := undef) rfl), (by (with_reducible repeat (first | apply Kd.R_alloc | apply Kd.R_drewN | apply Kd.R_drew)); exact frM (Kd.R_types HO249.out BK230.out (by decide))), (kF BK229.out NB229_230.out), fun h0_ => absurd ((up_self b 7).symm.trans h0_) (by decide), (kF BK242.out NB242_230.out), (bN HB.out), fun h0_ => (by (with_reducible repeat (first | apply Kd.R_alloc | apply Kd.R_drewN | apply Kd.R_drew)); exact frM (Kd.R_types (Q_HO259 h0_) BK230.out (by decide))), fun _ => (kP BK230.out), fun h0_ => absurd ((hoff 8 (by kernel_rfl)).symm.trans h0_) (by decide)⟩
       refine steps_cons ?_ ?_
       ·rintro b a w' ⟨v258, m8_, ha, Q_HO249, Q_BK229, Q_BK230, Q_BK242, Q_HB, Q_HO259, Q_BK230_e7, Q_X8_⟩ hb_ hon hoff
        refine ⟨_, rfl, fun K hK => ?_⟩
        have e47 : a.tmps[47]? = some (v258) := by rw [ha]; exact putSel_on (e := (6, 47, v258)) 4 rfl rfl (hon 6 (by kernel_rfl)) rfl
        replace ha := Aside0.mk ha
        have HO249 := Aside0.mk Q_HO249
        have BK229 := Aside0.mk Q_BK229
        have BK242 := Aside0.mk Q_BK242
        have HB := Aside0.mk Q_HB
        have HO259 := m_ (Q_HO259 (hon 6 (by kernel_rfl)))
        have BK230 := m_ (Q_BK230_e7 (hon 7 (by kernel_rfl)))
        refine value_ (w1 := w') (v := v258) (by rfl) rfl ?_ ?_
        ·go_simp
         (try simp only [i64_w])
         try rfl
        refine hK.out _ _ ⟨v258, (v258), (by rw [ha.out]; exact putSel_upk 5 hb_ rfl rfl rfl), Q_HO249, Q_BK229, fun h0_ => absurd ((hon 7 (by kernel_rfl)).symm.trans h0_) (by decide), Q_BK242, Q_HB, Q_HO259, Q_BK230_e7, fun _ => rfl⟩
       exact steps_nil
      rintro b a w60 hall ⟨v258, m8_, ha, Q_HO249, Q_BK229, Q_BK230, Q_BK242, Q_HB, Q_HO259, Q_BK230_e7, Q_X8_⟩
      clear BK229 BK230 BK242 HB HO249
      have hb0_ := hall 0 (by kernel_rfl)
      have hb1_ := hall 1 (by kernel_rfl)
      have hb3_ := hall 3 (by kernel_rfl)
      have hb5_ := hall 5 (by kernel_rfl)
      have hb6_ := hall 6 (by kernel_rfl)
      have hb7_ := hall 7 (by kernel_rfl)
      have hb8_ := hall 8 (by kernel_rfl)
      subst ha
      obtain rfl := Q_X8_ hb8_
      simp only [putSel, hb0_, hb1_, hb3_, hb5_, hb6_, hb7_, hb8_, if_true, Act.put, List.setIfInBounds_toArray, List.set_cons_zero, List.set_cons_succ]
      have HO249 := Aside0.mk Q_HO249
      clear Q_HO249
      have BK229 := Aside0.mk Q_BK229
      clear Q_BK229
      clear Q_BK230
      have BK242 := Aside0.mk Q_BK242
      clear Q_BK242
      have HB := Aside0.mk Q_HB
      clear Q_HB
      have HO259 := m_ (Q_HO259 hb6_)
      clear Q_HO259
      have BK230 := m_ (Q_BK230_e7 hb7_)
      clear Q_BK230_e7
      clear hall hb0_ hb1_ hb3_ hb5_ hb6_ hb7_ hb8_
      try go_wp2
      refine bodyPost_ret (results_ct rfl _ _ gb230 25 #[.int .i64 t235, .int .i64 t236, .int .i64 t250, .slice Ao46 y247.length co46, .bool t241] (0, 0) _ rfl (kN BK230.out) Try.underlying25 rfl (by kernel_rfl)) rfl ?_
      exact ⟨_, _, by first | rfl | (simp [errW_none, errW_some] <;> rfl) | (simp [*, errW_none, errW_some] <;> rfl), by (with_reducible repeat (first | apply Kd.R_alloc | apply Kd.R_drewN | apply Kd.R_drew)); exact HO249.out, by (with_reducible repeat (first | apply Kd.R_alloc | apply Kd.R_drewN | apply Kd.R_drew)); exact HO259.out, by repeat (first | (with_reducible first | exact HB.out | apply below_alloc | apply pw_below_drewN | apply below_drew1 | refine below_set ?_ GE229.out | refine below_set ?_ GE230.out | refine below_set ?_ GE242.out) | exact HB.out)⟩
     ·rw [if_neg c39] at H
      exact absurd H (by simp)
 ·replace c4 := Bool.eq_false_iff.mpr c4
  subst c4
  have H1 : (some (0, 0, 0, ([] : List ByteArray), false, (([] : List (S35))))) = some (r1, r2, r3, r4, r5, r6) := by rw [if_neg (show ¬ (false = true) by decide)] at H; exact H
  clear H
  have H := H1
  clear H1
  obtain ⟨y232, hy232⟩ : ∃ y_ : List (S35), y_ = (([] : List (S35))) := ⟨_, rfl⟩
  replace H : (some (0, 0, 0, ([] : List ByteArray), false, y232)) = some (r1, r2, r3, r4, r5, r6) := by first | (rw [hy232]; with_reducible exact H) | (have H2_ := (Option.bind_some _ _).symm.trans H; rw [hy232]; with_reducible exact H2_) | (have H2_ := (Option.bind_some _ _).symm.trans H; with_reducible exact H2_) | with_reducible exact H | (rw [hy232]; exact H) | exact H
  have Ny232 := Aside0.mk hy232
  clear hy232
  simp only [Option.some.injEq, Prod.mk.injEq] at H
  obtain ⟨rfl, rfl, rfl, rfl, rfl, rfl⟩ := H
  go_enter Try.func9, Try.ntmps9
  go_wp2_with (first | ((with_reducible refine gate_dst (N := 2) rfl ?_); (try (refine gate_guard (by rfl) ?_; dsimp only)); refine box_event ?hg (N := 2) ?hd (cs := #[.int .i64 a0_0, .int .i64 a0_1, .int .i64 a0_2, .slice A0_3 l0_3.length c0_3, .bool a0_4]) (t := 25) ?hr ?_; (case hd => rfl); (case hg => rfl); (case hr => first | (go_simp; done) | (go_simp; rfl)); intro gb229 hg w61 hbox hb; have n0_ := m_ (below_step (bN HB.out) hb); have n1_ := m_ (hbox); have n2_ := m_ ((by rw [hg]; exact (below_size (bN HB.out)) : w.heap.size ≤ gb229)); have n3_ := m_ ((by rw [hg]; exact (below_size (bN HB.out)) : w.heap.size ≤ gb229)); clear HB; have HB := n0_; have BK229 := n1_; have GW229 := n2_; have GE229 := n3_; clear n0_ n1_ n2_ n3_; clear hb hbox hg) | ((with_reducible refine gate_dst (N := 4) rfl ?_); (try (refine gate_guard (by rfl) ?_; dsimp only)); refine box_event ?hg (N := 4) ?hd (cs := #[.int .i64 0, .int .i64 0, .int .i64 0, .slice none 0 0, .bool false]) (t := 25) ?hr ?_; (case hd => rfl); (case hg => rfl); (case hr => first | (go_simp; done) | (go_simp; rfl)); intro gb230 hg w62 hbox hb; have n0_ := m_ (blk_below (kN BK229.out) hb); have n1_ := m_ (below_step (bN HB.out) hb); have n2_ := m_ (hbox); have n3_ := m_ ((by rw [hg]; exact (below_size (bN HB.out)) : w.heap.size ≤ gb230)); have n4_ := m_ ((by rw [hg]; exact (below_size (bN HB.out)) : w.heap.size ≤ gb230)); have n5_ := m_ (nL hg BK229.out); have n6_ := m_ (nG hg BK229.out); clear BK229; clear HB; have BK229 := n0_; have HB := n1_; have BK230 := n2_; have GW230 := n3_; have GE230 := n4_; have NB229_230 := n5_; have NB230_229 := n6_; clear n0_ n1_ n2_ n3_ n4_ n5_ n6_; clear hb hbox hg; have hnb63 := NB229_230.out; have hnc63 := NB230_229.out; have hcz64_0 : w62.cell? ⟨gb229, 0, none⟩ = some (.int .i64 a0_0) := bc BK229 0; have hcz64_1 : w62.cell? ⟨gb229, 1, none⟩ = some (.int .i64 a0_1) := bc BK229 1; have hcz64_2 : w62.cell? ⟨gb229, 2, none⟩ = some (.int .i64 a0_2) := bc BK229 2; have hcz64_3 : w62.cell? ⟨gb229, 3, none⟩ = some (.slice A0_3 l0_3.length c0_3) := bc BK229 3; have hcz64_4 : w62.cell? ⟨gb229, 4, none⟩ = some (.bool a0_4) := bc BK229 4; have hfz64_0 := blk_frozen BK229.out 0; have hfz64_1 := blk_frozen BK229.out 1; have hfz64_2 := blk_frozen BK229.out 2; have hfz64_3 := blk_frozen BK229.out 3; have hfz64_4 := blk_frozen BK229.out 4) | ((with_reducible refine gate_callee (f := 13) rfl ?_); refine goesL_ (some 8) rfl rfl Try.func13 (by kernel_rfl) rfl #[.agg #[.int .i64 a0_0, .int .i64 a0_1, .int .i64 a0_2, .slice A0_3 l0_3.length c0_3, .bool a0_4]] rfl gl_ ?_; (with_reducible refine (spec_FopOk.calls k a0_0 a0_1 a0_2 _ _ l0_3 a0_4 false _ ?side1 ?side2 A3.out).mono ?_); (case side1 => exact cN (Kd.C_below HR0_3.out HB.out)); (case side2 => exact HC0_3.out); rintro e w65 ⟨rfl, hb⟩; refine ⟨_, rfl, ?_⟩; have n0_ := m_ (blk_below (kN BK229.out) hb); have n1_ := m_ (blk_below (kN BK230.out) hb); have n2_ := m_ (below_step (bN HB.out) hb); clear BK229; clear BK230; clear HB; have BK229 := n0_; have BK230 := n1_; have HB := n2_; clear n0_ n1_ n2_; (try clear hb); (try clear hb2); (try clear hk); (try clear hi)) | ((with_reducible refine gate_dst (N := 11) rfl ?_); (try (refine gate_guard (by rfl) ?_; dsimp only)); refine Kd.R_lit k35 _ 35 ?hg (N := 11) ?hd (xs := ([] : List (S35))) (inner := []) (ok := fun _ => True) (okp := fun _ => True) ?hr ?hp (fun _ hk => hk) trivial (Below.refl _ _) (Nat.le_refl _) (by simp) ?_; (case hd => rfl); (case hg => rfl); (case hr => first | (go_simp; done) | (go_simp; rfl)); (case hp => exact (Reps.none _ _)); intro v233 w66 ho67 hb hg_ hnew_; clear hg_ hnew_; (first | rw [← Ny232.out] at ho67 | (simp only [Int.reduceToNat] at ho67; rw [← Ny232.out] at ho67)); have n0_ := m_ (Kd.R_lower ho67 (below_size (bN HB.out))); have n1_ := m_ (blk_below (kN BK229.out) hb); have n2_ := m_ (blk_below (kN BK230.out) hb); have n3_ := m_ (below_step (bN HB.out) hb); clear BK229; clear BK230; clear HB; have HO234 := n0_; have BK229 := n1_; have BK230 := n2_; have HB := n3_; clear n0_ n1_ n2_ n3_; clear hb ho67; have hcz68_0 : w66.cell? ⟨gb230, 0, none⟩ = some (.int .i64 0) := bc BK230 0; have hcz68_1 : w66.cell? ⟨gb230, 1, none⟩ = some (.int .i64 0) := bc BK230 1; have hcz68_2 : w66.cell? ⟨gb230, 2, none⟩ = some (.int .i64 0) := bc BK230 2; have hcz68_3 : w66.cell? ⟨gb230, 3, none⟩ = some (.slice none 0 0) := bc BK230 3; have hcz68_4 : w66.cell? ⟨gb230, 4, none⟩ = some (.bool false) := bc BK230 4; have hfz68_0 := blk_frozen BK230.out 0; have hfz68_1 := blk_frozen BK230.out 1; have hfz68_2 := blk_frozen BK230.out 2; have hfz68_3 := blk_frozen BK230.out 3; have hfz68_4 := blk_frozen BK230.out 4))
  refine bodyPost_ret (results_ct rfl _ _ gb230 25 #[.int .i64 0, .int .i64 0, .int .i64 0, .slice none 0 0, .bool false] (0, 0) _ rfl (kP BK230.out) Try.underlying25 rfl (by kernel_rfl)) rfl ?_
  exact ⟨_, _, by first | rfl | (simp [errW_none, errW_some] <;> rfl) | (simp [*, errW_none, errW_some] <;> rfl), by first | exact Kd.R_nil _ _ _ _ _ | exact Kd.N_nil _ _ _ _ _ | exact Kd.V_nil _ _ _ _ _ | exact Kd.Q_nil _ _ _ _ _ | exact Kd.S_nil _ _ _ _ _, by (with_reducible repeat (first | apply Kd.R_alloc | apply Kd.R_drewN | apply Kd.R_drew)); exact frM (Kd.R_types HO234.out BK230.out (by decide)), by repeat (first | (with_reducible first | exact HB.out | apply below_alloc | apply pw_below_drewN | apply below_drew1 | refine below_set ?_ GE229.out | refine below_set ?_ GE230.out) | exact HB.out)⟩

end Go.Proofs.Ytnlhaiihbcdmoaa.P
