/- The machine side of these statements, function by function: what each Go function answers (as a Lean function), and that it does. Written by a program (mp.py) for this claim. -/
import Derived.Test.YtmhdphohhheoaaaPx0
namespace Go.Proofs.Ytmhdphohhheoaaa.P
open Go.RowKit Go.Proofs.YtmhdphohhheoaaaW.PrintWords Go.Proofs.YtmhdphohhheoaaaW.PrintLast Go.Proofs.YtmhdphohhheoaaaW.PrintMore
attribute [local go_sem] max2_int min2_int max_two min_two max_three min_three max_four min_four   -- for this text's walks alone
set_option linter.unusedVariables false
set_option linter.unusedSimpArgs false

/-! ### spec_l10Copy: function 52 -/
def spec_l10Copy.f (l0_0 : List (S53)) (l0_1 : List Int) (a0_2 : Int) (a0_3 : Bool) (l0_4 : List Int) : Option ((List (S53)) × List Int × Int × Bool × List Int) := (some (([] : List (S53)) : List (S53))).bind fun y350 => (if y350.length + l0_0.length < 5864062014805 then ((some (([] : List Int) : List Int)).bind fun y356 => (if y356.length + l0_1.length < 17592186044416 then ((some (([] : List Int) : List Int)).bind fun y362 => (if y362.length + l0_4.length < 17592186044416 then (some ((y350 ++ l0_0), (y356 ++ l0_1), a0_2, a0_3, (y362 ++ l0_4))) else (none))) else (none))) else (none))
def spec_l10Copy.T1 : Bool × List (List Nat × List Nat) := (true, [([], []), ([], []), ([1], [1]), ([0, 2], [0, 2]), ([], []), ([], []), ([5], [5]), ([4, 6, 3], [4, 6]), ([], []), ([8], [8]), ([], []), ([10], [10]), ([], []), ([], []), ([13], [13]), ([12, 14, 7], [12, 14]), ([3, 7, 9, 11, 15], [3, 7, 9, 11, 15]), ([16, 15, 0, 1, 2, 3, 4, 5, 6, 7, 8, 9, 10, 11, 12, 13, 14, 15, 16], [16])])
def spec_l10Copy.B1 : List Nat := [0, 0, 2, 7, 0, 0, 32, 127, 0, 256, 0, 1024, 0, 0, 8192, 28927, 65535, 131071]
theorem spec_l10Copy.tab1 : rtab .any (opsOf Try.f52 1) = spec_l10Copy.T1 := by kernel_rfl
theorem spec_l10Copy.bits1 : waitsOk spec_l10Copy.T1.2 spec_l10Copy.B1 = true := by kernel_rfl
set_option maxHeartbeats 8000000 in
set_option maxRecDepth 100000 in
theorem spec_l10Copy.calls (A0_0 : Option Addr) (c0_0 : Nat) (l0_0 : List (S53)) (A0_1 : Option Addr) (c0_1 : Nat) (l0_1 : List Int) (a0_2 : Int) (a0_3 : Bool) (A0_4 : Option Addr) (c0_4 : Nat) (l0_4 : List Int) (r1 : List (S53)) (r2 : List Int) (r3 : Int) (r4 : Bool) (r5 : List Int) (w : World) (hr0_0 : Kd.C k53 w A0_0 l0_0.length l0_0) (hc0_0 : l0_0.length ≤ c0_0) (hr0_1 : Kd.C (Kd.int .i64) w A0_1 l0_1.length l0_1) (hc0_1 : l0_1.length ≤ c0_1) (hr0_4 : Kd.C (Kd.int .i64) w A0_4 l0_4.length l0_4) (hc0_4 : l0_4.length ≤ c0_4) (h : spec_l10Copy.f l0_0 l0_1 a0_2 a0_3 l0_4 = some (r1, r2, r3, r4, r5)) :
  Calls Try.prog 52 #[.agg #[.slice A0_0 l0_0.length c0_0, .slice A0_1 l0_1.length c0_1, .int .i64 a0_2, .bool a0_3, .slice A0_4 l0_4.length c0_4]] w fun e w' => ∃ v0_ v1_ v4_ : Value, e = .returned (.agg #[v0_, v1_, .int .i64 r3, .bool r4, v4_]) ∧ Kd.R k53 53 w' w.heap.size (fun _ => True) v0_ r1 ∧ Kd.R (Kd.int .i64) 3 w' w.heap.size (fun k_ => some k_ ≠ (v4_ : Value).ownBlock) v1_ r2 ∧ Kd.R (Kd.int .i64) 3 w' w.heap.size (fun k_ => some k_ ≠ (v1_ : Value).ownBlock) v4_ r5 ∧ Below w.heap.size w w' := by
 have hu33 := Try.underlying33
 have HR0_0 := Aside0.mk hr0_0
 have HC0_0 := Aside0.mk hc0_0
 clear hr0_0 hc0_0
 have HR0_1 := Aside0.mk hr0_1
 have HC0_1 := Aside0.mk hc0_1
 clear hr0_1 hc0_1
 have HR0_4 := Aside0.mk hr0_4
 have HC0_4 := Aside0.mk hc0_4
 clear hr0_4 hc0_4
 have HB := m_ (Below.refl w.heap.size w)
 have H : ((some (([] : List (S53)) : List (S53))).bind fun y350 => (if y350.length + l0_0.length < 5864062014805 then ((some (([] : List Int) : List Int)).bind fun y356 => (if y356.length + l0_1.length < 17592186044416 then ((some (([] : List Int) : List Int)).bind fun y362 => (if y362.length + l0_4.length < 17592186044416 then (some ((y350 ++ l0_0), (y356 ++ l0_1), a0_2, a0_3, (y362 ++ l0_4))) else (none))) else (none))) else (none))) = some (r1, r2, r3, r4, r5) := h
 clear h
 obtain ⟨y350, hy350⟩ : ∃ y_ : List (S53), y_ = (([] : List (S53))) := ⟨_, rfl⟩
 replace H : (if y350.length + l0_0.length < 5864062014805 then ((some (([] : List Int) : List Int)).bind fun y356 => (if y356.length + l0_1.length < 17592186044416 then ((some (([] : List Int) : List Int)).bind fun y362 => (if y362.length + l0_4.length < 17592186044416 then (some ((y350 ++ l0_0), (y356 ++ l0_1), a0_2, a0_3, (y362 ++ l0_4))) else (none))) else (none))) else (none)) = some (r1, r2, r3, r4, r5) := by first | (rw [hy350]; with_reducible exact H) | (have H2_ := (Option.bind_some _ _).symm.trans H; rw [hy350]; with_reducible exact H2_) | (have H2_ := (Option.bind_some _ _).symm.trans H; with_reducible exact H2_) | with_reducible exact H | (rw [hy350]; exact H) | exact H
 have Ny350 := Aside0.mk hy350
 clear hy350
 by_cases c2 : y350.length + l0_0.length < 5864062014805
 ·rw [if_pos c2] at H
  have LMc2 := Aside0.mk c2
  clear c2
  obtain ⟨y353, hy353⟩ : ∃ y_ : List (S53), y_ = (y350 ++ l0_0) := ⟨_, rfl⟩
  replace H : ((some (([] : List Int) : List Int)).bind fun y356 => (if y356.length + l0_1.length < 17592186044416 then ((some (([] : List Int) : List Int)).bind fun y362 => (if y362.length + l0_4.length < 17592186044416 then (some (y353, (y356 ++ l0_1), a0_2, a0_3, (y362 ++ l0_4))) else (none))) else (none))) = some (r1, r2, r3, r4, r5) := by first | (rw [hy353]; with_reducible exact H) | (have H2_ := (Option.bind_some _ _).symm.trans H; rw [hy353]; with_reducible exact H2_) | (have H2_ := (Option.bind_some _ _).symm.trans H; with_reducible exact H2_) | with_reducible exact H | (rw [hy353]; exact H) | exact H
  have Ny353 := Aside0.mk hy353
  clear hy353
  obtain ⟨y356, hy356⟩ : ∃ y_ : List Int, y_ = (([] : List Int)) := ⟨_, rfl⟩
  replace H : (if y356.length + l0_1.length < 17592186044416 then ((some (([] : List Int) : List Int)).bind fun y362 => (if y362.length + l0_4.length < 17592186044416 then (some (y353, (y356 ++ l0_1), a0_2, a0_3, (y362 ++ l0_4))) else (none))) else (none)) = some (r1, r2, r3, r4, r5) := by first | (rw [hy356]; with_reducible exact H) | (have H2_ := (Option.bind_some _ _).symm.trans H; rw [hy356]; with_reducible exact H2_) | (have H2_ := (Option.bind_some _ _).symm.trans H; with_reducible exact H2_) | with_reducible exact H | (rw [hy356]; exact H) | exact H
  have Ny356 := Aside0.mk hy356
  clear hy356
  by_cases c3 : y356.length + l0_1.length < 17592186044416
  ·rw [if_pos c3] at H
   have LMc3 := Aside0.mk c3
   clear c3
   obtain ⟨y359, hy359⟩ : ∃ y_ : List Int, y_ = (y356 ++ l0_1) := ⟨_, rfl⟩
   replace H : ((some (([] : List Int) : List Int)).bind fun y362 => (if y362.length + l0_4.length < 17592186044416 then (some (y353, y359, a0_2, a0_3, (y362 ++ l0_4))) else (none))) = some (r1, r2, r3, r4, r5) := by first | (rw [hy359]; with_reducible exact H) | (have H2_ := (Option.bind_some _ _).symm.trans H; rw [hy359]; with_reducible exact H2_) | (have H2_ := (Option.bind_some _ _).symm.trans H; with_reducible exact H2_) | with_reducible exact H | (rw [hy359]; exact H) | exact H
   have Ny359 := Aside0.mk hy359
   clear hy359
   obtain ⟨y362, hy362⟩ : ∃ y_ : List Int, y_ = (([] : List Int)) := ⟨_, rfl⟩
   replace H : (if y362.length + l0_4.length < 17592186044416 then (some (y353, y359, a0_2, a0_3, (y362 ++ l0_4))) else (none)) = some (r1, r2, r3, r4, r5) := by first | (rw [hy362]; with_reducible exact H) | (have H2_ := (Option.bind_some _ _).symm.trans H; rw [hy362]; with_reducible exact H2_) | (have H2_ := (Option.bind_some _ _).symm.trans H; with_reducible exact H2_) | with_reducible exact H | (rw [hy362]; exact H) | exact H
   have Ny362 := Aside0.mk hy362
   clear hy362
   by_cases c4 : y362.length + l0_4.length < 17592186044416
   ·rw [if_pos c4] at H
    have LMc4 := Aside0.mk c4
    clear c4
    obtain ⟨y365, hy365⟩ : ∃ y_ : List Int, y_ = (y362 ++ l0_4) := ⟨_, rfl⟩
    replace H : (some (y353, y359, a0_2, a0_3, y365)) = some (r1, r2, r3, r4, r5) := by first | (rw [hy365]; with_reducible exact H) | (have H2_ := (Option.bind_some _ _).symm.trans H; rw [hy365]; with_reducible exact H2_) | (have H2_ := (Option.bind_some _ _).symm.trans H; with_reducible exact H2_) | with_reducible exact H | (rw [hy365]; exact H) | exact H
    have Ny365 := Aside0.mk hy365
    clear hy365
    simp only [Option.some.injEq, Prod.mk.injEq] at H
    obtain ⟨rfl, rfl, rfl, rfl, rfl⟩ := H
    go_enter Try.func52, Try.ntmps52
    try go_wp2_with (first | ((with_reducible refine gate_dst (N := 1) rfl ?_); refine box_event ?hg (N := 1) ?hd (cs := #[.slice A0_0 l0_0.length c0_0, .slice A0_1 l0_1.length c0_1, .int .i64 a0_2, .bool a0_3, .slice A0_4 l0_4.length c0_4]) (t := 33) ?hr ?_; (case hd => rfl); (case hg => rfl); (case hr => first | (go_simp; done) | (go_simp; rfl)); intro gb348 hg w5 hbox hb; have n0_ := m_ (below_step (bN HB.out) hb); have n1_ := m_ (hbox); have n2_ := m_ ((by rw [hg]; exact (below_size (bN HB.out)) : w.heap.size ≤ gb348)); have n3_ := m_ ((by rw [hg]; exact (below_size (bN HB.out)) : w.heap.size ≤ gb348)); clear HB; have HB := n0_; have BK348 := n1_; have GW348 := n2_; have GE348 := n3_; clear n0_ n1_ n2_ n3_; clear hb hbox hg) | ((with_reducible refine gate_dst (N := 2) rfl ?_); refine box_event ?hg (N := 2) ?hd (cs := #[.slice none 0 0, .slice none 0 0, .int .i64 0, .bool false, .slice none 0 0]) (t := 33) ?hr ?_; (case hd => rfl); (case hg => rfl); (case hr => first | (go_simp; done) | (go_simp; rfl)); intro gb349 hg w6 hbox hb; have n0_ := m_ (blk_below (kN BK348.out) hb); have n1_ := m_ (below_step (bN HB.out) hb); have n2_ := m_ (hbox); have n3_ := m_ ((by rw [hg]; exact (below_size (bN HB.out)) : w.heap.size ≤ gb349)); have n4_ := m_ ((by rw [hg]; exact (below_size (bN HB.out)) : w.heap.size ≤ gb349)); have n5_ := m_ ((by rw [hg]; exact Nat.ne_of_lt (blk_lt (g := gb348) (o := .cells #[.slice A0_0 l0_0.length c0_0, .slice A0_1 l0_1.length c0_1, .int .i64 a0_2, .bool a0_3, .slice A0_4 l0_4.length c0_4] 33 (0, 0)) (kN BK348.out)) : gb348 ≠ gb349)); have n6_ := m_ ((by rw [hg]; exact Nat.ne_of_gt (blk_lt (g := gb348) (o := .cells #[.slice A0_0 l0_0.length c0_0, .slice A0_1 l0_1.length c0_1, .int .i64 a0_2, .bool a0_3, .slice A0_4 l0_4.length c0_4] 33 (0, 0)) (kN BK348.out)) : gb349 ≠ gb348)); clear BK348; clear HB; have BK348 := n0_; have HB := n1_; have BK349 := n2_; have GW349 := n3_; have GE349 := n4_; have NB348_349 := n5_; have NB349_348 := n6_; clear n0_ n1_ n2_ n3_ n4_ n5_ n6_; clear hb hbox hg))
    have n0_ := m_ (blk_drew BK348.out)
    have n1_ := m_ (blk_drew BK349.out)
    have n2_ := m_ (below_drew1 HB.out)
    clear BK348
    clear BK349
    clear HB
    have BK348 := n0_
    have BK349 := n1_
    have HB := n2_
    clear n0_ n1_ n2_
    refine start_ (n := 18) (S := fun w' => w'.cell? ⟨gb348, 0, none⟩ = some (.slice A0_0 l0_0.length c0_0) ∧ w'.cell? ⟨gb348, 1, none⟩ = some (.slice A0_1 l0_1.length c0_1) ∧ w'.cell? ⟨gb348, 2, none⟩ = some (.int .i64 a0_2) ∧ w'.cell? ⟨gb348, 3, none⟩ = some (.bool a0_3) ∧ w'.cell? ⟨gb348, 4, none⟩ = some (.slice A0_4 l0_4.length c0_4)) (ds := []) #[false, false, false, false, false, false, false, false, false, false, false, false, false, false, false, false, false, false] (by kernel_rfl) rfl rfl ⟨(blk_cell BK348.out 0).trans rfl, (blk_cell BK348.out 1).trans rfl, (blk_cell BK348.out 2).trans rfl, (blk_cell BK348.out 3).trans rfl, (blk_cell BK348.out 4).trans rfl⟩ (fun hHeld => ?_); refine with_tabW spec_l10Copy.tab1 spec_l10Copy.bits1 (fun HT_ HW_ => ?_)
    generalize w6.drew = w7 at BK348 BK349 HB hHeld ⊢
    refine pu 1 4 HT_ (h := ?_)
    refine pu 5 8 HT_ (h := ?_)
    refine pu 8 11 HT_ (h := ?_)
    refine pu 10 13 HT_ (h := ?_)
    refine pu 13 16 HT_ (h := ?_)
    refine take_ (i := 2) (N := some 5) (v := ?_) (a' := ?_) #[false, true, true, false, false, true, false, false, true, false, true, false, false, true, false, false, false, false] rfl rfl (take_ofW HT_.out HW_.out (by kernel_rfl)) (fun _ _ _ h => h) (Or.inl ⟨by rfl, ?_⟩) hHeld ?_ ?_
    rotate_left
    ·rintro w' ⟨s0, s1, s2, s3, s4⟩
     go_simp
     with_reducible rfl
    rotate_left
    ·simp only [Act.put, List.setIfInBounds_toArray, List.set_cons_zero, List.set_cons_succ, i64_w, i32_w]
     rfl
    refine take_ (i := 6) (N := some 9) (v := ?_) (a' := ?_) #[false, true, true, false, false, true, true, false, true, false, true, false, false, true, false, false, false, false] rfl rfl (take_ofW HT_.out HW_.out (by kernel_rfl)) (fun _ _ _ h => h) (Or.inl ⟨by rfl, ?_⟩) hHeld ?_ ?_
    rotate_left
    ·rintro w' ⟨s0, s1, s2, s3, s4⟩
     go_simp
     with_reducible rfl
    rotate_left
    ·simp only [Act.put, List.setIfInBounds_toArray, List.set_cons_zero, List.set_cons_succ, i64_w, i32_w]
     rfl
    refine take_ (i := 9) (N := some 12) (v := ?_) (a' := ?_) #[false, true, true, false, false, true, true, false, true, true, true, false, false, true, false, false, false, false] rfl rfl (take_ofW HT_.out HW_.out (by kernel_rfl)) (fun _ _ _ h => h) (Or.inl ⟨by rfl, ?_⟩) hHeld ?_ ?_
    rotate_left
    ·rintro w' ⟨s0, s1, s2, s3, s4⟩
     go_simp
     with_reducible rfl
    rotate_left
    ·simp only [Act.put, List.setIfInBounds_toArray, List.set_cons_zero, List.set_cons_succ, i64_w, i32_w]
     rfl
    refine take_ (i := 11) (N := some 14) (v := ?_) (a' := ?_) #[false, true, true, false, false, true, true, false, true, true, true, true, false, true, false, false, false, false] rfl rfl (take_ofW HT_.out HW_.out (by kernel_rfl)) (fun _ _ _ h => h) (Or.inl ⟨by rfl, ?_⟩) hHeld ?_ ?_
    rotate_left
    ·rintro w' ⟨s0, s1, s2, s3, s4⟩
     go_simp
     with_reducible rfl
    rotate_left
    ·simp only [Act.put, List.setIfInBounds_toArray, List.set_cons_zero, List.set_cons_succ, i64_w, i32_w]
     rfl
    refine take_ (i := 14) (N := some 17) (v := ?_) (a' := ?_) #[false, true, true, false, false, true, true, false, true, true, true, true, false, true, true, false, false, false] rfl rfl (take_ofW HT_.out HW_.out (by kernel_rfl)) (fun _ _ _ h => h) (Or.inl ⟨by rfl, ?_⟩) hHeld ?_ ?_
    rotate_left
    ·rintro w' ⟨s0, s1, s2, s3, s4⟩
     go_simp
     with_reducible rfl
    rotate_left
    ·simp only [Act.put, List.setIfInBounds_toArray, List.set_cons_zero, List.set_cons_succ, i64_w, i32_w]
     rfl
    refine join_ (σ := Value × Value × Value × Value × Value) 3 #[true, true, true, true, true, true, true, true, true, true, true, true, true, true, true, false, false, false] (fun s_ => [(3, s_.1), (6, s_.2.1), (7, s_.2.2.1), (10, s_.2.2.2.1), (15, s_.2.2.2.2)]) (fun s_ w' => (w'.cell? ⟨gb348, 0, none⟩ = some (.slice A0_0 l0_0.length c0_0) ∧ w'.cell? ⟨gb348, 1, none⟩ = some (.slice A0_1 l0_1.length c0_1) ∧ w'.cell? ⟨gb348, 2, none⟩ = some (.int .i64 a0_2) ∧ w'.cell? ⟨gb348, 3, none⟩ = some (.bool a0_3) ∧ w'.cell? ⟨gb348, 4, none⟩ = some (.slice A0_4 l0_4.length c0_4)) ∧ (Kd.R k53 53 w' w.heap.size (fun _ => True) s_.2.1 y353) ∧ (Kd.R (Kd.int .i64) 3 w' w.heap.size (fun k_ => some k_ ≠ (s_.2.2.2.2 : Value).ownBlock) s_.2.2.2.1 y359) ∧ (Kd.R (Kd.int .i64) 3 w' w.heap.size (fun k_ => some k_ ≠ (s_.2.2.2.1 : Value).ownBlock) s_.2.2.2.2 y362) ∧ (w'.heap[gb348]? = some (.cells #[.slice A0_0 l0_0.length c0_0, .slice A0_1 l0_1.length c0_1, .int .i64 a0_2, .bool a0_3, .slice A0_4 l0_4.length c0_4] 33 (0, 0))) ∧ (w'.heap[gb349]? = some (.cells #[.slice none 0 0, .slice none 0 0, .int .i64 0, .bool false, .slice none 0 0] 33 (0, 0))) ∧ (Below w.heap.size w w')) ?_ ?_
    rotate_left
    ·intro hJ0_3_4_7_12
     refine join_ (σ := Value × Value × Value × Value) 4 #[true, true, true, true, true, true, true, true, true, true, true, true, false, true, true, false, false, false] (fun s_ => [(3, s_.1), (6, s_.2.1), (7, s_.2.2.1), (10, s_.2.2.2)]) (fun s_ w' => (w'.cell? ⟨gb348, 0, none⟩ = some (.slice A0_0 l0_0.length c0_0) ∧ w'.cell? ⟨gb348, 1, none⟩ = some (.slice A0_1 l0_1.length c0_1) ∧ w'.cell? ⟨gb348, 2, none⟩ = some (.int .i64 a0_2) ∧ w'.cell? ⟨gb348, 3, none⟩ = some (.bool a0_3) ∧ w'.cell? ⟨gb348, 4, none⟩ = some (.slice A0_4 l0_4.length c0_4)) ∧ (Kd.R k53 53 w' w.heap.size (fun _ => True) s_.2.1 y353) ∧ (Kd.R (Kd.int .i64) 3 w' w.heap.size (fun _ => True) s_.2.2.2 y359) ∧ (w'.heap[gb348]? = some (.cells #[.slice A0_0 l0_0.length c0_0, .slice A0_1 l0_1.length c0_1, .int .i64 a0_2, .bool a0_3, .slice A0_4 l0_4.length c0_4] 33 (0, 0))) ∧ (w'.heap[gb349]? = some (.cells #[.slice none 0 0, .slice none 0 0, .int .i64 0, .bool false, .slice none 0 0] 33 (0, 0))) ∧ (Below w.heap.size w w')) ?_ ?_
     rotate_left
     ·intro hJ0_3_4_7
      refine join_ (σ := Value × Value × Value × Value) 4 #[true, true, true, true, true, true, true, false, true, true, true, true, true, true, true, false, false, false] (fun s_ => [(3, s_.1), (6, s_.2.1), (7, s_.2.2.1), (15, s_.2.2.2)]) (fun s_ w' => (w'.cell? ⟨gb348, 0, none⟩ = some (.slice A0_0 l0_0.length c0_0) ∧ w'.cell? ⟨gb348, 1, none⟩ = some (.slice A0_1 l0_1.length c0_1) ∧ w'.cell? ⟨gb348, 2, none⟩ = some (.int .i64 a0_2) ∧ w'.cell? ⟨gb348, 3, none⟩ = some (.bool a0_3) ∧ w'.cell? ⟨gb348, 4, none⟩ = some (.slice A0_4 l0_4.length c0_4)) ∧ (Kd.R k53 53 w' w.heap.size (fun _ => True) s_.2.1 y353) ∧ (Kd.R (Kd.int .i64) 3 w' w.heap.size (fun k_ => some k_ ≠ (s_.2.2.2 : Value).ownBlock) s_.2.2.1 y356) ∧ (Kd.R (Kd.int .i64) 3 w' w.heap.size (fun k_ => some k_ ≠ (s_.2.2.1 : Value).ownBlock) s_.2.2.2 y362) ∧ (w'.heap[gb348]? = some (.cells #[.slice A0_0 l0_0.length c0_0, .slice A0_1 l0_1.length c0_1, .int .i64 a0_2, .bool a0_3, .slice A0_4 l0_4.length c0_4] 33 (0, 0))) ∧ (w'.heap[gb349]? = some (.cells #[.slice none 0 0, .slice none 0 0, .int .i64 0, .bool false, .slice none 0 0] 33 (0, 0))) ∧ (Below w.heap.size w w')) ?_ ?_
      rotate_left
      ·intro hJ0_3_4_12
       refine join_ (σ := Value × Value × Value) 5 #[true, true, true, true, true, true, true, false, true, true, true, true, false, true, true, false, false, false] (fun s_ => [(3, s_.1), (6, s_.2.1), (7, s_.2.2)]) (fun s_ w' => (w'.cell? ⟨gb348, 0, none⟩ = some (.slice A0_0 l0_0.length c0_0) ∧ w'.cell? ⟨gb348, 1, none⟩ = some (.slice A0_1 l0_1.length c0_1) ∧ w'.cell? ⟨gb348, 2, none⟩ = some (.int .i64 a0_2) ∧ w'.cell? ⟨gb348, 3, none⟩ = some (.bool a0_3) ∧ w'.cell? ⟨gb348, 4, none⟩ = some (.slice A0_4 l0_4.length c0_4)) ∧ (Kd.R k53 53 w' w.heap.size (fun _ => True) s_.2.1 y353) ∧ (Kd.R (Kd.int .i64) 3 w' w.heap.size (fun _ => True) s_.2.2 y356) ∧ (w'.heap[gb348]? = some (.cells #[.slice A0_0 l0_0.length c0_0, .slice A0_1 l0_1.length c0_1, .int .i64 a0_2, .bool a0_3, .slice A0_4 l0_4.length c0_4] 33 (0, 0))) ∧ (w'.heap[gb349]? = some (.cells #[.slice none 0 0, .slice none 0 0, .int .i64 0, .bool false, .slice none 0 0] 33 (0, 0))) ∧ (Below w.heap.size w w')) ?_ ?_
       rotate_left
       ·intro hJ0_3_4
        refine join_ (σ := Value × Value × Value) 5 #[true, true, true, true, false, true, true, false, true, true, true, true, true, true, true, false, false, false] (fun s_ => [(3, s_.1), (6, s_.2.1), (15, s_.2.2)]) (fun s_ w' => (w'.cell? ⟨gb348, 0, none⟩ = some (.slice A0_0 l0_0.length c0_0) ∧ w'.cell? ⟨gb348, 1, none⟩ = some (.slice A0_1 l0_1.length c0_1) ∧ w'.cell? ⟨gb348, 2, none⟩ = some (.int .i64 a0_2) ∧ w'.cell? ⟨gb348, 3, none⟩ = some (.bool a0_3) ∧ w'.cell? ⟨gb348, 4, none⟩ = some (.slice A0_4 l0_4.length c0_4)) ∧ (Kd.R k53 53 w' w.heap.size (fun _ => True) s_.2.1 y353) ∧ (Kd.R (Kd.int .i64) 3 w' w.heap.size (fun _ => True) s_.2.2 y362) ∧ (w'.heap[gb348]? = some (.cells #[.slice A0_0 l0_0.length c0_0, .slice A0_1 l0_1.length c0_1, .int .i64 a0_2, .bool a0_3, .slice A0_4 l0_4.length c0_4] 33 (0, 0))) ∧ (w'.heap[gb349]? = some (.cells #[.slice none 0 0, .slice none 0 0, .int .i64 0, .bool false, .slice none 0 0] 33 (0, 0))) ∧ (Below w.heap.size w w')) ?_ ?_
        rotate_left
        ·intro hJ0_3_12
         refine join_ (σ := Value × Value × Value) 5 #[true, true, true, false, true, true, true, false, true, true, true, true, true, true, true, false, false, false] (fun s_ => [(3, s_.1), (7, s_.2.1), (15, s_.2.2)]) (fun s_ w' => (w'.cell? ⟨gb348, 0, none⟩ = some (.slice A0_0 l0_0.length c0_0) ∧ w'.cell? ⟨gb348, 1, none⟩ = some (.slice A0_1 l0_1.length c0_1) ∧ w'.cell? ⟨gb348, 2, none⟩ = some (.int .i64 a0_2) ∧ w'.cell? ⟨gb348, 3, none⟩ = some (.bool a0_3) ∧ w'.cell? ⟨gb348, 4, none⟩ = some (.slice A0_4 l0_4.length c0_4)) ∧ (Kd.R k53 53 w' w.heap.size (fun _ => True) s_.1 y350) ∧ (Kd.R (Kd.int .i64) 3 w' w.heap.size (fun k_ => some k_ ≠ (s_.2.2 : Value).ownBlock) s_.2.1 y356) ∧ (Kd.R (Kd.int .i64) 3 w' w.heap.size (fun k_ => some k_ ≠ (s_.2.1 : Value).ownBlock) s_.2.2 y362) ∧ (w'.heap[gb348]? = some (.cells #[.slice A0_0 l0_0.length c0_0, .slice A0_1 l0_1.length c0_1, .int .i64 a0_2, .bool a0_3, .slice A0_4 l0_4.length c0_4] 33 (0, 0))) ∧ (w'.heap[gb349]? = some (.cells #[.slice none 0 0, .slice none 0 0, .int .i64 0, .bool false, .slice none 0 0] 33 (0, 0))) ∧ (Below w.heap.size w w')) ?_ ?_
         rotate_left
         ·intro hJ0_4_12
          refine join_ (σ := Value × Value) 6 #[true, true, true, true, false, true, true, false, true, true, true, true, false, true, true, false, false, false] (fun s_ => [(3, s_.1), (6, s_.2)]) (fun s_ w' => (w'.cell? ⟨gb348, 0, none⟩ = some (.slice A0_0 l0_0.length c0_0) ∧ w'.cell? ⟨gb348, 1, none⟩ = some (.slice A0_1 l0_1.length c0_1) ∧ w'.cell? ⟨gb348, 2, none⟩ = some (.int .i64 a0_2) ∧ w'.cell? ⟨gb348, 3, none⟩ = some (.bool a0_3) ∧ w'.cell? ⟨gb348, 4, none⟩ = some (.slice A0_4 l0_4.length c0_4)) ∧ (Kd.R k53 53 w' w.heap.size (fun _ => True) s_.2 y353) ∧ (w'.heap[gb348]? = some (.cells #[.slice A0_0 l0_0.length c0_0, .slice A0_1 l0_1.length c0_1, .int .i64 a0_2, .bool a0_3, .slice A0_4 l0_4.length c0_4] 33 (0, 0))) ∧ (w'.heap[gb349]? = some (.cells #[.slice none 0 0, .slice none 0 0, .int .i64 0, .bool false, .slice none 0 0] 33 (0, 0))) ∧ (Below w.heap.size w w')) ?_ ?_
          rotate_left
          ·intro hJ0_3
           refine join_ (σ := Value × Value) 6 #[true, true, true, false, true, true, true, false, true, true, true, true, false, true, true, false, false, false] (fun s_ => [(3, s_.1), (7, s_.2)]) (fun s_ w' => (w'.cell? ⟨gb348, 0, none⟩ = some (.slice A0_0 l0_0.length c0_0) ∧ w'.cell? ⟨gb348, 1, none⟩ = some (.slice A0_1 l0_1.length c0_1) ∧ w'.cell? ⟨gb348, 2, none⟩ = some (.int .i64 a0_2) ∧ w'.cell? ⟨gb348, 3, none⟩ = some (.bool a0_3) ∧ w'.cell? ⟨gb348, 4, none⟩ = some (.slice A0_4 l0_4.length c0_4)) ∧ (Kd.R k53 53 w' w.heap.size (fun _ => True) s_.1 y350) ∧ (Kd.R (Kd.int .i64) 3 w' w.heap.size (fun _ => True) s_.2 y356) ∧ (w'.heap[gb348]? = some (.cells #[.slice A0_0 l0_0.length c0_0, .slice A0_1 l0_1.length c0_1, .int .i64 a0_2, .bool a0_3, .slice A0_4 l0_4.length c0_4] 33 (0, 0))) ∧ (w'.heap[gb349]? = some (.cells #[.slice none 0 0, .slice none 0 0, .int .i64 0, .bool false, .slice none 0 0] 33 (0, 0))) ∧ (Below w.heap.size w w')) ?_ ?_
           rotate_left
           ·intro hJ0_4
            refine join_ (σ := Value × Value) 6 #[true, true, true, false, false, true, true, false, true, true, true, true, true, true, true, false, false, false] (fun s_ => [(3, s_.1), (15, s_.2)]) (fun s_ w' => (w'.cell? ⟨gb348, 0, none⟩ = some (.slice A0_0 l0_0.length c0_0) ∧ w'.cell? ⟨gb348, 1, none⟩ = some (.slice A0_1 l0_1.length c0_1) ∧ w'.cell? ⟨gb348, 2, none⟩ = some (.int .i64 a0_2) ∧ w'.cell? ⟨gb348, 3, none⟩ = some (.bool a0_3) ∧ w'.cell? ⟨gb348, 4, none⟩ = some (.slice A0_4 l0_4.length c0_4)) ∧ (Kd.R k53 53 w' w.heap.size (fun _ => True) s_.1 y350) ∧ (Kd.R (Kd.int .i64) 3 w' w.heap.size (fun _ => True) s_.2 y362) ∧ (w'.heap[gb348]? = some (.cells #[.slice A0_0 l0_0.length c0_0, .slice A0_1 l0_1.length c0_1, .int .i64 a0_2, .bool a0_3, .slice A0_4 l0_4.length c0_4] 33 (0, 0))) ∧ (w'.heap[gb349]? = some (.cells #[.slice none 0 0, .slice none 0 0, .int .i64 0, .bool false, .slice none 0 0] 33 (0, 0))) ∧ (Below w.heap.size w w')) ?_ ?_
            rotate_left
            ·intro hJ0_12
             refine join_ (σ := Value × Value) 6 #[false, true, true, false, true, true, true, false, true, true, true, true, true, true, true, false, false, false] (fun s_ => [(7, s_.1), (15, s_.2)]) (fun s_ w' => (w'.cell? ⟨gb348, 0, none⟩ = some (.slice A0_0 l0_0.length c0_0) ∧ w'.cell? ⟨gb348, 1, none⟩ = some (.slice A0_1 l0_1.length c0_1) ∧ w'.cell? ⟨gb348, 2, none⟩ = some (.int .i64 a0_2) ∧ w'.cell? ⟨gb348, 3, none⟩ = some (.bool a0_3) ∧ w'.cell? ⟨gb348, 4, none⟩ = some (.slice A0_4 l0_4.length c0_4)) ∧ (Kd.R (Kd.int .i64) 3 w' w.heap.size (fun k_ => some k_ ≠ (s_.2 : Value).ownBlock) s_.1 y356) ∧ (Kd.R (Kd.int .i64) 3 w' w.heap.size (fun k_ => some k_ ≠ (s_.1 : Value).ownBlock) s_.2 y362) ∧ (w'.heap[gb348]? = some (.cells #[.slice A0_0 l0_0.length c0_0, .slice A0_1 l0_1.length c0_1, .int .i64 a0_2, .bool a0_3, .slice A0_4 l0_4.length c0_4] 33 (0, 0))) ∧ (w'.heap[gb349]? = some (.cells #[.slice none 0 0, .slice none 0 0, .int .i64 0, .bool false, .slice none 0 0] 33 (0, 0))) ∧ (Below w.heap.size w w')) ?_ ?_
             rotate_left
             ·intro hJ4_12
              refine join_ (σ := Value) 7 #[true, true, true, false, false, true, true, false, true, true, true, true, false, true, true, false, false, false] (fun s_ => [(3, s_)]) (fun s_ w' => (w'.cell? ⟨gb348, 0, none⟩ = some (.slice A0_0 l0_0.length c0_0) ∧ w'.cell? ⟨gb348, 1, none⟩ = some (.slice A0_1 l0_1.length c0_1) ∧ w'.cell? ⟨gb348, 2, none⟩ = some (.int .i64 a0_2) ∧ w'.cell? ⟨gb348, 3, none⟩ = some (.bool a0_3) ∧ w'.cell? ⟨gb348, 4, none⟩ = some (.slice A0_4 l0_4.length c0_4)) ∧ (Kd.R k53 53 w' w.heap.size (fun _ => True) s_ y350) ∧ (w'.heap[gb348]? = some (.cells #[.slice A0_0 l0_0.length c0_0, .slice A0_1 l0_1.length c0_1, .int .i64 a0_2, .bool a0_3, .slice A0_4 l0_4.length c0_4] 33 (0, 0))) ∧ (w'.heap[gb349]? = some (.cells #[.slice none 0 0, .slice none 0 0, .int .i64 0, .bool false, .slice none 0 0] 33 (0, 0))) ∧ (Below w.heap.size w w')) ?_ ?_
              rotate_left
              ·intro hJ0
               refine join_ (σ := Value) 7 #[false, true, true, false, true, true, true, false, true, true, true, true, false, true, true, false, false, false] (fun s_ => [(7, s_)]) (fun s_ w' => (w'.cell? ⟨gb348, 0, none⟩ = some (.slice A0_0 l0_0.length c0_0) ∧ w'.cell? ⟨gb348, 1, none⟩ = some (.slice A0_1 l0_1.length c0_1) ∧ w'.cell? ⟨gb348, 2, none⟩ = some (.int .i64 a0_2) ∧ w'.cell? ⟨gb348, 3, none⟩ = some (.bool a0_3) ∧ w'.cell? ⟨gb348, 4, none⟩ = some (.slice A0_4 l0_4.length c0_4)) ∧ (Kd.R (Kd.int .i64) 3 w' w.heap.size (fun _ => True) s_ y356) ∧ (w'.heap[gb348]? = some (.cells #[.slice A0_0 l0_0.length c0_0, .slice A0_1 l0_1.length c0_1, .int .i64 a0_2, .bool a0_3, .slice A0_4 l0_4.length c0_4] 33 (0, 0))) ∧ (w'.heap[gb349]? = some (.cells #[.slice none 0 0, .slice none 0 0, .int .i64 0, .bool false, .slice none 0 0] 33 (0, 0))) ∧ (Below w.heap.size w w')) ?_ ?_
               rotate_left
               ·intro hJ4
                refine join_ (σ := Value) 7 #[false, true, true, false, false, true, true, false, true, true, true, true, true, true, true, false, false, false] (fun s_ => [(15, s_)]) (fun s_ w' => (w'.cell? ⟨gb348, 0, none⟩ = some (.slice A0_0 l0_0.length c0_0) ∧ w'.cell? ⟨gb348, 1, none⟩ = some (.slice A0_1 l0_1.length c0_1) ∧ w'.cell? ⟨gb348, 2, none⟩ = some (.int .i64 a0_2) ∧ w'.cell? ⟨gb348, 3, none⟩ = some (.bool a0_3) ∧ w'.cell? ⟨gb348, 4, none⟩ = some (.slice A0_4 l0_4.length c0_4)) ∧ (Kd.R (Kd.int .i64) 3 w' w.heap.size (fun _ => True) s_ y362) ∧ (w'.heap[gb348]? = some (.cells #[.slice A0_0 l0_0.length c0_0, .slice A0_1 l0_1.length c0_1, .int .i64 a0_2, .bool a0_3, .slice A0_4 l0_4.length c0_4] 33 (0, 0))) ∧ (w'.heap[gb349]? = some (.cells #[.slice none 0 0, .slice none 0 0, .int .i64 0, .bool false, .slice none 0 0] 33 (0, 0))) ∧ (Below w.heap.size w w')) ?_ ?_
                rotate_left
                ·intro hJ12
                 refine three_ (i := 0) (j := 4) (k := 12) (Ni := some 3) (Nj := some 7) (Nk := some 15) #[true, true, true, false, false, true, true, false, true, true, true, true, false, true, true, false, false, false] #[false, true, true, false, true, true, true, false, true, true, true, true, false, true, true, false, false, false] #[false, true, true, false, false, true, true, false, true, true, true, true, true, true, true, false, false, false] rfl rfl rfl rfl rfl rfl (three_of HT_.out (by kernel_rfl)) (by decide) (by decide) (by decide) (fun K hK => ?_) (fun K hK => ?_) (fun K hK => ?_)
                 ·skip
                  refine Kd.R_lit_step k53 _ 53 ?hg (N := 3) ?hd (xs := ([] : List (S53))) (inner := []) (ok := fun _ => True) (okp := fun _ => True) ?hr ?hp (fun _ hk => hk) trivial (Below.refl _ _) (Nat.le_refl _) (by simp) ?_; (case hd => rfl); (case hg => rfl); (case hr => first | (go_simp; done) | (go_simp; rfl)); (case hp => exact (Reps.none _ _))
                  intro v351 w8 ho9 hb hg_ hnew_
                  clear hg_ hnew_
                  (first | rw [← Ny350.out] at ho9 | (simp only [Int.reduceToNat] at ho9; rw [← Ny350.out] at ho9))
                  have n0_ := m_ (Kd.R_lower ho9 (below_size (bN HB.out)))
                  have n1_ := m_ (blk_below (kN BK348.out) hb)
                  have n2_ := m_ (blk_below (kN BK349.out) hb)
                  have n3_ := m_ (below_step (bN HB.out) hb)
                  clear BK348
                  clear BK349
                  clear HB
                  have HO352 := n0_
                  have BK348 := n1_
                  have BK349 := n2_
                  have HB := n3_
                  clear n0_ n1_ n2_ n3_
                  clear hb ho9
                  refine hK.out _ _ ⟨(blk_cell BK348.out 0).trans rfl, (blk_cell BK348.out 1).trans rfl, (blk_cell BK348.out 2).trans rfl, (blk_cell BK348.out 3).trans rfl, (blk_cell BK348.out 4).trans rfl⟩ (fun hHeld => ?_)
                  clear hK K
                  refine norm_ (a' := ?_) ?_ ?_
                  rotate_left
                  ·show Act.put _ (some 3) _ = _
                   simp only [Act.put, List.setIfInBounds_toArray, List.set_cons_zero, List.set_cons_succ, i64_w, i32_w]
                   rfl
                  exact norm_ (by first | (simp only [putAll, Act.put, List.setIfInBounds_toArray, List.set_cons_zero, List.set_cons_succ]; done) | (simp only [putAll, Act.put, List.setIfInBounds_toArray, List.set_cons_zero, List.set_cons_succ]; rfl)) (hJ0 (v351) _ ⟨hHeld, (rN HO352.out), (kN BK348.out), (kN BK349.out), (bN HB.out)⟩)
                 ·skip
                  refine Kd.R_lit_step (Kd.int .i64) _ 3 ?hg (N := 7) ?hd (xs := ([] : List Int)) (inner := []) (ok := fun _ => True) (okp := fun _ => True) ?hr ?hp (fun _ hk => hk) trivial (Below.refl _ _) (Nat.le_refl _) (by simp) ?_; (case hd => rfl); (case hg => rfl); (case hr => first | (go_simp; done) | (go_simp; rfl)); (case hp => exact (Reps.none _ _))
                  intro v357 w8 ho9 hb hg_ hnew_
                  clear hg_ hnew_
                  (first | rw [← Ny356.out] at ho9 | (simp only [Int.reduceToNat] at ho9; rw [← Ny356.out] at ho9))
                  have n0_ := m_ (Kd.R_lower ho9 (below_size (bN HB.out)))
                  have n1_ := m_ (blk_below (kN BK348.out) hb)
                  have n2_ := m_ (blk_below (kN BK349.out) hb)
                  have n3_ := m_ (below_step (bN HB.out) hb)
                  clear BK348
                  clear BK349
                  clear HB
                  have HO358 := n0_
                  have BK348 := n1_
                  have BK349 := n2_
                  have HB := n3_
                  clear n0_ n1_ n2_ n3_
                  clear hb ho9
                  refine hK.out _ _ ⟨(blk_cell BK348.out 0).trans rfl, (blk_cell BK348.out 1).trans rfl, (blk_cell BK348.out 2).trans rfl, (blk_cell BK348.out 3).trans rfl, (blk_cell BK348.out 4).trans rfl⟩ (fun hHeld => ?_)
                  clear hK K
                  refine norm_ (a' := ?_) ?_ ?_
                  rotate_left
                  ·show Act.put _ (some 7) _ = _
                   simp only [Act.put, List.setIfInBounds_toArray, List.set_cons_zero, List.set_cons_succ, i64_w, i32_w]
                   rfl
                  exact norm_ (by first | (simp only [putAll, Act.put, List.setIfInBounds_toArray, List.set_cons_zero, List.set_cons_succ]; done) | (simp only [putAll, Act.put, List.setIfInBounds_toArray, List.set_cons_zero, List.set_cons_succ]; rfl)) (hJ4 (v357) _ ⟨hHeld, (rN HO358.out), (kN BK348.out), (kN BK349.out), (bN HB.out)⟩)
                 ·skip
                  refine Kd.R_lit_step (Kd.int .i64) _ 3 ?hg (N := 15) ?hd (xs := ([] : List Int)) (inner := []) (ok := fun _ => True) (okp := fun _ => True) ?hr ?hp (fun _ hk => hk) trivial (Below.refl _ _) (Nat.le_refl _) (by simp) ?_; (case hd => rfl); (case hg => rfl); (case hr => first | (go_simp; done) | (go_simp; rfl)); (case hp => exact (Reps.none _ _))
                  intro v363 w8 ho9 hb hg_ hnew_
                  clear hg_ hnew_
                  (first | rw [← Ny362.out] at ho9 | (simp only [Int.reduceToNat] at ho9; rw [← Ny362.out] at ho9))
                  have n0_ := m_ (Kd.R_lower ho9 (below_size (bN HB.out)))
                  have n1_ := m_ (blk_below (kN BK348.out) hb)
                  have n2_ := m_ (blk_below (kN BK349.out) hb)
                  have n3_ := m_ (below_step (bN HB.out) hb)
                  clear BK348
                  clear BK349
                  clear HB
                  have HO364 := n0_
                  have BK348 := n1_
                  have BK349 := n2_
                  have HB := n3_
                  clear n0_ n1_ n2_ n3_
                  clear hb ho9
                  refine hK.out _ _ ⟨(blk_cell BK348.out 0).trans rfl, (blk_cell BK348.out 1).trans rfl, (blk_cell BK348.out 2).trans rfl, (blk_cell BK348.out 3).trans rfl, (blk_cell BK348.out 4).trans rfl⟩ (fun hHeld => ?_)
                  clear hK K
                  refine norm_ (a' := ?_) ?_ ?_
                  rotate_left
                  ·show Act.put _ (some 15) _ = _
                   simp only [Act.put, List.setIfInBounds_toArray, List.set_cons_zero, List.set_cons_succ, i64_w, i32_w]
                   rfl
                  exact norm_ (by first | (simp only [putAll, Act.put, List.setIfInBounds_toArray, List.set_cons_zero, List.set_cons_succ]; done) | (simp only [putAll, Act.put, List.setIfInBounds_toArray, List.set_cons_zero, List.set_cons_succ]; rfl)) (hJ12 (v363) _ ⟨hHeld, (rN HO364.out), (kN BK348.out), (kN BK349.out), (bN HB.out)⟩)
                ·skip
                 rintro v363 w10 ⟨hS_, h0_, h1_, h2_, h3_⟩
                 have n0_ : Aside0 (Kd.R (Kd.int .i64) 3 w10 w.heap.size (fun _ => True) v363 y362) := ⟨h0_⟩
                 have n1_ : Aside0 (w10.heap[gb348]? = some (.cells #[.slice A0_0 l0_0.length c0_0, .slice A0_1 l0_1.length c0_1, .int .i64 a0_2, .bool a0_3, .slice A0_4 l0_4.length c0_4] 33 (0, 0))) := ⟨h1_⟩
                 have n2_ : Aside0 (w10.heap[gb349]? = some (.cells #[.slice none 0 0, .slice none 0 0, .int .i64 0, .bool false, .slice none 0 0] 33 (0, 0))) := ⟨h2_⟩
                 have n3_ : Aside0 (Below w.heap.size w w10) := ⟨h3_⟩
                 clear BK348
                 clear BK349
                 clear HB
                 clear h0_ h1_ h2_ h3_
                 have HO364 := n0_
                 have BK348 := n1_
                 have BK349 := n2_
                 have HB := n3_
                 clear n0_ n1_ n2_ n3_
                 have hHeld : w10.cell? ⟨gb348, 0, none⟩ = some (.slice A0_0 l0_0.length c0_0) ∧ w10.cell? ⟨gb348, 1, none⟩ = some (.slice A0_1 l0_1.length c0_1) ∧ w10.cell? ⟨gb348, 2, none⟩ = some (.int .i64 a0_2) ∧ w10.cell? ⟨gb348, 3, none⟩ = some (.bool a0_3) ∧ w10.cell? ⟨gb348, 4, none⟩ = some (.slice A0_4 l0_4.length c0_4) := hS_
                 refine norm_ (a' := ?_) ?_ ?_
                 rotate_left
                 ·simp only [putAll, Act.put, List.setIfInBounds_toArray, List.set_cons_zero, List.set_cons_succ]
                  rfl
                 refine two_ (i := 0) (j := 4) (Ni := some 3) (Nj := some 7) #[true, true, true, false, false, true, true, false, true, true, true, true, true, true, true, false, false, false] #[false, true, true, false, true, true, true, false, true, true, true, true, true, true, true, false, false, false] rfl rfl rfl rfl (two_of HT_.out (by kernel_rfl)) (by decide) (by decide) (fun K hK => ?_) (fun K hK => ?_)
                 ·skip
                  refine Kd.R_lit_step k53 _ 53 ?hg (N := 3) ?hd (xs := ([] : List (S53))) (inner := []) (ok := fun _ => True) (okp := fun _ => True) ?hr ?hp (fun _ hk => hk) trivial (Below.refl _ _) (Nat.le_refl _) (by simp) ?_; (case hd => rfl); (case hg => rfl); (case hr => first | (go_simp; done) | (go_simp; rfl)); (case hp => exact (Reps.none _ _))
                  intro v351 w11 ho12 hb hg_ hnew_
                  clear hg_ hnew_
                  (first | rw [← Ny350.out] at ho12 | (simp only [Int.reduceToNat] at ho12; rw [← Ny350.out] at ho12))
                  have n0_ := m_ (Kd.R_below (rN HO364.out) hb)
                  have n1_ := m_ (Kd.R_lower ho12 (below_size (bN HB.out)))
                  have n2_ := m_ (blk_below (kN BK348.out) hb)
                  have n3_ := m_ (blk_below (kN BK349.out) hb)
                  have n4_ := m_ (below_step (bN HB.out) hb)
                  clear HO364
                  clear BK348
                  clear BK349
                  clear HB
                  have HO364 := n0_
                  have HO352 := n1_
                  have BK348 := n2_
                  have BK349 := n3_
                  have HB := n4_
                  clear n0_ n1_ n2_ n3_ n4_
                  clear hb ho12
                  refine hK.out _ _ ⟨(blk_cell BK348.out 0).trans rfl, (blk_cell BK348.out 1).trans rfl, (blk_cell BK348.out 2).trans rfl, (blk_cell BK348.out 3).trans rfl, (blk_cell BK348.out 4).trans rfl⟩ (fun hHeld => ?_)
                  clear hK K
                  refine norm_ (a' := ?_) ?_ ?_
                  rotate_left
                  ·show Act.put _ (some 3) _ = _
                   simp only [Act.put, List.setIfInBounds_toArray, List.set_cons_zero, List.set_cons_succ, i64_w, i32_w]
                   rfl
                  exact norm_ (by first | (simp only [putAll, Act.put, List.setIfInBounds_toArray, List.set_cons_zero, List.set_cons_succ]; done) | (simp only [putAll, Act.put, List.setIfInBounds_toArray, List.set_cons_zero, List.set_cons_succ]; rfl)) (hJ0_12 (v351, v363) _ ⟨hHeld, (rN HO352.out), (rN HO364.out), (kN BK348.out), (kN BK349.out), (bN HB.out)⟩)
                 ·skip
                  refine Kd.R_lit_step (Kd.int .i64) _ 3 ?hg (N := 7) ?hd (xs := ([] : List Int)) (inner := []) (ok := fun _ => True) (okp := fun _ => True) ?hr ?hp (fun _ hk => hk) trivial (Below.refl _ _) (Nat.le_refl _) (by simp) ?_; (case hd => rfl); (case hg => rfl); (case hr => first | (go_simp; done) | (go_simp; rfl)); (case hp => exact (Reps.none _ _))
                  intro v357 w11 ho12 hb hg_ hnew_
                  clear hg_ hnew_
                  (first | rw [← Ny356.out] at ho12 | (simp only [Int.reduceToNat] at ho12; rw [← Ny356.out] at ho12))
                  have n0_ := m_ (Kd.R_elder' (rN HO364.out) (Kd.R_base ho12) hb)
                  have n1_ := m_ (Kd.R_lower (Kd.R_new' ho12 (Kd.R_lt (rN HO364.out))) (below_size (bN HB.out)))
                  have n2_ := m_ (blk_below (kN BK348.out) hb)
                  have n3_ := m_ (blk_below (kN BK349.out) hb)
                  have n4_ := m_ (below_step (bN HB.out) hb)
                  clear HO364
                  clear BK348
                  clear BK349
                  clear HB
                  have HO364 := n0_
                  have HO358 := n1_
                  have BK348 := n2_
                  have BK349 := n3_
                  have HB := n4_
                  clear n0_ n1_ n2_ n3_ n4_
                  clear hb ho12
                  refine hK.out _ _ ⟨(blk_cell BK348.out 0).trans rfl, (blk_cell BK348.out 1).trans rfl, (blk_cell BK348.out 2).trans rfl, (blk_cell BK348.out 3).trans rfl, (blk_cell BK348.out 4).trans rfl⟩ (fun hHeld => ?_)
                  clear hK K
                  refine norm_ (a' := ?_) ?_ ?_
                  rotate_left
                  ·show Act.put _ (some 7) _ = _
                   simp only [Act.put, List.setIfInBounds_toArray, List.set_cons_zero, List.set_cons_succ, i64_w, i32_w]
                   rfl
                  exact norm_ (by first | (simp only [putAll, Act.put, List.setIfInBounds_toArray, List.set_cons_zero, List.set_cons_succ]; done) | (simp only [putAll, Act.put, List.setIfInBounds_toArray, List.set_cons_zero, List.set_cons_succ]; rfl)) (hJ4_12 (v357, v363) _ ⟨hHeld, (by (with_reducible repeat (first | apply Kd.R_alloc | apply Kd.R_drewN | apply Kd.R_drew)); exact Kd.R_mono HO358.out (fun _ hk => hk.2)), (by (with_reducible repeat (first | apply Kd.R_alloc | apply Kd.R_drewN | apply Kd.R_drew)); exact Kd.R_mono HO364.out (fun _ hk => hk.2)), (kN BK348.out), (kN BK349.out), (bN HB.out)⟩)
               ·skip
                rintro v357 w10 ⟨hS_, h0_, h1_, h2_, h3_⟩
                have n0_ : Aside0 (Kd.R (Kd.int .i64) 3 w10 w.heap.size (fun _ => True) v357 y356) := ⟨h0_⟩
                have n1_ : Aside0 (w10.heap[gb348]? = some (.cells #[.slice A0_0 l0_0.length c0_0, .slice A0_1 l0_1.length c0_1, .int .i64 a0_2, .bool a0_3, .slice A0_4 l0_4.length c0_4] 33 (0, 0))) := ⟨h1_⟩
                have n2_ : Aside0 (w10.heap[gb349]? = some (.cells #[.slice none 0 0, .slice none 0 0, .int .i64 0, .bool false, .slice none 0 0] 33 (0, 0))) := ⟨h2_⟩
                have n3_ : Aside0 (Below w.heap.size w w10) := ⟨h3_⟩
                clear BK348
                clear BK349
                clear HB
                clear h0_ h1_ h2_ h3_
                have HO358 := n0_
                have BK348 := n1_
                have BK349 := n2_
                have HB := n3_
                clear n0_ n1_ n2_ n3_
                have hHeld : w10.cell? ⟨gb348, 0, none⟩ = some (.slice A0_0 l0_0.length c0_0) ∧ w10.cell? ⟨gb348, 1, none⟩ = some (.slice A0_1 l0_1.length c0_1) ∧ w10.cell? ⟨gb348, 2, none⟩ = some (.int .i64 a0_2) ∧ w10.cell? ⟨gb348, 3, none⟩ = some (.bool a0_3) ∧ w10.cell? ⟨gb348, 4, none⟩ = some (.slice A0_4 l0_4.length c0_4) := hS_
                refine norm_ (a' := ?_) ?_ ?_
                rotate_left
                ·simp only [putAll, Act.put, List.setIfInBounds_toArray, List.set_cons_zero, List.set_cons_succ]
                 rfl
                refine two_ (i := 0) (j := 12) (Ni := some 3) (Nj := some 15) #[true, true, true, false, true, true, true, false, true, true, true, true, false, true, true, false, false, false] #[false, true, true, false, true, true, true, false, true, true, true, true, true, true, true, false, false, false] rfl rfl rfl rfl (two_of HT_.out (by kernel_rfl)) (by decide) (by decide) (fun K hK => ?_) (fun K hK => ?_)
                ·skip
                 refine Kd.R_lit_step k53 _ 53 ?hg (N := 3) ?hd (xs := ([] : List (S53))) (inner := []) (ok := fun _ => True) (okp := fun _ => True) ?hr ?hp (fun _ hk => hk) trivial (Below.refl _ _) (Nat.le_refl _) (by simp) ?_; (case hd => rfl); (case hg => rfl); (case hr => first | (go_simp; done) | (go_simp; rfl)); (case hp => exact (Reps.none _ _))
                 intro v351 w11 ho12 hb hg_ hnew_
                 clear hg_ hnew_
                 (first | rw [← Ny350.out] at ho12 | (simp only [Int.reduceToNat] at ho12; rw [← Ny350.out] at ho12))
                 have n0_ := m_ (Kd.R_below (rN HO358.out) hb)
                 have n1_ := m_ (Kd.R_lower ho12 (below_size (bN HB.out)))
                 have n2_ := m_ (blk_below (kN BK348.out) hb)
                 have n3_ := m_ (blk_below (kN BK349.out) hb)
                 have n4_ := m_ (below_step (bN HB.out) hb)
                 clear HO358
                 clear BK348
                 clear BK349
                 clear HB
                 have HO358 := n0_
                 have HO352 := n1_
                 have BK348 := n2_
                 have BK349 := n3_
                 have HB := n4_
                 clear n0_ n1_ n2_ n3_ n4_
                 clear hb ho12
                 refine hK.out _ _ ⟨(blk_cell BK348.out 0).trans rfl, (blk_cell BK348.out 1).trans rfl, (blk_cell BK348.out 2).trans rfl, (blk_cell BK348.out 3).trans rfl, (blk_cell BK348.out 4).trans rfl⟩ (fun hHeld => ?_)
                 clear hK K
                 refine norm_ (a' := ?_) ?_ ?_
                 rotate_left
                 ·show Act.put _ (some 3) _ = _
                  simp only [Act.put, List.setIfInBounds_toArray, List.set_cons_zero, List.set_cons_succ, i64_w, i32_w]
                  rfl
                 exact norm_ (by first | (simp only [putAll, Act.put, List.setIfInBounds_toArray, List.set_cons_zero, List.set_cons_succ]; done) | (simp only [putAll, Act.put, List.setIfInBounds_toArray, List.set_cons_zero, List.set_cons_succ]; rfl)) (hJ0_4 (v351, v357) _ ⟨hHeld, (rN HO352.out), (rN HO358.out), (kN BK348.out), (kN BK349.out), (bN HB.out)⟩)
                ·skip
                 refine Kd.R_lit_step (Kd.int .i64) _ 3 ?hg (N := 15) ?hd (xs := ([] : List Int)) (inner := []) (ok := fun _ => True) (okp := fun _ => True) ?hr ?hp (fun _ hk => hk) trivial (Below.refl _ _) (Nat.le_refl _) (by simp) ?_; (case hd => rfl); (case hg => rfl); (case hr => first | (go_simp; done) | (go_simp; rfl)); (case hp => exact (Reps.none _ _))
                 intro v363 w11 ho12 hb hg_ hnew_
                 clear hg_ hnew_
                 (first | rw [← Ny362.out] at ho12 | (simp only [Int.reduceToNat] at ho12; rw [← Ny362.out] at ho12))
                 have n0_ := m_ (Kd.R_elder' (rN HO358.out) (Kd.R_base ho12) hb)
                 have n1_ := m_ (Kd.R_lower (Kd.R_new' ho12 (Kd.R_lt (rN HO358.out))) (below_size (bN HB.out)))
                 have n2_ := m_ (blk_below (kN BK348.out) hb)
                 have n3_ := m_ (blk_below (kN BK349.out) hb)
                 have n4_ := m_ (below_step (bN HB.out) hb)
                 clear HO358
                 clear BK348
                 clear BK349
                 clear HB
                 have HO358 := n0_
                 have HO364 := n1_
                 have BK348 := n2_
                 have BK349 := n3_
                 have HB := n4_
                 clear n0_ n1_ n2_ n3_ n4_
                 clear hb ho12
                 refine hK.out _ _ ⟨(blk_cell BK348.out 0).trans rfl, (blk_cell BK348.out 1).trans rfl, (blk_cell BK348.out 2).trans rfl, (blk_cell BK348.out 3).trans rfl, (blk_cell BK348.out 4).trans rfl⟩ (fun hHeld => ?_)
                 clear hK K
                 refine norm_ (a' := ?_) ?_ ?_
                 rotate_left
                 ·show Act.put _ (some 15) _ = _
                  simp only [Act.put, List.setIfInBounds_toArray, List.set_cons_zero, List.set_cons_succ, i64_w, i32_w]
                  rfl
                 exact norm_ (by first | (simp only [putAll, Act.put, List.setIfInBounds_toArray, List.set_cons_zero, List.set_cons_succ]; done) | (simp only [putAll, Act.put, List.setIfInBounds_toArray, List.set_cons_zero, List.set_cons_succ]; rfl)) (hJ4_12 (v357, v363) _ ⟨hHeld, (by (with_reducible repeat (first | apply Kd.R_alloc | apply Kd.R_drewN | apply Kd.R_drew)); exact Kd.R_mono HO358.out (fun _ hk => hk.2)), (by (with_reducible repeat (first | apply Kd.R_alloc | apply Kd.R_drewN | apply Kd.R_drew)); exact Kd.R_mono HO364.out (fun _ hk => hk.2)), (kN BK348.out), (kN BK349.out), (bN HB.out)⟩)
              ·skip
               rintro v351 w10 ⟨hS_, h0_, h1_, h2_, h3_⟩
               have n0_ : Aside0 (Kd.R k53 53 w10 w.heap.size (fun _ => True) v351 y350) := ⟨h0_⟩
               have n1_ : Aside0 (w10.heap[gb348]? = some (.cells #[.slice A0_0 l0_0.length c0_0, .slice A0_1 l0_1.length c0_1, .int .i64 a0_2, .bool a0_3, .slice A0_4 l0_4.length c0_4] 33 (0, 0))) := ⟨h1_⟩
               have n2_ : Aside0 (w10.heap[gb349]? = some (.cells #[.slice none 0 0, .slice none 0 0, .int .i64 0, .bool false, .slice none 0 0] 33 (0, 0))) := ⟨h2_⟩
               have n3_ : Aside0 (Below w.heap.size w w10) := ⟨h3_⟩
               clear BK348
               clear BK349
               clear HB
               clear h0_ h1_ h2_ h3_
               have HO352 := n0_
               have BK348 := n1_
               have BK349 := n2_
               have HB := n3_
               clear n0_ n1_ n2_ n3_
               have hHeld : w10.cell? ⟨gb348, 0, none⟩ = some (.slice A0_0 l0_0.length c0_0) ∧ w10.cell? ⟨gb348, 1, none⟩ = some (.slice A0_1 l0_1.length c0_1) ∧ w10.cell? ⟨gb348, 2, none⟩ = some (.int .i64 a0_2) ∧ w10.cell? ⟨gb348, 3, none⟩ = some (.bool a0_3) ∧ w10.cell? ⟨gb348, 4, none⟩ = some (.slice A0_4 l0_4.length c0_4) := hS_
               refine norm_ (a' := ?_) ?_ ?_
               rotate_left
               ·simp only [putAll, Act.put, List.setIfInBounds_toArray, List.set_cons_zero, List.set_cons_succ]
                rfl
               refine three_ (i := 3) (j := 4) (k := 12) (Ni := some 6) (Nj := some 7) (Nk := some 15) #[true, true, true, true, false, true, true, false, true, true, true, true, false, true, true, false, false, false] #[true, true, true, false, true, true, true, false, true, true, true, true, false, true, true, false, false, false] #[true, true, true, false, false, true, true, false, true, true, true, true, true, true, true, false, false, false] rfl rfl rfl rfl rfl rfl (three_of HT_.out (by kernel_rfl)) (by decide) (by decide) (by decide) (fun K hK => ?_) (fun K hK => ?_) (fun K hK => ?_)
               ·skip
                refine Kd.R_append_rows_step k53 (w0 := w) w.heap.size (by rfl) (.tmp 3) (.tmp 5) 25 53 (.agg #[(.int .i64 0), (.int .i64 0), (.int .i64 0)]) 24 rfl Try.underlying25 info53 rfl (by decide) (by omega) v351 y350 l0_0 _ _ _ (fun _ => True) (fun _ => False) rfl rfl ?aO ?aR (fun _ _ h => h) (fun _ h => h.elim) ?aF ?aB ?aS ?aL ?_
                (case aR => exact cN (Kd.C_below HR0_0.out HB.out))
                (case aB => exact (bN HB.out))
                (case aF => exact (fun _ _ => trivial))
                (case aO => exact (rN HO352.out))
                (case aS => exact (below_size (bN HB.out)))
                (case aL => have := LMc2.out; omega)
                intro v354 w11 ho hb hg hat
                rw [← Ny353.out] at ho
                have n0_ := m_ (blk_grown (g := gb348) (o := .cells #[.slice A0_0 l0_0.length c0_0, .slice A0_1 l0_1.length c0_1, .int .i64 a0_2, .bool a0_3, .slice A0_4 l0_4.length c0_4] 33 (0, 0)) (kN BK348.out) hg (Kd.R_ne HO352.out BK348.out (by decide)))
                have n1_ := m_ (blk_grown (g := gb349) (o := .cells #[.slice none 0 0, .slice none 0 0, .int .i64 0, .bool false, .slice none 0 0] 33 (0, 0)) (kN BK349.out) hg (Kd.R_ne HO352.out BK349.out (by decide)))
                have n2_ := m_ (hb)
                have n3_ := m_ (ho)
                clear BK348
                clear BK349
                clear HB
                clear HO352
                have BK348 := n0_
                have BK349 := n1_
                have HB := n2_
                have HO355 := n3_
                clear n0_ n1_ n2_ n3_
                clear ho hb hg hat
                refine hK.out _ _ ⟨(blk_cell BK348.out 0).trans rfl, (blk_cell BK348.out 1).trans rfl, (blk_cell BK348.out 2).trans rfl, (blk_cell BK348.out 3).trans rfl, (blk_cell BK348.out 4).trans rfl⟩ (fun hHeld => ?_)
                clear hK K
                refine norm_ (a' := ?_) ?_ ?_
                rotate_left
                ·show Act.put _ (some 6) _ = _
                 simp only [Act.put, List.setIfInBounds_toArray, List.set_cons_zero, List.set_cons_succ, i64_w, i32_w]
                 rfl
                exact norm_ (by first | (simp only [putAll, Act.put, List.setIfInBounds_toArray, List.set_cons_zero, List.set_cons_succ]; done) | (simp only [putAll, Act.put, List.setIfInBounds_toArray, List.set_cons_zero, List.set_cons_succ]; rfl)) (hJ0_3 (v351, v354) _ ⟨hHeld, (rN HO355.out), (kN BK348.out), (kN BK349.out), (bN HB.out)⟩)
               ·skip
                refine Kd.R_lit_step (Kd.int .i64) _ 3 ?hg (N := 7) ?hd (xs := ([] : List Int)) (inner := []) (ok := fun _ => True) (okp := fun _ => True) ?hr ?hp (fun _ hk => hk) trivial (Below.refl _ _) (Nat.le_refl _) (by simp) ?_; (case hd => rfl); (case hg => rfl); (case hr => first | (go_simp; done) | (go_simp; rfl)); (case hp => exact (Reps.none _ _))
                intro v357 w11 ho12 hb hg_ hnew_
                clear hg_ hnew_
                (first | rw [← Ny356.out] at ho12 | (simp only [Int.reduceToNat] at ho12; rw [← Ny356.out] at ho12))
                have n0_ := m_ (Kd.R_below (rN HO352.out) hb)
                have n1_ := m_ (Kd.R_lower ho12 (below_size (bN HB.out)))
                have n2_ := m_ (blk_below (kN BK348.out) hb)
                have n3_ := m_ (blk_below (kN BK349.out) hb)
                have n4_ := m_ (below_step (bN HB.out) hb)
                clear HO352
                clear BK348
                clear BK349
                clear HB
                have HO352 := n0_
                have HO358 := n1_
                have BK348 := n2_
                have BK349 := n3_
                have HB := n4_
                clear n0_ n1_ n2_ n3_ n4_
                clear hb ho12
                refine hK.out _ _ ⟨(blk_cell BK348.out 0).trans rfl, (blk_cell BK348.out 1).trans rfl, (blk_cell BK348.out 2).trans rfl, (blk_cell BK348.out 3).trans rfl, (blk_cell BK348.out 4).trans rfl⟩ (fun hHeld => ?_)
                clear hK K
                refine norm_ (a' := ?_) ?_ ?_
                rotate_left
                ·show Act.put _ (some 7) _ = _
                 simp only [Act.put, List.setIfInBounds_toArray, List.set_cons_zero, List.set_cons_succ, i64_w, i32_w]
                 rfl
                exact norm_ (by first | (simp only [putAll, Act.put, List.setIfInBounds_toArray, List.set_cons_zero, List.set_cons_succ]; done) | (simp only [putAll, Act.put, List.setIfInBounds_toArray, List.set_cons_zero, List.set_cons_succ]; rfl)) (hJ0_4 (v351, v357) _ ⟨hHeld, (rN HO352.out), (rN HO358.out), (kN BK348.out), (kN BK349.out), (bN HB.out)⟩)
               ·skip
                refine Kd.R_lit_step (Kd.int .i64) _ 3 ?hg (N := 15) ?hd (xs := ([] : List Int)) (inner := []) (ok := fun _ => True) (okp := fun _ => True) ?hr ?hp (fun _ hk => hk) trivial (Below.refl _ _) (Nat.le_refl _) (by simp) ?_; (case hd => rfl); (case hg => rfl); (case hr => first | (go_simp; done) | (go_simp; rfl)); (case hp => exact (Reps.none _ _))
                intro v363 w11 ho12 hb hg_ hnew_
                clear hg_ hnew_
                (first | rw [← Ny362.out] at ho12 | (simp only [Int.reduceToNat] at ho12; rw [← Ny362.out] at ho12))
                have n0_ := m_ (Kd.R_below (rN HO352.out) hb)
                have n1_ := m_ (Kd.R_lower ho12 (below_size (bN HB.out)))
                have n2_ := m_ (blk_below (kN BK348.out) hb)
                have n3_ := m_ (blk_below (kN BK349.out) hb)
                have n4_ := m_ (below_step (bN HB.out) hb)
                clear HO352
                clear BK348
                clear BK349
                clear HB
                have HO352 := n0_
                have HO364 := n1_
                have BK348 := n2_
                have BK349 := n3_
                have HB := n4_
                clear n0_ n1_ n2_ n3_ n4_
                clear hb ho12
                refine hK.out _ _ ⟨(blk_cell BK348.out 0).trans rfl, (blk_cell BK348.out 1).trans rfl, (blk_cell BK348.out 2).trans rfl, (blk_cell BK348.out 3).trans rfl, (blk_cell BK348.out 4).trans rfl⟩ (fun hHeld => ?_)
                clear hK K
                refine norm_ (a' := ?_) ?_ ?_
                rotate_left
                ·show Act.put _ (some 15) _ = _
                 simp only [Act.put, List.setIfInBounds_toArray, List.set_cons_zero, List.set_cons_succ, i64_w, i32_w]
                 rfl
                exact norm_ (by first | (simp only [putAll, Act.put, List.setIfInBounds_toArray, List.set_cons_zero, List.set_cons_succ]; done) | (simp only [putAll, Act.put, List.setIfInBounds_toArray, List.set_cons_zero, List.set_cons_succ]; rfl)) (hJ0_12 (v351, v363) _ ⟨hHeld, (rN HO352.out), (rN HO364.out), (kN BK348.out), (kN BK349.out), (bN HB.out)⟩)
             ·skip
              rintro ⟨v357, v363⟩ w12 ⟨hS_, h0_, h1_, h2_, h3_, h4_⟩
              have n0_ : Aside0 (Kd.R (Kd.int .i64) 3 w12 w.heap.size (fun k_ => some k_ ≠ (v363 : Value).ownBlock) v357 y356) := ⟨h0_⟩
              have n1_ : Aside0 (Kd.R (Kd.int .i64) 3 w12 w.heap.size (fun k_ => some k_ ≠ (v357 : Value).ownBlock) v363 y362) := ⟨h1_⟩
              have n2_ : Aside0 (w12.heap[gb348]? = some (.cells #[.slice A0_0 l0_0.length c0_0, .slice A0_1 l0_1.length c0_1, .int .i64 a0_2, .bool a0_3, .slice A0_4 l0_4.length c0_4] 33 (0, 0))) := ⟨h2_⟩
              have n3_ : Aside0 (w12.heap[gb349]? = some (.cells #[.slice none 0 0, .slice none 0 0, .int .i64 0, .bool false, .slice none 0 0] 33 (0, 0))) := ⟨h3_⟩
              have n4_ : Aside0 (Below w.heap.size w w12) := ⟨h4_⟩
              clear BK348
              clear BK349
              clear HB
              clear h0_ h1_ h2_ h3_ h4_
              have HO358 := n0_
              have HO364 := n1_
              have BK348 := n2_
              have BK349 := n3_
              have HB := n4_
              clear n0_ n1_ n2_ n3_ n4_
              have hHeld : w12.cell? ⟨gb348, 0, none⟩ = some (.slice A0_0 l0_0.length c0_0) ∧ w12.cell? ⟨gb348, 1, none⟩ = some (.slice A0_1 l0_1.length c0_1) ∧ w12.cell? ⟨gb348, 2, none⟩ = some (.int .i64 a0_2) ∧ w12.cell? ⟨gb348, 3, none⟩ = some (.bool a0_3) ∧ w12.cell? ⟨gb348, 4, none⟩ = some (.slice A0_4 l0_4.length c0_4) := hS_
              refine norm_ (a' := ?_) ?_ ?_
              rotate_left
              ·simp only [putAll, Act.put, List.setIfInBounds_toArray, List.set_cons_zero, List.set_cons_succ]
               rfl
              refine one_ (i := 0) (N := some 3) #[true, true, true, false, true, true, true, false, true, true, true, true, true, true, true, false, false, false] rfl rfl (one_of HT_.out (by kernel_rfl)) (by decide) (fun K hK => ?_)
              refine Kd.R_lit_step k53 _ 53 ?hg (N := 3) ?hd (xs := ([] : List (S53))) (inner := []) (ok := fun _ => True) (okp := fun _ => True) ?hr ?hp (fun _ hk => hk) trivial (Below.refl _ _) (Nat.le_refl _) (by simp) ?_; (case hd => rfl); (case hg => rfl); (case hr => first | (go_simp; done) | (go_simp; rfl)); (case hp => exact (Reps.none _ _))
              intro v351 w13 ho14 hb hg_ hnew_
              clear hg_ hnew_
              (first | rw [← Ny350.out] at ho14 | (simp only [Int.reduceToNat] at ho14; rw [← Ny350.out] at ho14))
              have n0_ := m_ (Kd.R_below (rN HO358.out) hb)
              have n1_ := m_ (Kd.R_below (rN HO364.out) hb)
              have n2_ := m_ (Kd.R_lower ho14 (below_size (bN HB.out)))
              have n3_ := m_ (blk_below (kN BK348.out) hb)
              have n4_ := m_ (blk_below (kN BK349.out) hb)
              have n5_ := m_ (below_step (bN HB.out) hb)
              clear HO358
              clear HO364
              clear BK348
              clear BK349
              clear HB
              have HO358 := n0_
              have HO364 := n1_
              have HO352 := n2_
              have BK348 := n3_
              have BK349 := n4_
              have HB := n5_
              clear n0_ n1_ n2_ n3_ n4_ n5_
              clear hb ho14
              refine hK.out _ _ ⟨(blk_cell BK348.out 0).trans rfl, (blk_cell BK348.out 1).trans rfl, (blk_cell BK348.out 2).trans rfl, (blk_cell BK348.out 3).trans rfl, (blk_cell BK348.out 4).trans rfl⟩ (fun hHeld => ?_)
              clear hK K
              refine norm_ (a' := ?_) ?_ ?_
              rotate_left
              ·show Act.put _ (some 3) _ = _
               simp only [Act.put, List.setIfInBounds_toArray, List.set_cons_zero, List.set_cons_succ, i64_w, i32_w]
               rfl
              exact norm_ (by first | (simp only [putAll, Act.put, List.setIfInBounds_toArray, List.set_cons_zero, List.set_cons_succ]; done) | (simp only [putAll, Act.put, List.setIfInBounds_toArray, List.set_cons_zero, List.set_cons_succ]; rfl)) (hJ0_4_12 (v351, v357, v363) _ ⟨hHeld, (rN HO352.out), (rN HO358.out), (rN HO364.out), (kN BK348.out), (kN BK349.out), (bN HB.out)⟩)
            ·skip
             rintro ⟨v351, v363⟩ w12 ⟨hS_, h0_, h1_, h2_, h3_, h4_⟩
             have n0_ : Aside0 (Kd.R k53 53 w12 w.heap.size (fun _ => True) v351 y350) := ⟨h0_⟩
             have n1_ : Aside0 (Kd.R (Kd.int .i64) 3 w12 w.heap.size (fun _ => True) v363 y362) := ⟨h1_⟩
             have n2_ : Aside0 (w12.heap[gb348]? = some (.cells #[.slice A0_0 l0_0.length c0_0, .slice A0_1 l0_1.length c0_1, .int .i64 a0_2, .bool a0_3, .slice A0_4 l0_4.length c0_4] 33 (0, 0))) := ⟨h2_⟩
             have n3_ : Aside0 (w12.heap[gb349]? = some (.cells #[.slice none 0 0, .slice none 0 0, .int .i64 0, .bool false, .slice none 0 0] 33 (0, 0))) := ⟨h3_⟩
             have n4_ : Aside0 (Below w.heap.size w w12) := ⟨h4_⟩
             clear BK348
             clear BK349
             clear HB
             clear h0_ h1_ h2_ h3_ h4_
             have HO352 := n0_
             have HO364 := n1_
             have BK348 := n2_
             have BK349 := n3_
             have HB := n4_
             clear n0_ n1_ n2_ n3_ n4_
             have hHeld : w12.cell? ⟨gb348, 0, none⟩ = some (.slice A0_0 l0_0.length c0_0) ∧ w12.cell? ⟨gb348, 1, none⟩ = some (.slice A0_1 l0_1.length c0_1) ∧ w12.cell? ⟨gb348, 2, none⟩ = some (.int .i64 a0_2) ∧ w12.cell? ⟨gb348, 3, none⟩ = some (.bool a0_3) ∧ w12.cell? ⟨gb348, 4, none⟩ = some (.slice A0_4 l0_4.length c0_4) := hS_
             refine norm_ (a' := ?_) ?_ ?_
             rotate_left
             ·simp only [putAll, Act.put, List.setIfInBounds_toArray, List.set_cons_zero, List.set_cons_succ]
              rfl
             refine two_ (i := 3) (j := 4) (Ni := some 6) (Nj := some 7) #[true, true, true, true, false, true, true, false, true, true, true, true, true, true, true, false, false, false] #[true, true, true, false, true, true, true, false, true, true, true, true, true, true, true, false, false, false] rfl rfl rfl rfl (two_of HT_.out (by kernel_rfl)) (by decide) (by decide) (fun K hK => ?_) (fun K hK => ?_)
             ·skip
              refine Kd.R_append_rows_step k53 (w0 := w) w.heap.size (by rfl) (.tmp 3) (.tmp 5) 25 53 (.agg #[(.int .i64 0), (.int .i64 0), (.int .i64 0)]) 24 rfl Try.underlying25 info53 rfl (by decide) (by omega) v351 y350 l0_0 _ _ _ (fun _ => True) (fun _ => False) rfl rfl ?aO ?aR (fun _ _ h => h) (fun _ h => h.elim) ?aF ?aB ?aS ?aL ?_
              (case aR => exact cN (Kd.C_below HR0_0.out HB.out))
              (case aB => exact (bN HB.out))
              (case aF => exact (fun _ _ => trivial))
              (case aO => exact (rN HO352.out))
              (case aS => exact (below_size (bN HB.out)))
              (case aL => have := LMc2.out; omega)
              intro v354 w13 ho hb hg hat
              rw [← Ny353.out] at ho
              have n0_ := m_ (blk_grown (g := gb348) (o := .cells #[.slice A0_0 l0_0.length c0_0, .slice A0_1 l0_1.length c0_1, .int .i64 a0_2, .bool a0_3, .slice A0_4 l0_4.length c0_4] 33 (0, 0)) (kN BK348.out) hg (Kd.R_ne HO352.out BK348.out (by decide)))
              have n1_ := m_ (blk_grown (g := gb349) (o := .cells #[.slice none 0 0, .slice none 0 0, .int .i64 0, .bool false, .slice none 0 0] 33 (0, 0)) (kN BK349.out) hg (Kd.R_ne HO352.out BK349.out (by decide)))
              have n2_ := m_ (Kd.R_over' (rN HO364.out) (Kd.R_typed (rN HO352.out)) (by decide) hg)
              have n3_ := m_ (hb)
              have n4_ := m_ (ho)
              clear BK348
              clear BK349
              clear HO364
              clear HB
              clear HO352
              have BK348 := n0_
              have BK349 := n1_
              have HO364 := n2_
              have HB := n3_
              have HO355 := n4_
              clear n0_ n1_ n2_ n3_ n4_
              clear ho hb hg hat
              refine hK.out _ _ ⟨(blk_cell BK348.out 0).trans rfl, (blk_cell BK348.out 1).trans rfl, (blk_cell BK348.out 2).trans rfl, (blk_cell BK348.out 3).trans rfl, (blk_cell BK348.out 4).trans rfl⟩ (fun hHeld => ?_)
              clear hK K
              refine norm_ (a' := ?_) ?_ ?_
              rotate_left
              ·show Act.put _ (some 6) _ = _
               simp only [Act.put, List.setIfInBounds_toArray, List.set_cons_zero, List.set_cons_succ, i64_w, i32_w]
               rfl
              exact norm_ (by first | (simp only [putAll, Act.put, List.setIfInBounds_toArray, List.set_cons_zero, List.set_cons_succ]; done) | (simp only [putAll, Act.put, List.setIfInBounds_toArray, List.set_cons_zero, List.set_cons_succ]; rfl)) (hJ0_3_12 (v351, v354, v363) _ ⟨hHeld, (rN HO355.out), (rN HO364.out), (kN BK348.out), (kN BK349.out), (bN HB.out)⟩)
             ·skip
              refine Kd.R_lit_step (Kd.int .i64) _ 3 ?hg (N := 7) ?hd (xs := ([] : List Int)) (inner := []) (ok := fun _ => True) (okp := fun _ => True) ?hr ?hp (fun _ hk => hk) trivial (Below.refl _ _) (Nat.le_refl _) (by simp) ?_; (case hd => rfl); (case hg => rfl); (case hr => first | (go_simp; done) | (go_simp; rfl)); (case hp => exact (Reps.none _ _))
              intro v357 w13 ho14 hb hg_ hnew_
              clear hg_ hnew_
              (first | rw [← Ny356.out] at ho14 | (simp only [Int.reduceToNat] at ho14; rw [← Ny356.out] at ho14))
              have n0_ := m_ (Kd.R_below (rN HO352.out) hb)
              have n1_ := m_ (Kd.R_elder' (rN HO364.out) (Kd.R_base ho14) hb)
              have n2_ := m_ (Kd.R_lower (Kd.R_new' ho14 (Kd.R_lt (rN HO364.out))) (below_size (bN HB.out)))
              have n3_ := m_ (blk_below (kN BK348.out) hb)
              have n4_ := m_ (blk_below (kN BK349.out) hb)
              have n5_ := m_ (below_step (bN HB.out) hb)
              clear HO352
              clear HO364
              clear BK348
              clear BK349
              clear HB
              have HO352 := n0_
              have HO364 := n1_
              have HO358 := n2_
              have BK348 := n3_
              have BK349 := n4_
              have HB := n5_
              clear n0_ n1_ n2_ n3_ n4_ n5_
              clear hb ho14
              refine hK.out _ _ ⟨(blk_cell BK348.out 0).trans rfl, (blk_cell BK348.out 1).trans rfl, (blk_cell BK348.out 2).trans rfl, (blk_cell BK348.out 3).trans rfl, (blk_cell BK348.out 4).trans rfl⟩ (fun hHeld => ?_)
              clear hK K
              refine norm_ (a' := ?_) ?_ ?_
              rotate_left
              ·show Act.put _ (some 7) _ = _
               simp only [Act.put, List.setIfInBounds_toArray, List.set_cons_zero, List.set_cons_succ, i64_w, i32_w]
               rfl
              exact norm_ (by first | (simp only [putAll, Act.put, List.setIfInBounds_toArray, List.set_cons_zero, List.set_cons_succ]; done) | (simp only [putAll, Act.put, List.setIfInBounds_toArray, List.set_cons_zero, List.set_cons_succ]; rfl)) (hJ0_4_12 (v351, v357, v363) _ ⟨hHeld, (rN HO352.out), (by (with_reducible repeat (first | apply Kd.R_alloc | apply Kd.R_drewN | apply Kd.R_drew)); exact Kd.R_mono HO358.out (fun _ hk => hk.2)), (by (with_reducible repeat (first | apply Kd.R_alloc | apply Kd.R_drewN | apply Kd.R_drew)); exact Kd.R_mono HO364.out (fun _ hk => hk.2)), (kN BK348.out), (kN BK349.out), (bN HB.out)⟩)
           ·skip
            rintro ⟨v351, v357⟩ w12 ⟨hS_, h0_, h1_, h2_, h3_, h4_⟩
            have n0_ : Aside0 (Kd.R k53 53 w12 w.heap.size (fun _ => True) v351 y350) := ⟨h0_⟩
            have n1_ : Aside0 (Kd.R (Kd.int .i64) 3 w12 w.heap.size (fun _ => True) v357 y356) := ⟨h1_⟩
            have n2_ : Aside0 (w12.heap[gb348]? = some (.cells #[.slice A0_0 l0_0.length c0_0, .slice A0_1 l0_1.length c0_1, .int .i64 a0_2, .bool a0_3, .slice A0_4 l0_4.length c0_4] 33 (0, 0))) := ⟨h2_⟩
            have n3_ : Aside0 (w12.heap[gb349]? = some (.cells #[.slice none 0 0, .slice none 0 0, .int .i64 0, .bool false, .slice none 0 0] 33 (0, 0))) := ⟨h3_⟩
            have n4_ : Aside0 (Below w.heap.size w w12) := ⟨h4_⟩
            clear BK348
            clear BK349
            clear HB
            clear h0_ h1_ h2_ h3_ h4_
            have HO352 := n0_
            have HO358 := n1_
            have BK348 := n2_
            have BK349 := n3_
            have HB := n4_
            clear n0_ n1_ n2_ n3_ n4_
            have hHeld : w12.cell? ⟨gb348, 0, none⟩ = some (.slice A0_0 l0_0.length c0_0) ∧ w12.cell? ⟨gb348, 1, none⟩ = some (.slice A0_1 l0_1.length c0_1) ∧ w12.cell? ⟨gb348, 2, none⟩ = some (.int .i64 a0_2) ∧ w12.cell? ⟨gb348, 3, none⟩ = some (.bool a0_3) ∧ w12.cell? ⟨gb348, 4, none⟩ = some (.slice A0_4 l0_4.length c0_4) := hS_
            refine norm_ (a' := ?_) ?_ ?_
            rotate_left
            ·simp only [putAll, Act.put, List.setIfInBounds_toArray, List.set_cons_zero, List.set_cons_succ]
             rfl
            refine two_ (i := 3) (j := 12) (Ni := some 6) (Nj := some 15) #[true, true, true, true, true, true, true, false, true, true, true, true, false, true, true, false, false, false] #[true, true, true, false, true, true, true, false, true, true, true, true, true, true, true, false, false, false] rfl rfl rfl rfl (two_of HT_.out (by kernel_rfl)) (by decide) (by decide) (fun K hK => ?_) (fun K hK => ?_)
            ·skip
             refine Kd.R_append_rows_step k53 (w0 := w) w.heap.size (by rfl) (.tmp 3) (.tmp 5) 25 53 (.agg #[(.int .i64 0), (.int .i64 0), (.int .i64 0)]) 24 rfl Try.underlying25 info53 rfl (by decide) (by omega) v351 y350 l0_0 _ _ _ (fun _ => True) (fun _ => False) rfl rfl ?aO ?aR (fun _ _ h => h) (fun _ h => h.elim) ?aF ?aB ?aS ?aL ?_
             (case aR => exact cN (Kd.C_below HR0_0.out HB.out))
             (case aB => exact (bN HB.out))
             (case aF => exact (fun _ _ => trivial))
             (case aO => exact (rN HO352.out))
             (case aS => exact (below_size (bN HB.out)))
             (case aL => have := LMc2.out; omega)
             intro v354 w13 ho hb hg hat
             rw [← Ny353.out] at ho
             have n0_ := m_ (blk_grown (g := gb348) (o := .cells #[.slice A0_0 l0_0.length c0_0, .slice A0_1 l0_1.length c0_1, .int .i64 a0_2, .bool a0_3, .slice A0_4 l0_4.length c0_4] 33 (0, 0)) (kN BK348.out) hg (Kd.R_ne HO352.out BK348.out (by decide)))
             have n1_ := m_ (blk_grown (g := gb349) (o := .cells #[.slice none 0 0, .slice none 0 0, .int .i64 0, .bool false, .slice none 0 0] 33 (0, 0)) (kN BK349.out) hg (Kd.R_ne HO352.out BK349.out (by decide)))
             have n2_ := m_ (Kd.R_over' (rN HO358.out) (Kd.R_typed (rN HO352.out)) (by decide) hg)
             have n3_ := m_ (hb)
             have n4_ := m_ (ho)
             clear BK348
             clear BK349
             clear HO358
             clear HB
             clear HO352
             have BK348 := n0_
             have BK349 := n1_
             have HO358 := n2_
             have HB := n3_
             have HO355 := n4_
             clear n0_ n1_ n2_ n3_ n4_
             clear ho hb hg hat
             refine hK.out _ _ ⟨(blk_cell BK348.out 0).trans rfl, (blk_cell BK348.out 1).trans rfl, (blk_cell BK348.out 2).trans rfl, (blk_cell BK348.out 3).trans rfl, (blk_cell BK348.out 4).trans rfl⟩ (fun hHeld => ?_)
             clear hK K
             refine norm_ (a' := ?_) ?_ ?_
             rotate_left
             ·show Act.put _ (some 6) _ = _
              simp only [Act.put, List.setIfInBounds_toArray, List.set_cons_zero, List.set_cons_succ, i64_w, i32_w]
              rfl
             exact norm_ (by first | (simp only [putAll, Act.put, List.setIfInBounds_toArray, List.set_cons_zero, List.set_cons_succ]; done) | (simp only [putAll, Act.put, List.setIfInBounds_toArray, List.set_cons_zero, List.set_cons_succ]; rfl)) (hJ0_3_4 (v351, v354, v357) _ ⟨hHeld, (rN HO355.out), (rN HO358.out), (kN BK348.out), (kN BK349.out), (bN HB.out)⟩)
            ·skip
             refine Kd.R_lit_step (Kd.int .i64) _ 3 ?hg (N := 15) ?hd (xs := ([] : List Int)) (inner := []) (ok := fun _ => True) (okp := fun _ => True) ?hr ?hp (fun _ hk => hk) trivial (Below.refl _ _) (Nat.le_refl _) (by simp) ?_; (case hd => rfl); (case hg => rfl); (case hr => first | (go_simp; done) | (go_simp; rfl)); (case hp => exact (Reps.none _ _))
             intro v363 w13 ho14 hb hg_ hnew_
             clear hg_ hnew_
             (first | rw [← Ny362.out] at ho14 | (simp only [Int.reduceToNat] at ho14; rw [← Ny362.out] at ho14))
             have n0_ := m_ (Kd.R_below (rN HO352.out) hb)
             have n1_ := m_ (Kd.R_elder' (rN HO358.out) (Kd.R_base ho14) hb)
             have n2_ := m_ (Kd.R_lower (Kd.R_new' ho14 (Kd.R_lt (rN HO358.out))) (below_size (bN HB.out)))
             have n3_ := m_ (blk_below (kN BK348.out) hb)
             have n4_ := m_ (blk_below (kN BK349.out) hb)
             have n5_ := m_ (below_step (bN HB.out) hb)
             clear HO352
             clear HO358
             clear BK348
             clear BK349
             clear HB
             have HO352 := n0_
             have HO358 := n1_
             have HO364 := n2_
             have BK348 := n3_
             have BK349 := n4_
             have HB := n5_
             clear n0_ n1_ n2_ n3_ n4_ n5_
             clear hb ho14
             refine hK.out _ _ ⟨(blk_cell BK348.out 0).trans rfl, (blk_cell BK348.out 1).trans rfl, (blk_cell BK348.out 2).trans rfl, (blk_cell BK348.out 3).trans rfl, (blk_cell BK348.out 4).trans rfl⟩ (fun hHeld => ?_)
             clear hK K
             refine norm_ (a' := ?_) ?_ ?_
             rotate_left
             ·show Act.put _ (some 15) _ = _
              simp only [Act.put, List.setIfInBounds_toArray, List.set_cons_zero, List.set_cons_succ, i64_w, i32_w]
              rfl
             exact norm_ (by first | (simp only [putAll, Act.put, List.setIfInBounds_toArray, List.set_cons_zero, List.set_cons_succ]; done) | (simp only [putAll, Act.put, List.setIfInBounds_toArray, List.set_cons_zero, List.set_cons_succ]; rfl)) (hJ0_4_12 (v351, v357, v363) _ ⟨hHeld, (rN HO352.out), (by (with_reducible repeat (first | apply Kd.R_alloc | apply Kd.R_drewN | apply Kd.R_drew)); exact Kd.R_mono HO358.out (fun _ hk => hk.2)), (by (with_reducible repeat (first | apply Kd.R_alloc | apply Kd.R_drewN | apply Kd.R_drew)); exact Kd.R_mono HO364.out (fun _ hk => hk.2)), (kN BK348.out), (kN BK349.out), (bN HB.out)⟩)
          ·skip
           rintro ⟨v351, v354⟩ w11 ⟨hS_, h0_, h1_, h2_, h3_⟩
           have n0_ : Aside0 (Kd.R k53 53 w11 w.heap.size (fun _ => True) v354 y353) := ⟨h0_⟩
           have n1_ : Aside0 (w11.heap[gb348]? = some (.cells #[.slice A0_0 l0_0.length c0_0, .slice A0_1 l0_1.length c0_1, .int .i64 a0_2, .bool a0_3, .slice A0_4 l0_4.length c0_4] 33 (0, 0))) := ⟨h1_⟩
           have n2_ : Aside0 (w11.heap[gb349]? = some (.cells #[.slice none 0 0, .slice none 0 0, .int .i64 0, .bool false, .slice none 0 0] 33 (0, 0))) := ⟨h2_⟩
           have n3_ : Aside0 (Below w.heap.size w w11) := ⟨h3_⟩
           clear BK348
           clear BK349
           clear HB
           clear h0_ h1_ h2_ h3_
           have HO355 := n0_
           have BK348 := n1_
           have BK349 := n2_
           have HB := n3_
           clear n0_ n1_ n2_ n3_
           have hHeld : w11.cell? ⟨gb348, 0, none⟩ = some (.slice A0_0 l0_0.length c0_0) ∧ w11.cell? ⟨gb348, 1, none⟩ = some (.slice A0_1 l0_1.length c0_1) ∧ w11.cell? ⟨gb348, 2, none⟩ = some (.int .i64 a0_2) ∧ w11.cell? ⟨gb348, 3, none⟩ = some (.bool a0_3) ∧ w11.cell? ⟨gb348, 4, none⟩ = some (.slice A0_4 l0_4.length c0_4) := hS_
           refine norm_ (a' := ?_) ?_ ?_
           rotate_left
           ·simp only [putAll, Act.put, List.setIfInBounds_toArray, List.set_cons_zero, List.set_cons_succ]
            rfl
           refine two_ (i := 4) (j := 12) (Ni := some 7) (Nj := some 15) #[true, true, true, true, true, true, true, false, true, true, true, true, false, true, true, false, false, false] #[true, true, true, true, false, true, true, false, true, true, true, true, true, true, true, false, false, false] rfl rfl rfl rfl (two_of HT_.out (by kernel_rfl)) (by decide) (by decide) (fun K hK => ?_) (fun K hK => ?_)
           ·skip
            refine Kd.R_lit_step (Kd.int .i64) _ 3 ?hg (N := 7) ?hd (xs := ([] : List Int)) (inner := []) (ok := fun _ => True) (okp := fun _ => True) ?hr ?hp (fun _ hk => hk) trivial (Below.refl _ _) (Nat.le_refl _) (by simp) ?_; (case hd => rfl); (case hg => rfl); (case hr => first | (go_simp; done) | (go_simp; rfl)); (case hp => exact (Reps.none _ _))
            intro v357 w12 ho13 hb hg_ hnew_
            clear hg_ hnew_
            (first | rw [← Ny356.out] at ho13 | (simp only [Int.reduceToNat] at ho13; rw [← Ny356.out] at ho13))
            have n0_ := m_ (Kd.R_below (rN HO355.out) hb)
            have n1_ := m_ (Kd.R_lower ho13 (below_size (bN HB.out)))
            have n2_ := m_ (blk_below (kN BK348.out) hb)
            have n3_ := m_ (blk_below (kN BK349.out) hb)
            have n4_ := m_ (below_step (bN HB.out) hb)
            clear HO355
            clear BK348
            clear BK349
            clear HB
            have HO355 := n0_
            have HO358 := n1_
            have BK348 := n2_
            have BK349 := n3_
            have HB := n4_
            clear n0_ n1_ n2_ n3_ n4_
            clear hb ho13
            refine hK.out _ _ ⟨(blk_cell BK348.out 0).trans rfl, (blk_cell BK348.out 1).trans rfl, (blk_cell BK348.out 2).trans rfl, (blk_cell BK348.out 3).trans rfl, (blk_cell BK348.out 4).trans rfl⟩ (fun hHeld => ?_)
            clear hK K
            refine norm_ (a' := ?_) ?_ ?_
            rotate_left
            ·show Act.put _ (some 7) _ = _
             simp only [Act.put, List.setIfInBounds_toArray, List.set_cons_zero, List.set_cons_succ, i64_w, i32_w]
             rfl
            exact norm_ (by first | (simp only [putAll, Act.put, List.setIfInBounds_toArray, List.set_cons_zero, List.set_cons_succ]; done) | (simp only [putAll, Act.put, List.setIfInBounds_toArray, List.set_cons_zero, List.set_cons_succ]; rfl)) (hJ0_3_4 (v351, v354, v357) _ ⟨hHeld, (rN HO355.out), (rN HO358.out), (kN BK348.out), (kN BK349.out), (bN HB.out)⟩)
           ·skip
            refine Kd.R_lit_step (Kd.int .i64) _ 3 ?hg (N := 15) ?hd (xs := ([] : List Int)) (inner := []) (ok := fun _ => True) (okp := fun _ => True) ?hr ?hp (fun _ hk => hk) trivial (Below.refl _ _) (Nat.le_refl _) (by simp) ?_; (case hd => rfl); (case hg => rfl); (case hr => first | (go_simp; done) | (go_simp; rfl)); (case hp => exact (Reps.none _ _))
            intro v363 w12 ho13 hb hg_ hnew_
            clear hg_ hnew_
            (first | rw [← Ny362.out] at ho13 | (simp only [Int.reduceToNat] at ho13; rw [← Ny362.out] at ho13))
            have n0_ := m_ (Kd.R_below (rN HO355.out) hb)
            have n1_ := m_ (Kd.R_lower ho13 (below_size (bN HB.out)))
            have n2_ := m_ (blk_below (kN BK348.out) hb)
            have n3_ := m_ (blk_below (kN BK349.out) hb)
            have n4_ := m_ (below_step (bN HB.out) hb)
            clear HO355
            clear BK348
            clear BK349
            clear HB
            have HO355 := n0_
            have HO364 := n1_
            have BK348 := n2_
            have BK349 := n3_
            have HB := n4_
            clear n0_ n1_ n2_ n3_ n4_
            clear hb ho13
            refine hK.out _ _ ⟨(blk_cell BK348.out 0).trans rfl, (blk_cell BK348.out 1).trans rfl, (blk_cell BK348.out 2).trans rfl, (blk_cell BK348.out 3).trans rfl, (blk_cell BK348.out 4).trans rfl⟩ (fun hHeld => ?_)
            clear hK K
            refine norm_ (a' := ?_) ?_ ?_
            rotate_left
            ·show Act.put _ (some 15) _ = _
             simp only [Act.put, List.setIfInBounds_toArray, List.set_cons_zero, List.set_cons_succ, i64_w, i32_w]
             rfl
            exact norm_ (by first | (simp only [putAll, Act.put, List.setIfInBounds_toArray, List.set_cons_zero, List.set_cons_succ]; done) | (simp only [putAll, Act.put, List.setIfInBounds_toArray, List.set_cons_zero, List.set_cons_succ]; rfl)) (hJ0_3_12 (v351, v354, v363) _ ⟨hHeld, (rN HO355.out), (rN HO364.out), (kN BK348.out), (kN BK349.out), (bN HB.out)⟩)
         ·skip
          rintro ⟨v351, v357, v363⟩ w14 ⟨hS_, h0_, h1_, h2_, h3_, h4_, h5_⟩
          have n0_ : Aside0 (Kd.R k53 53 w14 w.heap.size (fun _ => True) v351 y350) := ⟨h0_⟩
          have n1_ : Aside0 (Kd.R (Kd.int .i64) 3 w14 w.heap.size (fun k_ => some k_ ≠ (v363 : Value).ownBlock) v357 y356) := ⟨h1_⟩
          have n2_ : Aside0 (Kd.R (Kd.int .i64) 3 w14 w.heap.size (fun k_ => some k_ ≠ (v357 : Value).ownBlock) v363 y362) := ⟨h2_⟩
          have n3_ : Aside0 (w14.heap[gb348]? = some (.cells #[.slice A0_0 l0_0.length c0_0, .slice A0_1 l0_1.length c0_1, .int .i64 a0_2, .bool a0_3, .slice A0_4 l0_4.length c0_4] 33 (0, 0))) := ⟨h3_⟩
          have n4_ : Aside0 (w14.heap[gb349]? = some (.cells #[.slice none 0 0, .slice none 0 0, .int .i64 0, .bool false, .slice none 0 0] 33 (0, 0))) := ⟨h4_⟩
          have n5_ : Aside0 (Below w.heap.size w w14) := ⟨h5_⟩
          clear BK348
          clear BK349
          clear HB
          clear h0_ h1_ h2_ h3_ h4_ h5_
          have HO352 := n0_
          have HO358 := n1_
          have HO364 := n2_
          have BK348 := n3_
          have BK349 := n4_
          have HB := n5_
          clear n0_ n1_ n2_ n3_ n4_ n5_
          have hHeld : w14.cell? ⟨gb348, 0, none⟩ = some (.slice A0_0 l0_0.length c0_0) ∧ w14.cell? ⟨gb348, 1, none⟩ = some (.slice A0_1 l0_1.length c0_1) ∧ w14.cell? ⟨gb348, 2, none⟩ = some (.int .i64 a0_2) ∧ w14.cell? ⟨gb348, 3, none⟩ = some (.bool a0_3) ∧ w14.cell? ⟨gb348, 4, none⟩ = some (.slice A0_4 l0_4.length c0_4) := hS_
          refine norm_ (a' := ?_) ?_ ?_
          rotate_left
          ·simp only [putAll, Act.put, List.setIfInBounds_toArray, List.set_cons_zero, List.set_cons_succ]
           rfl
          refine one_ (i := 3) (N := some 6) #[true, true, true, true, true, true, true, false, true, true, true, true, true, true, true, false, false, false] rfl rfl (one_of HT_.out (by kernel_rfl)) (by decide) (fun K hK => ?_)
          refine Kd.R_append_rows_step k53 (w0 := w) w.heap.size (by rfl) (.tmp 3) (.tmp 5) 25 53 (.agg #[(.int .i64 0), (.int .i64 0), (.int .i64 0)]) 24 rfl Try.underlying25 info53 rfl (by decide) (by omega) v351 y350 l0_0 _ _ _ (fun _ => True) (fun _ => False) rfl rfl ?aO ?aR (fun _ _ h => h) (fun _ h => h.elim) ?aF ?aB ?aS ?aL ?_
          (case aR => exact cN (Kd.C_below HR0_0.out HB.out))
          (case aB => exact (bN HB.out))
          (case aF => exact (fun _ _ => trivial))
          (case aO => exact (rN HO352.out))
          (case aS => exact (below_size (bN HB.out)))
          (case aL => have := LMc2.out; omega)
          intro v354 w15 ho hb hg hat
          rw [← Ny353.out] at ho
          have n0_ := m_ (blk_grown (g := gb348) (o := .cells #[.slice A0_0 l0_0.length c0_0, .slice A0_1 l0_1.length c0_1, .int .i64 a0_2, .bool a0_3, .slice A0_4 l0_4.length c0_4] 33 (0, 0)) (kN BK348.out) hg (Kd.R_ne HO352.out BK348.out (by decide)))
          have n1_ := m_ (blk_grown (g := gb349) (o := .cells #[.slice none 0 0, .slice none 0 0, .int .i64 0, .bool false, .slice none 0 0] 33 (0, 0)) (kN BK349.out) hg (Kd.R_ne HO352.out BK349.out (by decide)))
          have n2_ := m_ (Kd.R_over' (rN HO358.out) (Kd.R_typed (rN HO352.out)) (by decide) hg)
          have n3_ := m_ (Kd.R_over' (rN HO364.out) (Kd.R_typed (rN HO352.out)) (by decide) hg)
          have n4_ := m_ (hb)
          have n5_ := m_ (ho)
          clear BK348
          clear BK349
          clear HO358
          clear HO364
          clear HB
          clear HO352
          have BK348 := n0_
          have BK349 := n1_
          have HO358 := n2_
          have HO364 := n3_
          have HB := n4_
          have HO355 := n5_
          clear n0_ n1_ n2_ n3_ n4_ n5_
          clear ho hb hg hat
          refine hK.out _ _ ⟨(blk_cell BK348.out 0).trans rfl, (blk_cell BK348.out 1).trans rfl, (blk_cell BK348.out 2).trans rfl, (blk_cell BK348.out 3).trans rfl, (blk_cell BK348.out 4).trans rfl⟩ (fun hHeld => ?_)
          clear hK K
          refine norm_ (a' := ?_) ?_ ?_
          rotate_left
          ·show Act.put _ (some 6) _ = _
           simp only [Act.put, List.setIfInBounds_toArray, List.set_cons_zero, List.set_cons_succ, i64_w, i32_w]
           rfl
          exact norm_ (by first | (simp only [putAll, Act.put, List.setIfInBounds_toArray, List.set_cons_zero, List.set_cons_succ]; done) | (simp only [putAll, Act.put, List.setIfInBounds_toArray, List.set_cons_zero, List.set_cons_succ]; rfl)) (hJ0_3_4_12 (v351, v354, v357, v363) _ ⟨hHeld, (rN HO355.out), (rN HO358.out), (rN HO364.out), (kN BK348.out), (kN BK349.out), (bN HB.out)⟩)
        ·skip
         rintro ⟨v351, v354, v363⟩ w13 ⟨hS_, h0_, h1_, h2_, h3_, h4_⟩
         have n0_ : Aside0 (Kd.R k53 53 w13 w.heap.size (fun _ => True) v354 y353) := ⟨h0_⟩
         have n1_ : Aside0 (Kd.R (Kd.int .i64) 3 w13 w.heap.size (fun _ => True) v363 y362) := ⟨h1_⟩
         have n2_ : Aside0 (w13.heap[gb348]? = some (.cells #[.slice A0_0 l0_0.length c0_0, .slice A0_1 l0_1.length c0_1, .int .i64 a0_2, .bool a0_3, .slice A0_4 l0_4.length c0_4] 33 (0, 0))) := ⟨h2_⟩
         have n3_ : Aside0 (w13.heap[gb349]? = some (.cells #[.slice none 0 0, .slice none 0 0, .int .i64 0, .bool false, .slice none 0 0] 33 (0, 0))) := ⟨h3_⟩
         have n4_ : Aside0 (Below w.heap.size w w13) := ⟨h4_⟩
         clear BK348
         clear BK349
         clear HB
         clear h0_ h1_ h2_ h3_ h4_
         have HO355 := n0_
         have HO364 := n1_
         have BK348 := n2_
         have BK349 := n3_
         have HB := n4_
         clear n0_ n1_ n2_ n3_ n4_
         have hHeld : w13.cell? ⟨gb348, 0, none⟩ = some (.slice A0_0 l0_0.length c0_0) ∧ w13.cell? ⟨gb348, 1, none⟩ = some (.slice A0_1 l0_1.length c0_1) ∧ w13.cell? ⟨gb348, 2, none⟩ = some (.int .i64 a0_2) ∧ w13.cell? ⟨gb348, 3, none⟩ = some (.bool a0_3) ∧ w13.cell? ⟨gb348, 4, none⟩ = some (.slice A0_4 l0_4.length c0_4) := hS_
         refine norm_ (a' := ?_) ?_ ?_
         rotate_left
         ·simp only [putAll, Act.put, List.setIfInBounds_toArray, List.set_cons_zero, List.set_cons_succ]
          rfl
         refine one_ (i := 4) (N := some 7) #[true, true, true, true, true, true, true, false, true, true, true, true, true, true, true, false, false, false] rfl rfl (one_of HT_.out (by kernel_rfl)) (by decide) (fun K hK => ?_)
         refine Kd.R_lit_step (Kd.int .i64) _ 3 ?hg (N := 7) ?hd (xs := ([] : List Int)) (inner := []) (ok := fun _ => True) (okp := fun _ => True) ?hr ?hp (fun _ hk => hk) trivial (Below.refl _ _) (Nat.le_refl _) (by simp) ?_; (case hd => rfl); (case hg => rfl); (case hr => first | (go_simp; done) | (go_simp; rfl)); (case hp => exact (Reps.none _ _))
         intro v357 w14 ho15 hb hg_ hnew_
         clear hg_ hnew_
         (first | rw [← Ny356.out] at ho15 | (simp only [Int.reduceToNat] at ho15; rw [← Ny356.out] at ho15))
         have n0_ := m_ (Kd.R_below (rN HO355.out) hb)
         have n1_ := m_ (Kd.R_elder' (rN HO364.out) (Kd.R_base ho15) hb)
         have n2_ := m_ (Kd.R_lower (Kd.R_new' ho15 (Kd.R_lt (rN HO364.out))) (below_size (bN HB.out)))
         have n3_ := m_ (blk_below (kN BK348.out) hb)
         have n4_ := m_ (blk_below (kN BK349.out) hb)
         have n5_ := m_ (below_step (bN HB.out) hb)
         clear HO355
         clear HO364
         clear BK348
         clear BK349
         clear HB
         have HO355 := n0_
         have HO364 := n1_
         have HO358 := n2_
         have BK348 := n3_
         have BK349 := n4_
         have HB := n5_
         clear n0_ n1_ n2_ n3_ n4_ n5_
         clear hb ho15
         refine hK.out _ _ ⟨(blk_cell BK348.out 0).trans rfl, (blk_cell BK348.out 1).trans rfl, (blk_cell BK348.out 2).trans rfl, (blk_cell BK348.out 3).trans rfl, (blk_cell BK348.out 4).trans rfl⟩ (fun hHeld => ?_)
         clear hK K
         refine norm_ (a' := ?_) ?_ ?_
         rotate_left
         ·show Act.put _ (some 7) _ = _
          simp only [Act.put, List.setIfInBounds_toArray, List.set_cons_zero, List.set_cons_succ, i64_w, i32_w]
          rfl
         exact norm_ (by first | (simp only [putAll, Act.put, List.setIfInBounds_toArray, List.set_cons_zero, List.set_cons_succ]; done) | (simp only [putAll, Act.put, List.setIfInBounds_toArray, List.set_cons_zero, List.set_cons_succ]; rfl)) (hJ0_3_4_12 (v351, v354, v357, v363) _ ⟨hHeld, (rN HO355.out), (by (with_reducible repeat (first | apply Kd.R_alloc | apply Kd.R_drewN | apply Kd.R_drew)); exact Kd.R_mono HO358.out (fun _ hk => hk.2)), (by (with_reducible repeat (first | apply Kd.R_alloc | apply Kd.R_drewN | apply Kd.R_drew)); exact Kd.R_mono HO364.out (fun _ hk => hk.2)), (kN BK348.out), (kN BK349.out), (bN HB.out)⟩)
       ·skip
        rintro ⟨v351, v354, v357⟩ w13 ⟨hS_, h0_, h1_, h2_, h3_, h4_⟩
        have n0_ : Aside0 (Kd.R k53 53 w13 w.heap.size (fun _ => True) v354 y353) := ⟨h0_⟩
        have n1_ : Aside0 (Kd.R (Kd.int .i64) 3 w13 w.heap.size (fun _ => True) v357 y356) := ⟨h1_⟩
        have n2_ : Aside0 (w13.heap[gb348]? = some (.cells #[.slice A0_0 l0_0.length c0_0, .slice A0_1 l0_1.length c0_1, .int .i64 a0_2, .bool a0_3, .slice A0_4 l0_4.length c0_4] 33 (0, 0))) := ⟨h2_⟩
        have n3_ : Aside0 (w13.heap[gb349]? = some (.cells #[.slice none 0 0, .slice none 0 0, .int .i64 0, .bool false, .slice none 0 0] 33 (0, 0))) := ⟨h3_⟩
        have n4_ : Aside0 (Below w.heap.size w w13) := ⟨h4_⟩
        clear BK348
        clear BK349
        clear HB
        clear h0_ h1_ h2_ h3_ h4_
        have HO355 := n0_
        have HO358 := n1_
        have BK348 := n2_
        have BK349 := n3_
        have HB := n4_
        clear n0_ n1_ n2_ n3_ n4_
        have hHeld : w13.cell? ⟨gb348, 0, none⟩ = some (.slice A0_0 l0_0.length c0_0) ∧ w13.cell? ⟨gb348, 1, none⟩ = some (.slice A0_1 l0_1.length c0_1) ∧ w13.cell? ⟨gb348, 2, none⟩ = some (.int .i64 a0_2) ∧ w13.cell? ⟨gb348, 3, none⟩ = some (.bool a0_3) ∧ w13.cell? ⟨gb348, 4, none⟩ = some (.slice A0_4 l0_4.length c0_4) := hS_
        refine norm_ (a' := ?_) ?_ ?_
        rotate_left
        ·simp only [putAll, Act.put, List.setIfInBounds_toArray, List.set_cons_zero, List.set_cons_succ]
         rfl
        refine two_ (i := 7) (j := 12) (Ni := some 10) (Nj := some 15) #[true, true, true, true, true, true, true, true, true, true, true, true, false, true, true, false, false, false] #[true, true, true, true, true, true, true, false, true, true, true, true, true, true, true, false, false, false] rfl rfl rfl rfl (two_of HT_.out (by kernel_rfl)) (by decide) (by decide) (fun K hK => ?_) (fun K hK => ?_)
        ·skip
         refine Kd.R_append_rows_step (Kd.int .i64) (w0 := w) w.heap.size (by rfl) (.tmp 7) (.tmp 9) 31 3 (.int .i64 0) 8 rfl Try.underlying31 info3 rfl (by decide) (by omega) v357 y356 l0_1 _ _ _ (fun _ => True) (fun _ => False) rfl rfl ?aO ?aR (fun _ _ h => h) (fun _ h => h.elim) ?aF ?aB ?aS ?aL ?_
         (case aR => exact cN (Kd.C_below HR0_1.out HB.out))
         (case aB => exact (bN HB.out))
         (case aF => exact (fun _ _ => trivial))
         (case aO => exact (rN HO358.out))
         (case aS => exact (below_size (bN HB.out)))
         (case aL => have := LMc3.out; omega)
         intro v360 w14 ho hb hg hat
         rw [← Ny359.out] at ho
         have n0_ := m_ (blk_grown (g := gb348) (o := .cells #[.slice A0_0 l0_0.length c0_0, .slice A0_1 l0_1.length c0_1, .int .i64 a0_2, .bool a0_3, .slice A0_4 l0_4.length c0_4] 33 (0, 0)) (kN BK348.out) hg (Kd.R_ne HO358.out BK348.out (by decide)))
         have n1_ := m_ (blk_grown (g := gb349) (o := .cells #[.slice none 0 0, .slice none 0 0, .int .i64 0, .bool false, .slice none 0 0] 33 (0, 0)) (kN BK349.out) hg (Kd.R_ne HO358.out BK349.out (by decide)))
         have n2_ := m_ (Kd.R_over' (rN HO355.out) (Kd.R_typed (rN HO358.out)) (by decide) hg)
         have n3_ := m_ (hb)
         have n4_ := m_ (ho)
         clear BK348
         clear BK349
         clear HO355
         clear HB
         clear HO358
         have BK348 := n0_
         have BK349 := n1_
         have HO355 := n2_
         have HB := n3_
         have HO361 := n4_
         clear n0_ n1_ n2_ n3_ n4_
         clear ho hb hg hat
         refine hK.out _ _ ⟨(blk_cell BK348.out 0).trans rfl, (blk_cell BK348.out 1).trans rfl, (blk_cell BK348.out 2).trans rfl, (blk_cell BK348.out 3).trans rfl, (blk_cell BK348.out 4).trans rfl⟩ (fun hHeld => ?_)
         clear hK K
         refine norm_ (a' := ?_) ?_ ?_
         rotate_left
         ·show Act.put _ (some 10) _ = _
          simp only [Act.put, List.setIfInBounds_toArray, List.set_cons_zero, List.set_cons_succ, i64_w, i32_w]
          rfl
         exact norm_ (by first | (simp only [putAll, Act.put, List.setIfInBounds_toArray, List.set_cons_zero, List.set_cons_succ]; done) | (simp only [putAll, Act.put, List.setIfInBounds_toArray, List.set_cons_zero, List.set_cons_succ]; rfl)) (hJ0_3_4_7 (v351, v354, v357, v360) _ ⟨hHeld, (rN HO355.out), (rN HO361.out), (kN BK348.out), (kN BK349.out), (bN HB.out)⟩)
        ·skip
         refine Kd.R_lit_step (Kd.int .i64) _ 3 ?hg (N := 15) ?hd (xs := ([] : List Int)) (inner := []) (ok := fun _ => True) (okp := fun _ => True) ?hr ?hp (fun _ hk => hk) trivial (Below.refl _ _) (Nat.le_refl _) (by simp) ?_; (case hd => rfl); (case hg => rfl); (case hr => first | (go_simp; done) | (go_simp; rfl)); (case hp => exact (Reps.none _ _))
         intro v363 w14 ho15 hb hg_ hnew_
         clear hg_ hnew_
         (first | rw [← Ny362.out] at ho15 | (simp only [Int.reduceToNat] at ho15; rw [← Ny362.out] at ho15))
         have n0_ := m_ (Kd.R_below (rN HO355.out) hb)
         have n1_ := m_ (Kd.R_elder' (rN HO358.out) (Kd.R_base ho15) hb)
         have n2_ := m_ (Kd.R_lower (Kd.R_new' ho15 (Kd.R_lt (rN HO358.out))) (below_size (bN HB.out)))
         have n3_ := m_ (blk_below (kN BK348.out) hb)
         have n4_ := m_ (blk_below (kN BK349.out) hb)
         have n5_ := m_ (below_step (bN HB.out) hb)
         clear HO355
         clear HO358
         clear BK348
         clear BK349
         clear HB
         have HO355 := n0_
         have HO358 := n1_
         have HO364 := n2_
         have BK348 := n3_
         have BK349 := n4_
         have HB := n5_
         clear n0_ n1_ n2_ n3_ n4_ n5_
         clear hb ho15
         refine hK.out _ _ ⟨(blk_cell BK348.out 0).trans rfl, (blk_cell BK348.out 1).trans rfl, (blk_cell BK348.out 2).trans rfl, (blk_cell BK348.out 3).trans rfl, (blk_cell BK348.out 4).trans rfl⟩ (fun hHeld => ?_)
         clear hK K
         refine norm_ (a' := ?_) ?_ ?_
         rotate_left
         ·show Act.put _ (some 15) _ = _
          simp only [Act.put, List.setIfInBounds_toArray, List.set_cons_zero, List.set_cons_succ, i64_w, i32_w]
          rfl
         exact norm_ (by first | (simp only [putAll, Act.put, List.setIfInBounds_toArray, List.set_cons_zero, List.set_cons_succ]; done) | (simp only [putAll, Act.put, List.setIfInBounds_toArray, List.set_cons_zero, List.set_cons_succ]; rfl)) (hJ0_3_4_12 (v351, v354, v357, v363) _ ⟨hHeld, (rN HO355.out), (by (with_reducible repeat (first | apply Kd.R_alloc | apply Kd.R_drewN | apply Kd.R_drew)); exact Kd.R_mono HO358.out (fun _ hk => hk.2)), (by (with_reducible repeat (first | apply Kd.R_alloc | apply Kd.R_drewN | apply Kd.R_drew)); exact Kd.R_mono HO364.out (fun _ hk => hk.2)), (kN BK348.out), (kN BK349.out), (bN HB.out)⟩)
      ·skip
       rintro ⟨v351, v354, v357, v363⟩ w15 ⟨hS_, h0_, h1_, h2_, h3_, h4_, h5_⟩
       have n0_ : Aside0 (Kd.R k53 53 w15 w.heap.size (fun _ => True) v354 y353) := ⟨h0_⟩
       have n1_ : Aside0 (Kd.R (Kd.int .i64) 3 w15 w.heap.size (fun k_ => some k_ ≠ (v363 : Value).ownBlock) v357 y356) := ⟨h1_⟩
       have n2_ : Aside0 (Kd.R (Kd.int .i64) 3 w15 w.heap.size (fun k_ => some k_ ≠ (v357 : Value).ownBlock) v363 y362) := ⟨h2_⟩
       have n3_ : Aside0 (w15.heap[gb348]? = some (.cells #[.slice A0_0 l0_0.length c0_0, .slice A0_1 l0_1.length c0_1, .int .i64 a0_2, .bool a0_3, .slice A0_4 l0_4.length c0_4] 33 (0, 0))) := ⟨h3_⟩
       have n4_ : Aside0 (w15.heap[gb349]? = some (.cells #[.slice none 0 0, .slice none 0 0, .int .i64 0, .bool false, .slice none 0 0] 33 (0, 0))) := ⟨h4_⟩
       have n5_ : Aside0 (Below w.heap.size w w15) := ⟨h5_⟩
       clear BK348
       clear BK349
       clear HB
       clear h0_ h1_ h2_ h3_ h4_ h5_
       have HO355 := n0_
       have HO358 := n1_
       have HO364 := n2_
       have BK348 := n3_
       have BK349 := n4_
       have HB := n5_
       clear n0_ n1_ n2_ n3_ n4_ n5_
       have hHeld : w15.cell? ⟨gb348, 0, none⟩ = some (.slice A0_0 l0_0.length c0_0) ∧ w15.cell? ⟨gb348, 1, none⟩ = some (.slice A0_1 l0_1.length c0_1) ∧ w15.cell? ⟨gb348, 2, none⟩ = some (.int .i64 a0_2) ∧ w15.cell? ⟨gb348, 3, none⟩ = some (.bool a0_3) ∧ w15.cell? ⟨gb348, 4, none⟩ = some (.slice A0_4 l0_4.length c0_4) := hS_
       refine norm_ (a' := ?_) ?_ ?_
       rotate_left
       ·simp only [putAll, Act.put, List.setIfInBounds_toArray, List.set_cons_zero, List.set_cons_succ]
        rfl
       refine one_ (i := 7) (N := some 10) #[true, true, true, true, true, true, true, true, true, true, true, true, true, true, true, false, false, false] rfl rfl (one_of HT_.out (by kernel_rfl)) (by decide) (fun K hK => ?_)
       refine Kd.R_append_rows_step (Kd.int .i64) (w0 := w) w.heap.size (by rfl) (.tmp 7) (.tmp 9) 31 3 (.int .i64 0) 8 rfl Try.underlying31 info3 rfl (by decide) (by omega) v357 y356 l0_1 _ _ _ (fun k_ => some k_ ≠ (v363 : Value).ownBlock) (fun _ => False) rfl rfl ?aO ?aR (fun _ _ h => h) (fun _ h => h.elim) ?aF ?aB ?aS ?aL ?_
       (case aR => exact cN (Kd.C_below HR0_1.out HB.out))
       (case aB => exact (bN HB.out))
       (case aF => exact (fun k_ hk => Kd.fresh' (Kd.R_lt (rN HO364.out)) k_ hk))
       (case aO => exact (rN HO358.out))
       (case aS => exact (below_size (bN HB.out)))
       (case aL => have := LMc3.out; omega)
       intro v360 w16 ho hb hg hat
       rw [← Ny359.out] at ho
       have n0_ := m_ (blk_grown (g := gb348) (o := .cells #[.slice A0_0 l0_0.length c0_0, .slice A0_1 l0_1.length c0_1, .int .i64 a0_2, .bool a0_3, .slice A0_4 l0_4.length c0_4] 33 (0, 0)) (kN BK348.out) hg (Kd.R_ne HO358.out BK348.out (by decide)))
       have n1_ := m_ (blk_grown (g := gb349) (o := .cells #[.slice none 0 0, .slice none 0 0, .int .i64 0, .bool false, .slice none 0 0] 33 (0, 0)) (kN BK349.out) hg (Kd.R_ne HO358.out BK349.out (by decide)))
       have n2_ := m_ (Kd.R_over' (rN HO355.out) (Kd.R_typed (rN HO358.out)) (by decide) hg)
       have n3_ := m_ (Kd.R_after (ok := (fun _ => True)) (by (with_reducible repeat (first | apply Kd.R_alloc | apply Kd.R_drewN | apply Kd.R_drew)); exact Kd.R_mono HO364.out (fun _ hk => ⟨trivial, hk⟩)) hg hat)
       have n4_ := m_ (hb)
       have n5_ := m_ (ho)
       clear BK348
       clear BK349
       clear HO355
       clear HO364
       clear HB
       clear HO358
       have BK348 := n0_
       have BK349 := n1_
       have HO355 := n2_
       have HO364 := n3_
       have HB := n4_
       have HO361 := n5_
       clear n0_ n1_ n2_ n3_ n4_ n5_
       clear ho hb hg hat
       refine hK.out _ _ ⟨(blk_cell BK348.out 0).trans rfl, (blk_cell BK348.out 1).trans rfl, (blk_cell BK348.out 2).trans rfl, (blk_cell BK348.out 3).trans rfl, (blk_cell BK348.out 4).trans rfl⟩ (fun hHeld => ?_)
       clear hK K
       refine norm_ (a' := ?_) ?_ ?_
       rotate_left
       ·show Act.put _ (some 10) _ = _
        simp only [Act.put, List.setIfInBounds_toArray, List.set_cons_zero, List.set_cons_succ, i64_w, i32_w]
        rfl
       exact norm_ (by first | (simp only [putAll, Act.put, List.setIfInBounds_toArray, List.set_cons_zero, List.set_cons_succ]; done) | (simp only [putAll, Act.put, List.setIfInBounds_toArray, List.set_cons_zero, List.set_cons_succ]; rfl)) (hJ0_3_4_7_12 (v351, v354, v357, v360, v363) _ ⟨hHeld, (rN HO355.out), (rN HO361.out), (by (with_reducible repeat (first | apply Kd.R_alloc | apply Kd.R_drewN | apply Kd.R_drew)); exact Kd.R_mono HO364.out (fun _ hk => hk.2)), (kN BK348.out), (kN BK349.out), (bN HB.out)⟩)
     ·skip
      rintro ⟨v351, v354, v357, v360⟩ w14 ⟨hS_, h0_, h1_, h2_, h3_, h4_⟩
      have n0_ : Aside0 (Kd.R k53 53 w14 w.heap.size (fun _ => True) v354 y353) := ⟨h0_⟩
      have n1_ : Aside0 (Kd.R (Kd.int .i64) 3 w14 w.heap.size (fun _ => True) v360 y359) := ⟨h1_⟩
      have n2_ : Aside0 (w14.heap[gb348]? = some (.cells #[.slice A0_0 l0_0.length c0_0, .slice A0_1 l0_1.length c0_1, .int .i64 a0_2, .bool a0_3, .slice A0_4 l0_4.length c0_4] 33 (0, 0))) := ⟨h2_⟩
      have n3_ : Aside0 (w14.heap[gb349]? = some (.cells #[.slice none 0 0, .slice none 0 0, .int .i64 0, .bool false, .slice none 0 0] 33 (0, 0))) := ⟨h3_⟩
      have n4_ : Aside0 (Below w.heap.size w w14) := ⟨h4_⟩
      clear BK348
      clear BK349
      clear HB
      clear h0_ h1_ h2_ h3_ h4_
      have HO355 := n0_
      have HO361 := n1_
      have BK348 := n2_
      have BK349 := n3_
      have HB := n4_
      clear n0_ n1_ n2_ n3_ n4_
      have hHeld : w14.cell? ⟨gb348, 0, none⟩ = some (.slice A0_0 l0_0.length c0_0) ∧ w14.cell? ⟨gb348, 1, none⟩ = some (.slice A0_1 l0_1.length c0_1) ∧ w14.cell? ⟨gb348, 2, none⟩ = some (.int .i64 a0_2) ∧ w14.cell? ⟨gb348, 3, none⟩ = some (.bool a0_3) ∧ w14.cell? ⟨gb348, 4, none⟩ = some (.slice A0_4 l0_4.length c0_4) := hS_
      refine norm_ (a' := ?_) ?_ ?_
      rotate_left
      ·simp only [putAll, Act.put, List.setIfInBounds_toArray, List.set_cons_zero, List.set_cons_succ]
       rfl
      refine one_ (i := 12) (N := some 15) #[true, true, true, true, true, true, true, true, true, true, true, true, true, true, true, false, false, false] rfl rfl (one_of HT_.out (by kernel_rfl)) (by decide) (fun K hK => ?_)
      refine Kd.R_lit_step (Kd.int .i64) _ 3 ?hg (N := 15) ?hd (xs := ([] : List Int)) (inner := []) (ok := fun _ => True) (okp := fun _ => True) ?hr ?hp (fun _ hk => hk) trivial (Below.refl _ _) (Nat.le_refl _) (by simp) ?_; (case hd => rfl); (case hg => rfl); (case hr => first | (go_simp; done) | (go_simp; rfl)); (case hp => exact (Reps.none _ _))
      intro v363 w15 ho16 hb hg_ hnew_
      clear hg_ hnew_
      (first | rw [← Ny362.out] at ho16 | (simp only [Int.reduceToNat] at ho16; rw [← Ny362.out] at ho16))
      have n0_ := m_ (Kd.R_below (rN HO355.out) hb)
      have n1_ := m_ (Kd.R_elder' (rN HO361.out) (Kd.R_base ho16) hb)
      have n2_ := m_ (Kd.R_lower (Kd.R_new' ho16 (Kd.R_lt (rN HO361.out))) (below_size (bN HB.out)))
      have n3_ := m_ (blk_below (kN BK348.out) hb)
      have n4_ := m_ (blk_below (kN BK349.out) hb)
      have n5_ := m_ (below_step (bN HB.out) hb)
      clear HO355
      clear HO361
      clear BK348
      clear BK349
      clear HB
      have HO355 := n0_
      have HO361 := n1_
      have HO364 := n2_
      have BK348 := n3_
      have BK349 := n4_
      have HB := n5_
      clear n0_ n1_ n2_ n3_ n4_ n5_
      clear hb ho16
      refine hK.out _ _ ⟨(blk_cell BK348.out 0).trans rfl, (blk_cell BK348.out 1).trans rfl, (blk_cell BK348.out 2).trans rfl, (blk_cell BK348.out 3).trans rfl, (blk_cell BK348.out 4).trans rfl⟩ (fun hHeld => ?_)
      clear hK K
      refine norm_ (a' := ?_) ?_ ?_
      rotate_left
      ·show Act.put _ (some 15) _ = _
       simp only [Act.put, List.setIfInBounds_toArray, List.set_cons_zero, List.set_cons_succ, i64_w, i32_w]
       rfl
      exact norm_ (by first | (simp only [putAll, Act.put, List.setIfInBounds_toArray, List.set_cons_zero, List.set_cons_succ]; done) | (simp only [putAll, Act.put, List.setIfInBounds_toArray, List.set_cons_zero, List.set_cons_succ]; rfl)) (hJ0_3_4_7_12 (v351, v354, v357, v360, v363) _ ⟨hHeld, (rN HO355.out), (by (with_reducible repeat (first | apply Kd.R_alloc | apply Kd.R_drewN | apply Kd.R_drew)); exact Kd.R_mono HO361.out (fun _ hk => hk.2)), (by (with_reducible repeat (first | apply Kd.R_alloc | apply Kd.R_drewN | apply Kd.R_drew)); exact Kd.R_mono HO364.out (fun _ hk => hk.2)), (kN BK348.out), (kN BK349.out), (bN HB.out)⟩)
    rintro ⟨v351, v354, v357, v360, v363⟩ w16 ⟨hS_, h0_, h1_, h2_, h3_, h4_, h5_⟩
    have n0_ : Aside0 (Kd.R k53 53 w16 w.heap.size (fun _ => True) v354 y353) := ⟨h0_⟩
    have n1_ : Aside0 (Kd.R (Kd.int .i64) 3 w16 w.heap.size (fun k_ => some k_ ≠ (v363 : Value).ownBlock) v360 y359) := ⟨h1_⟩
    have n2_ : Aside0 (Kd.R (Kd.int .i64) 3 w16 w.heap.size (fun k_ => some k_ ≠ (v360 : Value).ownBlock) v363 y362) := ⟨h2_⟩
    have n3_ : Aside0 (w16.heap[gb348]? = some (.cells #[.slice A0_0 l0_0.length c0_0, .slice A0_1 l0_1.length c0_1, .int .i64 a0_2, .bool a0_3, .slice A0_4 l0_4.length c0_4] 33 (0, 0))) := ⟨h3_⟩
    have n4_ : Aside0 (w16.heap[gb349]? = some (.cells #[.slice none 0 0, .slice none 0 0, .int .i64 0, .bool false, .slice none 0 0] 33 (0, 0))) := ⟨h4_⟩
    have n5_ : Aside0 (Below w.heap.size w w16) := ⟨h5_⟩
    clear BK348
    clear BK349
    clear HB
    clear h0_ h1_ h2_ h3_ h4_ h5_
    have HO355 := n0_
    have HO361 := n1_
    have HO364 := n2_
    have BK348 := n3_
    have BK349 := n4_
    have HB := n5_
    clear n0_ n1_ n2_ n3_ n4_ n5_
    have hHeld : w16.cell? ⟨gb348, 0, none⟩ = some (.slice A0_0 l0_0.length c0_0) ∧ w16.cell? ⟨gb348, 1, none⟩ = some (.slice A0_1 l0_1.length c0_1) ∧ w16.cell? ⟨gb348, 2, none⟩ = some (.int .i64 a0_2) ∧ w16.cell? ⟨gb348, 3, none⟩ = some (.bool a0_3) ∧ w16.cell? ⟨gb348, 4, none⟩ = some (.slice A0_4 l0_4.length c0_4) := hS_
    refine norm_ (a' := ?_) ?_ ?_
    rotate_left
    ·simp only [putAll, Act.put, List.setIfInBounds_toArray, List.set_cons_zero, List.set_cons_succ]
     rfl
    refine one_ (i := 15) (N := some 18) #[true, true, true, true, true, true, true, true, true, true, true, true, true, true, true, true, false, false] rfl rfl (one_of HT_.out (by kernel_rfl)) (by decide) (fun K hK => ?_)
    refine Kd.R_append_rows_step (Kd.int .i64) (w0 := w) w.heap.size (by rfl) (.tmp 15) (.tmp 17) 31 3 (.int .i64 0) 8 rfl Try.underlying31 info3 rfl (by decide) (by omega) v363 y362 l0_4 _ _ _ (fun k_ => some k_ ≠ (v360 : Value).ownBlock) (fun _ => False) rfl rfl ?aO ?aR (fun _ _ h => h) (fun _ h => h.elim) ?aF ?aB ?aS ?aL ?_
    (case aR => exact cN (Kd.C_below HR0_4.out HB.out))
    (case aB => exact (bN HB.out))
    (case aF => exact (fun k_ hk => Kd.fresh' (Kd.R_lt (rN HO361.out)) k_ hk))
    (case aO => exact (rN HO364.out))
    (case aS => exact (below_size (bN HB.out)))
    (case aL => have := LMc4.out; omega)
    intro v366 w17 ho hb hg hat
    rw [← Ny365.out] at ho
    have n0_ := m_ (blk_grown (g := gb348) (o := .cells #[.slice A0_0 l0_0.length c0_0, .slice A0_1 l0_1.length c0_1, .int .i64 a0_2, .bool a0_3, .slice A0_4 l0_4.length c0_4] 33 (0, 0)) (kN BK348.out) hg (Kd.R_ne HO364.out BK348.out (by decide)))
    have n1_ := m_ (blk_grown (g := gb349) (o := .cells #[.slice none 0 0, .slice none 0 0, .int .i64 0, .bool false, .slice none 0 0] 33 (0, 0)) (kN BK349.out) hg (Kd.R_ne HO364.out BK349.out (by decide)))
    have n2_ := m_ (Kd.R_over' (rN HO355.out) (Kd.R_typed (rN HO364.out)) (by decide) hg)
    have n3_ := m_ (Kd.R_after (ok := (fun _ => True)) (by (with_reducible repeat (first | apply Kd.R_alloc | apply Kd.R_drewN | apply Kd.R_drew)); exact Kd.R_mono HO361.out (fun _ hk => ⟨trivial, hk⟩)) hg hat)
    have n4_ := m_ (hb)
    have n5_ := m_ (ho)
    clear BK348
    clear BK349
    clear HO355
    clear HO361
    clear HB
    clear HO364
    have BK348 := n0_
    have BK349 := n1_
    have HO355 := n2_
    have HO361 := n3_
    have HB := n4_
    have HO367 := n5_
    clear n0_ n1_ n2_ n3_ n4_ n5_
    clear ho hb hg hat
    obtain ⟨Ao18, co18, eo18⟩ := Kd.R_slice HO367.out
    (first | subst eo18 | (injection eo18 with f1_ f2_ f3_; have f4_ := f1_.symm; have f5_ := f3_.symm; clear f1_ f2_ f3_; subst f4_; subst f5_))
    obtain ⟨Ao19, co19, eo19⟩ := Kd.R_slice HO361.out
    (first | subst eo19 | (injection eo19 with f1_ f2_ f3_; have f4_ := f1_.symm; have f5_ := f3_.symm; clear f1_ f2_ f3_; subst f4_; subst f5_))
    obtain ⟨Ao20, co20, eo20⟩ := Kd.R_slice HO355.out
    (first | subst eo20 | (injection eo20 with f1_ f2_ f3_; have f4_ := f1_.symm; have f5_ := f3_.symm; clear f1_ f2_ f3_; subst f4_; subst f5_))
    refine hK.out _ _ ⟨(blk_cell BK348.out 0).trans rfl, (blk_cell BK348.out 1).trans rfl, (blk_cell BK348.out 2).trans rfl, (blk_cell BK348.out 3).trans rfl, (blk_cell BK348.out 4).trans rfl⟩ (fun hHeld => ?_)
    clear hK K
    refine norm_ (a' := ?_) ?_ ?_
    rotate_left
    ·show Act.put _ (some 18) _ = _
     simp only [Act.put, List.setIfInBounds_toArray, List.set_cons_zero, List.set_cons_succ, i64_w, i32_w]
     rfl
    refine pu 16 19 HT_ (h := ?_)
    refine one_ (i := 17) (N := none) #[true, true, true, true, true, true, true, true, true, true, true, true, true, true, true, true, true, true] rfl rfl (one_of HT_.out (by kernel_rfl)) (by decide) (fun K hK => ?_)
    have hs21 : w17.cell? ⟨gb349, 0, none⟩ = some (.slice none 0 0) := (blk_cell BK349.out 0).trans rfl
    have hfs21 := blk_frozen BK349.out 0
    have hns21_0 := NB348_349.out
    have hms21_0 := NB349_348.out
    have hs22 : w17.cell? ⟨gb349, 1, none⟩ = some (.slice none 0 0) := (blk_cell BK349.out 1).trans rfl
    have hfs22 := blk_frozen BK349.out 1
    have hns22_0 := NB348_349.out
    have hms22_0 := NB349_348.out
    have hs23 : w17.cell? ⟨gb349, 2, none⟩ = some (.int .i64 0) := (blk_cell BK349.out 2).trans rfl
    have hfs23 := blk_frozen BK349.out 2
    have hns23_0 := NB348_349.out
    have hms23_0 := NB349_348.out
    have hs24 : w17.cell? ⟨gb349, 3, none⟩ = some (.bool false) := (blk_cell BK349.out 3).trans rfl
    have hfs24 := blk_frozen BK349.out 3
    have hns24_0 := NB348_349.out
    have hms24_0 := NB349_348.out
    have hs25 : w17.cell? ⟨gb349, 4, none⟩ = some (.slice none 0 0) := (blk_cell BK349.out 4).trans rfl
    have hfs25 := blk_frozen BK349.out 4
    have hns25_0 := NB348_349.out
    have hms25_0 := NB349_348.out
    refine skip_ (w1 := ?_) (by rfl) rfl ?_ ?_
    rotate_left
    ·go_simp
     rfl
    refine hK.out _ _ ⟨((cell_far (p := ⟨gb349, _, none⟩) NB348_349.out _).trans (((cell_far (p := ⟨gb349, _, none⟩) NB348_349.out _).trans (((cell_far (p := ⟨gb349, _, none⟩) NB348_349.out _).trans (((cell_far (p := ⟨gb349, _, none⟩) NB348_349.out _).trans (((cell_far (p := ⟨gb349, _, none⟩) NB348_349.out _).trans (hHeld.1)))))))))), ((cell_far (p := ⟨gb349, _, none⟩) NB348_349.out _).trans (((cell_far (p := ⟨gb349, _, none⟩) NB348_349.out _).trans (((cell_far (p := ⟨gb349, _, none⟩) NB348_349.out _).trans (((cell_far (p := ⟨gb349, _, none⟩) NB348_349.out _).trans (((cell_far (p := ⟨gb349, _, none⟩) NB348_349.out _).trans (hHeld.2.1)))))))))), ((cell_far (p := ⟨gb349, _, none⟩) NB348_349.out _).trans (((cell_far (p := ⟨gb349, _, none⟩) NB348_349.out _).trans (((cell_far (p := ⟨gb349, _, none⟩) NB348_349.out _).trans (((cell_far (p := ⟨gb349, _, none⟩) NB348_349.out _).trans (((cell_far (p := ⟨gb349, _, none⟩) NB348_349.out _).trans (hHeld.2.2.1)))))))))), ((cell_far (p := ⟨gb349, _, none⟩) NB348_349.out _).trans (((cell_far (p := ⟨gb349, _, none⟩) NB348_349.out _).trans (((cell_far (p := ⟨gb349, _, none⟩) NB348_349.out _).trans (((cell_far (p := ⟨gb349, _, none⟩) NB348_349.out _).trans (((cell_far (p := ⟨gb349, _, none⟩) NB348_349.out _).trans (hHeld.2.2.2.1)))))))))), ((cell_far (p := ⟨gb349, _, none⟩) NB348_349.out _).trans (((cell_far (p := ⟨gb349, _, none⟩) NB348_349.out _).trans (((cell_far (p := ⟨gb349, _, none⟩) NB348_349.out _).trans (((cell_far (p := ⟨gb349, _, none⟩) NB348_349.out _).trans (((cell_far (p := ⟨gb349, _, none⟩) NB348_349.out _).trans (hHeld.2.2.2.2))))))))))⟩ (fun hHeld => ?_)
    clear hK K
    refine done_ (done_of HT_.out (by kernel_rfl)) ?_
    try go_wp2
    refine bodyPost_ret (results_cell_row rfl _ _ gb349 33 #[.slice Ao20 y353.length co20, .slice Ao19 y359.length co19, .int .i64 a0_2, .bool a0_3, .slice Ao18 y365.length co18] (0, 0) _ rfl (by (with_reducible repeat (first | refine blk_drewN ?_ _ | refine blk_drew ?_ | refine blk_alloc ?_ _)); refine blk_put (cs := #[.slice Ao20 y353.length co20, .slice Ao19 y359.length co19, .int .i64 a0_2, .bool a0_3, .slice none 0 0]) ?_ 4 _ rfl; (with_reducible repeat (first | refine blk_drewN ?_ _ | refine blk_drew ?_ | refine blk_alloc ?_ _)); refine blk_put (cs := #[.slice Ao20 y353.length co20, .slice Ao19 y359.length co19, .int .i64 a0_2, .bool false, .slice none 0 0]) ?_ 3 _ rfl; (with_reducible repeat (first | refine blk_drewN ?_ _ | refine blk_drew ?_ | refine blk_alloc ?_ _)); refine blk_put (cs := #[.slice Ao20 y353.length co20, .slice Ao19 y359.length co19, .int .i64 0, .bool false, .slice none 0 0]) ?_ 2 _ rfl; (with_reducible repeat (first | refine blk_drewN ?_ _ | refine blk_drew ?_ | refine blk_alloc ?_ _)); refine blk_put (cs := #[.slice Ao20 y353.length co20, .slice none 0 0, .int .i64 0, .bool false, .slice none 0 0]) ?_ 1 _ rfl; (with_reducible repeat (first | refine blk_drewN ?_ _ | refine blk_drew ?_ | refine blk_alloc ?_ _)); refine blk_put (cs := #[.slice none 0 0, .slice none 0 0, .int .i64 0, .bool false, .slice none 0 0]) ?_ 0 _ rfl; (with_reducible repeat (first | refine blk_drewN ?_ _ | refine blk_drew ?_ | refine blk_alloc ?_ _)); exact BK349.out) Try.underlying33 rfl (by kernel_rfl)) rfl ?_
    exact ⟨_, _, _, by first | rfl | (simp [errW_none, errW_some] <;> rfl) | (simp [*, errW_none, errW_some] <;> rfl), by (with_reducible repeat (first | apply Kd.R_alloc | apply Kd.R_drewN | apply Kd.R_drew)); exact frM (Kd.R_types HO355.out BK349.out (by decide)), by (with_reducible repeat (first | apply Kd.R_alloc | apply Kd.R_drewN | apply Kd.R_drew)); exact frM (Kd.R_types HO361.out BK349.out (by decide)), by (with_reducible repeat (first | apply Kd.R_alloc | apply Kd.R_drewN | apply Kd.R_drew)); exact frM (Kd.R_types HO367.out BK349.out (by decide)), by repeat (first | (with_reducible first | exact HB.out | apply below_alloc | apply pw_below_drewN | apply below_drew1 | refine below_set ?_ GE348.out | refine below_set ?_ GE349.out) | exact HB.out)⟩
   ·rw [if_neg c4] at H
    exact absurd H (by simp)
  ·rw [if_neg c3] at H
   exact absurd H (by simp)
 ·rw [if_neg c2] at H
  exact absurd H (by simp)

end Go.Proofs.Ytmhdphohhheoaaa.P
