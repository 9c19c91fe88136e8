/- The machine side of these statements, function by function: what each Go function answers (as a Lean function), and that it does. Written by a program (mp.py) for this claim. -/
import Derived.Test.YtaolcmhgbanacaaPx0
import Derived.Test.YtaolcmhgbanacaaPx1
import Derived.Test.YtaolcmhgbanacaaPx2
namespace Go.Proofs.Ytaolcmhgbanacaa.P
open Go.RowKit Go.Proofs.YtaolcmhgbanacaaW.PrintWords Go.Proofs.YtaolcmhgbanacaaW.PrintLast Go.Proofs.YtaolcmhgbanacaaW.PrintMore
attribute [local go_sem] max2_int min2_int max_two min_two max_three min_three max_four min_four   -- for this text's walks alone
set_option linter.unusedVariables false
set_option linter.unusedSimpArgs false

/-! ### spec_FarmPut: function 21 -/
def spec_FarmPut.f (k : Nat) (a0_0 : Bool) (a0_1 : Bool) (a0_2 : Bool) (a0_3 : Int) (a0_4 : Int) : Option (ByteArray) := (spec_FarmOk.f a0_0 a0_1 a0_2 a0_3 a0_4).bind fun t135 => (if t135 = true then ((spec_l3Flag.f a0_0).bind fun t136 => ((spec_l3Flag.f a0_1).bind fun t137 => ((spec_l3Flag.f a0_2).bind fun t138 => ((spec_l1Put.f k (wrap64 ((wrap64 ((wrap64 ((wrap64 (t136 * 32)) + (wrap64 (t137 * 16)))) + (wrap64 (t138 * 8)))) + (wrap64 (a0_3 * 2)))) 1).bind fun t139 => (if 2 + t139.size ≤ 9223372036854775807 then ((spec_l1Put.f k a0_4 1).bind fun t140 => (if 2 + t139.size + t140.size ≤ 9223372036854775807 then (some (((⟨#[1, 0]⟩ : ByteArray) ++ t139) ++ t140)) else (none))) else (none)))))) else (some (⟨#[]⟩ : ByteArray)))
theorem spec_FarmPut.mono : ∀ a0 a1 a2 a3 a4 k, LeO (spec_FarmPut.f k a0 a1 a2 a3 a4) (spec_FarmPut.f (k + 1) a0 a1 a2 a3 a4) := by
 intro a0 a1 a2 a3 a4 k
 unfold spec_FarmPut.f
 repeat' first
   | (with_reducible exact spec_l1Put.mono _ _ _)
   | (with_reducible exact LeO.refl _)
   | (with_reducible exact LeO.none _)
   | (with_reducible refine LeO.ite ?_ ?_)
   | (with_reducible refine LeO.bind ?_ (fun _ => ?_))
   | exact spec_l1Put.mono _ _ _
   | exact LeO.none _
   | refine LeO.ite ?_ ?_
   | refine LeO.bind ?_ (fun _ => ?_)
def spec_FarmPut.T3 : Bool × List (List Nat × List Nat) := (true, [([], []), ([0], [0]), ([1], [1]), ([2], [2]), ([], []), ([4], [4]), ([5, 2], [5]), ([6], [6]), ([3, 7], [3, 7]), ([], []), ([9], [9]), ([10, 6], [10]), ([11], [11]), ([8, 12], [8, 12]), ([], []), ([14], [14]), ([15], [15]), ([13, 16], [13, 16]), ([17, 11], [17]), ([18], [18]), ([], []), ([20], [20]), ([21, 18], [21]), ([19, 22], [19, 22]), ([23, 22, 0, 1, 2, 3, 4, 5, 6, 7, 8, 9, 10, 11, 12, 13, 14, 15, 16, 17, 18, 19, 20, 21, 22, 23], [23])])
def spec_FarmPut.B3 : List Nat := [0, 1, 3, 7, 0, 16, 55, 119, 255, 0, 512, 1655, 3703, 8191, 0, 16384, 49152, 131071, 262143, 524287, 0, 1048576, 3670015, 8388607, 16777215]
theorem spec_FarmPut.tab3 : rtab .any (opsOf Try.f21 3) = spec_FarmPut.T3 := by kernel_rfl
theorem spec_FarmPut.bits3 : waitsOk spec_FarmPut.T3.2 spec_FarmPut.B3 = true := by kernel_rfl
set_option maxHeartbeats 8000000 in
set_option maxRecDepth 100000 in
theorem spec_FarmPut.calls (k : Nat) (a0_0 : Bool) (a0_1 : Bool) (a0_2 : Bool) (a0_3 : Int) (a0_4 : Int) (r : ByteArray) (w : World) (h : spec_FarmPut.f k a0_0 a0_1 a0_2 a0_3 a0_4 = some r) :
  Calls Try.prog 21 #[.agg #[.bool a0_0, .bool a0_1, .bool a0_2, .int .i64 a0_3, .int .i64 a0_4]] w fun e w' => e = .returned (.string r) ∧ Below w.heap.size w w' := by
 have hu48 := Try.underlying48
 have HB := m_ (Below.refl w.heap.size w)
 have H : ((spec_FarmOk.f a0_0 a0_1 a0_2 a0_3 a0_4).bind fun t135 => (if t135 = true then ((spec_l3Flag.f a0_0).bind fun t136 => ((spec_l3Flag.f a0_1).bind fun t137 => ((spec_l3Flag.f a0_2).bind fun t138 => ((spec_l1Put.f k (wrap64 ((wrap64 ((wrap64 ((wrap64 (t136 * 32)) + (wrap64 (t137 * 16)))) + (wrap64 (t138 * 8)))) + (wrap64 (a0_3 * 2)))) 1).bind fun t139 => (if 2 + t139.size ≤ 9223372036854775807 then ((spec_l1Put.f k a0_4 1).bind fun t140 => (if 2 + t139.size + t140.size ≤ 9223372036854775807 then (some (((⟨#[1, 0]⟩ : ByteArray) ++ t139) ++ t140)) else (none))) else (none)))))) else (some (⟨#[]⟩ : ByteArray)))) = some r := h
 clear h
 replace H := Option.bind_eq_some_iff.mp H
 obtain ⟨t135, A20, H⟩ := H
 replace H : (if t135 = true then ((spec_l3Flag.f a0_0).bind fun t136 => ((spec_l3Flag.f a0_1).bind fun t137 => ((spec_l3Flag.f a0_2).bind fun t138 => ((spec_l1Put.f k (wrap64 ((wrap64 ((wrap64 ((wrap64 (t136 * 32)) + (wrap64 (t137 * 16)))) + (wrap64 (t138 * 8)))) + (wrap64 (a0_3 * 2)))) 1).bind fun t139 => (if 2 + t139.size ≤ 9223372036854775807 then ((spec_l1Put.f k a0_4 1).bind fun t140 => (if 2 + t139.size + t140.size ≤ 9223372036854775807 then (some (((⟨#[1, 0]⟩ : ByteArray) ++ t139) ++ t140)) else (none))) else (none)))))) else (some (⟨#[]⟩ : ByteArray))) = some r := H
 have A2 := Aside0.mk A20
 clear A20
 by_cases c3 : t135 = true
 ·subst c3
  have H1 : ((spec_l3Flag.f a0_0).bind fun t136 => ((spec_l3Flag.f a0_1).bind fun t137 => ((spec_l3Flag.f a0_2).bind fun t138 => ((spec_l1Put.f k (wrap64 ((wrap64 ((wrap64 ((wrap64 (t136 * 32)) + (wrap64 (t137 * 16)))) + (wrap64 (t138 * 8)))) + (wrap64 (a0_3 * 2)))) 1).bind fun t139 => (if 2 + t139.size ≤ 9223372036854775807 then ((spec_l1Put.f k a0_4 1).bind fun t140 => (if 2 + t139.size + t140.size ≤ 9223372036854775807 then (some (((⟨#[1, 0]⟩ : ByteArray) ++ t139) ++ t140)) else (none))) else (none)))))) = some r := by rw [if_pos rfl] at H; exact H
  clear H
  have H := H1
  clear H1
  replace H := Option.bind_eq_some_iff.mp H
  obtain ⟨t136, A40, H⟩ := H
  replace H : ((spec_l3Flag.f a0_1).bind fun t137 => ((spec_l3Flag.f a0_2).bind fun t138 => ((spec_l1Put.f k (wrap64 ((wrap64 ((wrap64 ((wrap64 (t136 * 32)) + (wrap64 (t137 * 16)))) + (wrap64 (t138 * 8)))) + (wrap64 (a0_3 * 2)))) 1).bind fun t139 => (if 2 + t139.size ≤ 9223372036854775807 then ((spec_l1Put.f k a0_4 1).bind fun t140 => (if 2 + t139.size + t140.size ≤ 9223372036854775807 then (some (((⟨#[1, 0]⟩ : ByteArray) ++ t139) ++ t140)) else (none))) else (none))))) = some r := H
  have A4 := Aside0.mk A40
  clear A40
  replace H := Option.bind_eq_some_iff.mp H
  obtain ⟨t137, A50, H⟩ := H
  replace H : ((spec_l3Flag.f a0_2).bind fun t138 => ((spec_l1Put.f k (wrap64 ((wrap64 ((wrap64 ((wrap64 (t136 * 32)) + (wrap64 (t137 * 16)))) + (wrap64 (t138 * 8)))) + (wrap64 (a0_3 * 2)))) 1).bind fun t139 => (if 2 + t139.size ≤ 9223372036854775807 then ((spec_l1Put.f k a0_4 1).bind fun t140 => (if 2 + t139.size + t140.size ≤ 9223372036854775807 then (some (((⟨#[1, 0]⟩ : ByteArray) ++ t139) ++ t140)) else (none))) else (none)))) = some r := H
  have A5 := Aside0.mk A50
  clear A50
  replace H := Option.bind_eq_some_iff.mp H
  obtain ⟨t138, A60, H⟩ := H
  replace H : ((spec_l1Put.f k (wrap64 ((wrap64 ((wrap64 ((wrap64 (t136 * 32)) + (wrap64 (t137 * 16)))) + (wrap64 (t138 * 8)))) + (wrap64 (a0_3 * 2)))) 1).bind fun t139 => (if 2 + t139.size ≤ 9223372036854775807 then ((spec_l1Put.f k a0_4 1).bind fun t140 => (if 2 + t139.size + t140.size ≤ 9223372036854775807 then (some (((⟨#[1, 0]⟩ : ByteArray) ++ t139) ++ t140)) else (none))) else (none))) = some r := H
  have A6 := Aside0.mk A60
  clear A60
  replace H := Option.bind_eq_some_iff.mp H
  obtain ⟨t139, A70, H⟩ := H
  replace H : (if 2 + t139.size ≤ 9223372036854775807 then ((spec_l1Put.f k a0_4 1).bind fun t140 => (if 2 + t139.size + t140.size ≤ 9223372036854775807 then (some (((⟨#[1, 0]⟩ : ByteArray) ++ t139) ++ t140)) else (none))) else (none)) = some r := H
  have A7 := Aside0.mk A70
  clear A70
  by_cases c8 : 2 + t139.size ≤ 9223372036854775807
  ·rw [if_pos c8] at H
   have c8b0 := eq_true c8
   have c8b1 : decide (2 + t139.size ≤ 9223372036854775807) = true := decide_eq_true c8
   try have c8b2 : (9223372036854775807 < 2 + t139.size) = False := eq_false (Nat.not_lt.2 c8)
   replace H := Option.bind_eq_some_iff.mp H
   obtain ⟨t140, A90, H⟩ := H
   replace H : (if 2 + t139.size + t140.size ≤ 9223372036854775807 then (some (((⟨#[1, 0]⟩ : ByteArray) ++ t139) ++ t140)) else (none)) = some r := H
   have A9 := Aside0.mk A90
   clear A90
   by_cases c10 : 2 + t139.size + t140.size ≤ 9223372036854775807
   ·rw [if_pos c10] at H
    have c10b0 := eq_true c10
    have c10b1 : decide (2 + t139.size + t140.size ≤ 9223372036854775807) = true := decide_eq_true c10
    try have c10b2 : (9223372036854775807 < 2 + t139.size + t140.size) = False := eq_false (Nat.not_lt.2 c10)
    obtain rfl := Option.some.inj H
    go_enter Try.func21, Try.ntmps21
    try go_wp2_with (first | ((with_reducible refine gate_dst (N := 1) rfl ?_); refine box_event ?hg (N := 1) ?hd (cs := #[.bool a0_0, .bool a0_1, .bool a0_2, .int .i64 a0_3, .int .i64 a0_4]) (t := 48) ?hr ?_; (case hd => rfl); (case hg => rfl); (case hr => first | (go_simp; done) | (go_simp; rfl)); intro gb134 hg w11 hbox hb; have n0_ := m_ (below_step (bN HB.out) hb); have n1_ := m_ (hbox); have n2_ := m_ ((by rw [hg]; exact (below_size (bN HB.out)) : w.heap.size ≤ gb134)); have n3_ := m_ ((by rw [hg]; exact (below_size (bN HB.out)) : w.heap.size ≤ gb134)); clear HB; have HB := n0_; have BK134 := n1_; have GW134 := n2_; have GE134 := n3_; clear n0_ n1_ n2_ n3_; clear hb hbox hg; have hcz12_0 : w11.cell? ⟨gb134, 0, none⟩ = some (.bool a0_0) := bc BK134 0; have hcz12_1 : w11.cell? ⟨gb134, 1, none⟩ = some (.bool a0_1) := bc BK134 1; have hcz12_2 : w11.cell? ⟨gb134, 2, none⟩ = some (.bool a0_2) := bc BK134 2; have hcz12_3 : w11.cell? ⟨gb134, 3, none⟩ = some (.int .i64 a0_3) := bc BK134 3; have hcz12_4 : w11.cell? ⟨gb134, 4, none⟩ = some (.int .i64 a0_4) := bc BK134 4; have hfz12_0 := blk_frozen BK134.out 0; have hfz12_1 := blk_frozen BK134.out 1; have hfz12_2 := blk_frozen BK134.out 2; have hfz12_3 := blk_frozen BK134.out 3; have hfz12_4 := blk_frozen BK134.out 4) | ((with_reducible refine gate_callee (f := 31) rfl ?_); refine goesL_ (some 4) rfl rfl Try.func31 (by kernel_rfl) rfl #[.agg #[.bool a0_0, .bool a0_1, .bool a0_2, .int .i64 a0_3, .int .i64 a0_4]] rfl gl_ ?_; (with_reducible refine (spec_FarmOk.calls a0_0 a0_1 a0_2 a0_3 a0_4 true _ A2.out).mono ?_); rintro e w13 ⟨rfl, hb⟩; refine ⟨_, rfl, ?_⟩; have n0_ := m_ (blk_below (kN BK134.out) hb); have n1_ := m_ (below_step (bN HB.out) hb); clear BK134; clear HB; have BK134 := n0_; have HB := n1_; clear n0_ n1_; (try clear hb); (try clear hb2); (try clear hk); (try clear hi)))
    have n0_ := m_ (blk_drew BK134.out)
    have n1_ := m_ (below_drew1 HB.out)
    clear BK134
    clear HB
    have BK134 := n0_
    have HB := n1_
    clear n0_ n1_
    refine start_ (n := 25) (S := fun w' => w'.cell? ⟨gb134, 0, none⟩ = some (.bool a0_0) ∧ w'.cell? ⟨gb134, 1, none⟩ = some (.bool a0_1) ∧ w'.cell? ⟨gb134, 2, none⟩ = some (.bool a0_2) ∧ w'.cell? ⟨gb134, 3, none⟩ = some (.int .i64 a0_3) ∧ w'.cell? ⟨gb134, 4, none⟩ = some (.int .i64 a0_4)) (ds := []) #[false, false, false, false, false, false, false, false, false, false, false, false, false, false, false, false, false, false, false, false, false, false, false, false, false] (by kernel_rfl) rfl rfl ⟨bc BK134 0, bc BK134 1, bc BK134 2, bc BK134 3, bc BK134 4⟩ (fun hHeld => ?_); refine with_tabW spec_FarmPut.tab3 spec_FarmPut.bits3 (fun HT_ HW_ => ?_)
    generalize w13.drew = w14 at BK134 HB hHeld ⊢
    refine pu 0 6 HT_ (h := ?_)
    refine pu 4 10 HT_ (h := ?_)
    refine pu 9 15 HT_ (h := ?_)
    refine pu 14 20 HT_ (h := ?_)
    refine pu 20 26 HT_ (h := ?_)
    refine take_ (i := 1) (N := some 7) (v := ?_) (a' := ?_) #[true, true, false, false, true, false, false, false, false, true, false, false, false, false, true, false, false, false, false, false, true, false, false, false, false] rfl rfl (take_ofW HT_.out HW_.out (by kernel_rfl)) (fun _ _ _ h => h) (Or.inl ⟨by rfl, ?_⟩) hHeld ?_ ?_
    rotate_left
    ·rintro w' ⟨s0, s1, s2, s3, s4⟩
     go_simp
     with_reducible rfl
    rotate_left
    ·simp only [Act.put, List.setIfInBounds_toArray, List.set_cons_zero, List.set_cons_succ, i64_w, i32_w]
     rfl
    refine take_ (i := 5) (N := some 11) (v := ?_) (a' := ?_) #[true, true, false, false, true, true, false, false, false, true, false, false, false, false, true, false, false, false, false, false, true, false, false, false, false] rfl rfl (take_ofW HT_.out HW_.out (by kernel_rfl)) (fun _ _ _ h => h) (Or.inl ⟨by rfl, ?_⟩) hHeld ?_ ?_
    rotate_left
    ·rintro w' ⟨s0, s1, s2, s3, s4⟩
     go_simp
     with_reducible rfl
    rotate_left
    ·simp only [Act.put, List.setIfInBounds_toArray, List.set_cons_zero, List.set_cons_succ, i64_w, i32_w]
     rfl
    refine take_ (i := 10) (N := some 16) (v := ?_) (a' := ?_) #[true, true, false, false, true, true, false, false, false, true, true, false, false, false, true, false, false, false, false, false, true, false, false, false, false] rfl rfl (take_ofW HT_.out HW_.out (by kernel_rfl)) (fun _ _ _ h => h) (Or.inl ⟨by rfl, ?_⟩) hHeld ?_ ?_
    rotate_left
    ·rintro w' ⟨s0, s1, s2, s3, s4⟩
     go_simp
     with_reducible rfl
    rotate_left
    ·simp only [Act.put, List.setIfInBounds_toArray, List.set_cons_zero, List.set_cons_succ, i64_w, i32_w]
     rfl
    refine take_ (i := 15) (N := some 21) (v := ?_) (a' := ?_) #[true, true, false, false, true, true, false, false, false, true, true, false, false, false, true, true, false, false, false, false, true, false, false, false, false] rfl rfl (take_ofW HT_.out HW_.out (by kernel_rfl)) (fun _ _ _ h => h) (Or.inl ⟨by rfl, ?_⟩) hHeld ?_ ?_
    rotate_left
    ·rintro w' ⟨s0, s1, s2, s3, s4⟩
     go_simp
     with_reducible rfl
    rotate_left
    ·simp only [Act.put, List.setIfInBounds_toArray, List.set_cons_zero, List.set_cons_succ, i64_w, i32_w]
     rfl
    refine pu 16 22 HT_ (h := ?_)
    refine take_ (i := 21) (N := some 27) (v := ?_) (a' := ?_) #[true, true, false, false, true, true, false, false, false, true, true, false, false, false, true, true, true, false, false, false, true, true, false, false, false] rfl rfl (take_ofW HT_.out HW_.out (by kernel_rfl)) (fun _ _ _ h => h) (Or.inl ⟨by rfl, ?_⟩) hHeld ?_ ?_
    rotate_left
    ·rintro w' ⟨s0, s1, s2, s3, s4⟩
     go_simp
     with_reducible rfl
    rotate_left
    ·simp only [Act.put, List.setIfInBounds_toArray, List.set_cons_zero, List.set_cons_succ, i64_w, i32_w]
     rfl
    refine one_ (i := 2) (N := some 8) #[true, true, true, false, true, true, false, false, false, true, true, false, false, false, true, true, true, false, false, false, true, true, false, false, false] rfl rfl (one_of HT_.out (by kernel_rfl)) (by decide) (fun K hK => ?_)
    refine goes_ Try.func32 (by kernel_rfl) rfl #[.bool a0_0] (by rfl) rfl rfl gl_ ?_
    with_reducible refine (spec_l3Flag.calls a0_0 t136 _ A4.out).mono ?_
    rintro e w15 ⟨rfl, hb⟩
    refine ⟨_, rfl, ?_⟩
    have n0_ := m_ (blk_below (kN BK134.out) hb)
    have n1_ := m_ (below_step (bN HB.out) hb)
    clear BK134
    clear HB
    have BK134 := n0_
    have HB := n1_
    clear n0_ n1_
    (try clear hb)
    (try clear hb2)
    (try clear hk)
    (try clear hi)
    refine hK.out _ _ ⟨bc BK134 0, bc BK134 1, bc BK134 2, bc BK134 3, bc BK134 4⟩ (fun hHeld => ?_)
    clear hK K
    refine np (h := ?_)
    refine pu 3 9 HT_ (h := ?_)
    refine one_ (i := 6) (N := some 12) #[true, true, true, true, true, true, true, false, false, true, true, false, false, false, true, true, true, false, false, false, true, true, false, false, false] rfl rfl (one_of HT_.out (by kernel_rfl)) (by decide) (fun K hK => ?_)
    refine goes_ Try.func32 (by kernel_rfl) rfl #[.bool a0_1] (by rfl) rfl rfl gl_ ?_
    with_reducible refine (spec_l3Flag.calls a0_1 t137 _ A5.out).mono ?_
    rintro e w16 ⟨rfl, hb⟩
    refine ⟨_, rfl, ?_⟩
    have n0_ := m_ (blk_below (kN BK134.out) hb)
    have n1_ := m_ (below_step (bN HB.out) hb)
    clear BK134
    clear HB
    have BK134 := n0_
    have HB := n1_
    clear n0_ n1_
    (try clear hb)
    (try clear hb2)
    (try clear hk)
    (try clear hi)
    refine hK.out _ _ ⟨bc BK134 0, bc BK134 1, bc BK134 2, bc BK134 3, bc BK134 4⟩ (fun hHeld => ?_)
    clear hK K
    refine np (h := ?_)
    refine pu 7 13 HT_ (h := ?_)
    refine pu 8 14 HT_ (h := ?_)
    refine one_ (i := 11) (N := some 17) #[true, true, true, true, true, true, true, true, true, true, true, true, false, false, true, true, true, false, false, false, true, true, false, false, false] rfl rfl (one_of HT_.out (by kernel_rfl)) (by decide) (fun K hK => ?_)
    refine goes_ Try.func32 (by kernel_rfl) rfl #[.bool a0_2] (by rfl) rfl rfl gl_ ?_
    with_reducible refine (spec_l3Flag.calls a0_2 t138 _ A6.out).mono ?_
    rintro e w17 ⟨rfl, hb⟩
    refine ⟨_, rfl, ?_⟩
    have n0_ := m_ (blk_below (kN BK134.out) hb)
    have n1_ := m_ (below_step (bN HB.out) hb)
    clear BK134
    clear HB
    have BK134 := n0_
    have HB := n1_
    clear n0_ n1_
    (try clear hb)
    (try clear hb2)
    (try clear hk)
    (try clear hi)
    refine hK.out _ _ ⟨bc BK134 0, bc BK134 1, bc BK134 2, bc BK134 3, bc BK134 4⟩ (fun hHeld => ?_)
    clear hK K
    refine np (h := ?_)
    refine pu 12 18 HT_ (h := ?_)
    refine pu 13 19 HT_ (h := ?_)
    refine pu 17 23 HT_ (h := ?_)
    refine one_ (i := 18) (N := some 24) #[true, true, true, true, true, true, true, true, true, true, true, true, true, true, true, true, true, true, true, false, true, true, false, false, false] rfl rfl (one_of HT_.out (by kernel_rfl)) (by decide) (fun K hK => ?_)
    refine goes_ Try.func28 (by kernel_rfl) rfl #[.int .i64 (wrap64 ((wrap64 ((wrap64 ((wrap64 (t136 * 32)) + (wrap64 (t137 * 16)))) + (wrap64 (t138 * 8)))) + (wrap64 (a0_3 * 2)))), .int .i64 1] (by rfl) rfl rfl gl_ ?_
    with_reducible refine (spec_l1Put.calls k (wrap64 ((wrap64 ((wrap64 ((wrap64 (t136 * 32)) + (wrap64 (t137 * 16)))) + (wrap64 (t138 * 8)))) + (wrap64 (a0_3 * 2)))) 1 t139 _ A7.out).mono ?_
    rintro e w18 ⟨rfl, hb⟩
    refine ⟨_, rfl, ?_⟩
    have n0_ := m_ (blk_below (kN BK134.out) hb)
    have n1_ := m_ (below_step (bN HB.out) hb)
    clear BK134
    clear HB
    have BK134 := n0_
    have HB := n1_
    clear n0_ n1_
    (try clear hb)
    (try clear hb2)
    (try clear hk)
    (try clear hi)
    refine hK.out _ _ ⟨bc BK134 0, bc BK134 1, bc BK134 2, bc BK134 3, bc BK134 4⟩ (fun hHeld => ?_)
    clear hK K
    refine np (h := ?_)
    refine pu 19 25 HT_ (h := ?_)
    refine one_ (i := 22) (N := some 28) #[true, true, true, true, true, true, true, true, true, true, true, true, true, true, true, true, true, true, true, true, true, true, true, false, false] rfl rfl (one_of HT_.out (by kernel_rfl)) (by decide) (fun K hK => ?_)
    refine goes_ Try.func28 (by kernel_rfl) rfl #[.int .i64 a0_4, .int .i64 1] (by rfl) rfl rfl gl_ ?_
    with_reducible refine (spec_l1Put.calls k a0_4 1 t140 _ A9.out).mono ?_
    rintro e w19 ⟨rfl, hb⟩
    refine ⟨_, rfl, ?_⟩
    have n0_ := m_ (blk_below (kN BK134.out) hb)
    have n1_ := m_ (below_step (bN HB.out) hb)
    clear BK134
    clear HB
    have BK134 := n0_
    have HB := n1_
    clear n0_ n1_
    (try clear hb)
    (try clear hb2)
    (try clear hk)
    (try clear hi)
    refine hK.out _ _ ⟨bc BK134 0, bc BK134 1, bc BK134 2, bc BK134 3, bc BK134 4⟩ (fun hHeld => ?_)
    clear hK K
    refine np (h := ?_)
    refine pu 23 29 HT_ (h := ?_)
    refine pu 24 2 HT_ (h := ?_)
    refine done_ (done_of HT_.out (by kernel_rfl)) ?_
    try go_wp2
    go_ret
    exact ⟨by first | rfl | (simp [errW_none, errW_some] <;> rfl) | (simp [*, errW_none, errW_some] <;> rfl), by repeat (first | (with_reducible first | exact HB.out | apply below_alloc | apply pw_below_drewN | apply below_drew1 | refine below_set ?_ GE134.out) | exact HB.out)⟩
   ·rw [if_neg c10] at H
    exact absurd H (by simp)
  ·rw [if_neg c8] at H
   exact absurd H (by simp)
 ·replace c3 := Bool.eq_false_iff.mpr c3
  subst c3
  have H1 : (some (⟨#[]⟩ : ByteArray)) = some r := by rw [if_neg (show ¬ (false = true) by decide)] at H; exact H
  clear H
  have H := H1
  clear H1
  obtain rfl := Option.some.inj H
  go_enter Try.func21, Try.ntmps21
  go_wp2_with (first | ((with_reducible refine gate_dst (N := 1) rfl ?_); refine box_event ?hg (N := 1) ?hd (cs := #[.bool a0_0, .bool a0_1, .bool a0_2, .int .i64 a0_3, .int .i64 a0_4]) (t := 48) ?hr ?_; (case hd => rfl); (case hg => rfl); (case hr => first | (go_simp; done) | (go_simp; rfl)); intro gb134 hg w20 hbox hb; have n0_ := m_ (below_step (bN HB.out) hb); have n1_ := m_ (hbox); have n2_ := m_ ((by rw [hg]; exact (below_size (bN HB.out)) : w.heap.size ≤ gb134)); have n3_ := m_ ((by rw [hg]; exact (below_size (bN HB.out)) : w.heap.size ≤ gb134)); clear HB; have HB := n0_; have BK134 := n1_; have GW134 := n2_; have GE134 := n3_; clear n0_ n1_ n2_ n3_; clear hb hbox hg; have hcz21_0 : w20.cell? ⟨gb134, 0, none⟩ = some (.bool a0_0) := bc BK134 0; have hcz21_1 : w20.cell? ⟨gb134, 1, none⟩ = some (.bool a0_1) := bc BK134 1; have hcz21_2 : w20.cell? ⟨gb134, 2, none⟩ = some (.bool a0_2) := bc BK134 2; have hcz21_3 : w20.cell? ⟨gb134, 3, none⟩ = some (.int .i64 a0_3) := bc BK134 3; have hcz21_4 : w20.cell? ⟨gb134, 4, none⟩ = some (.int .i64 a0_4) := bc BK134 4; have hfz21_0 := blk_frozen BK134.out 0; have hfz21_1 := blk_frozen BK134.out 1; have hfz21_2 := blk_frozen BK134.out 2; have hfz21_3 := blk_frozen BK134.out 3; have hfz21_4 := blk_frozen BK134.out 4) | ((with_reducible refine gate_callee (f := 31) rfl ?_); refine goesL_ (some 4) rfl rfl Try.func31 (by kernel_rfl) rfl #[.agg #[.bool a0_0, .bool a0_1, .bool a0_2, .int .i64 a0_3, .int .i64 a0_4]] rfl gl_ ?_; (with_reducible refine (spec_FarmOk.calls a0_0 a0_1 a0_2 a0_3 a0_4 false _ A2.out).mono ?_); rintro e w22 ⟨rfl, hb⟩; refine ⟨_, rfl, ?_⟩; have n0_ := m_ (blk_below (kN BK134.out) hb); have n1_ := m_ (below_step (bN HB.out) hb); clear BK134; clear HB; have BK134 := n0_; have HB := n1_; clear n0_ n1_; (try clear hb); (try clear hb2); (try clear hk); (try clear hi)))
  go_ret
  exact ⟨by first | rfl | (simp [errW_none, errW_some] <;> rfl) | (simp [*, errW_none, errW_some] <;> rfl), by repeat (first | (with_reducible first | exact HB.out | apply below_alloc | apply pw_below_drewN | apply below_drew1 | refine below_set ?_ GE134.out) | exact HB.out)⟩

/-! ### spec_l15Farm: function 22 -/
def spec_l15Farm.f (k : Nat) (s0_0 : List Int) (s0_1 : Int) : Option (Bool × Bool × Bool × Int × Int × Int) := (spec_l1Rd_pick.f k s0_0 s0_1 6).bind fun bt142 => ((spec_l1Rd_pick.f k s0_0 bt142.2 3).bind fun bt144 => ((spec_l1Rd_pick.f k s0_0 bt144.2 4).bind fun bt146 => ((spec_l1Rd_pick.f k s0_0 bt146.2 12).bind fun bt148 => ((spec_l1Rd_pick.f k s0_0 bt148.2 256).bind fun bt150 => ((some (([bt148.1, bt150.1, 255, 0] : List Int) : List Int)).bind fun y152 => ((spec_l1Rd_pick.f k s0_0 bt150.2 4).bind fun bt155 => (if 0 ≤ bt155.1 then (if bt155.1 < (y152.length : Int) then (if bt144.1 = 0 then ((spec_l1Rd_pick.f k s0_0 bt155.2 2).bind fun bt159 => (some ((bt142.1 == 0), (bt159.1 == 0), (bt144.1 == 0), bt146.1, rd y152 bt155.1, bt159.2))) else (some ((bt142.1 == 0), false, (bt144.1 == 0), bt146.1, rd y152 bt155.1, bt155.2))) else (none)) else (none))))))))
theorem spec_l15Farm.mono : ∀ a0 a1 k, LeO (spec_l15Farm.f k a0 a1) (spec_l15Farm.f (k + 1) a0 a1) := by
 intro a0 a1 k
 unfold spec_l15Farm.f
 repeat' first
   | (with_reducible exact spec_l1Rd_pick.mono _ _ _ _)
   | (with_reducible exact LeO.refl _)
   | (with_reducible exact LeO.none _)
   | (with_reducible refine LeO.ite ?_ ?_)
   | (with_reducible refine LeO.bind ?_ (fun _ => ?_))
   | exact spec_l1Rd_pick.mono _ _ _ _
   | exact LeO.none _
   | refine LeO.ite ?_ ?_
   | refine LeO.bind ?_ (fun _ => ?_)
set_option maxHeartbeats 8000000 in
set_option maxRecDepth 100000 in
theorem spec_l15Farm.calls (k : Nat) (g : Nat) (s0_0 : List Int) (s0_1 : Int) (r1 : Bool) (r2 : Bool) (r3 : Bool) (r4 : Int) (r5 : Int) (r6 : Int) (w0 w : World) (hI : IsS43 w0 w g s0_0 s0_1) (hB : Below w0.heap.size w0 w) (h : spec_l15Farm.f k s0_0 s0_1 = some (r1, r2, r3, r4, r5, r6)) :
  Calls Try.prog 22 #[.pointer (some ⟨g, 0, none⟩)] w fun e w' => e = .returned (.agg #[.bool r1, .bool r2, .bool r3, .int .i64 r4, .int .i64 r5]) ∧ IsS43 w0 w' g s0_0 r6 ∧ Below w0.heap.size w0 w' ∧ KeepBut w w' g none := by
 have hu48 := Try.underlying48
 have HI0 := Aside0.mk hI
 have HK := m_ (KeepBut.refl w g none)
 have HL := Aside0.mk hB.size
 clear hI
 have HW0 := Aside0.mk hB.size
 have HB := Aside0.mk hB
 clear hB
 have H : ((spec_l1Rd_pick.f k s0_0 s0_1 6).bind fun bt142 => ((spec_l1Rd_pick.f k s0_0 bt142.2 3).bind fun bt144 => ((spec_l1Rd_pick.f k s0_0 bt144.2 4).bind fun bt146 => ((spec_l1Rd_pick.f k s0_0 bt146.2 12).bind fun bt148 => ((spec_l1Rd_pick.f k s0_0 bt148.2 256).bind fun bt150 => ((some (([bt148.1, bt150.1, 255, 0] : List Int) : List Int)).bind fun y152 => ((spec_l1Rd_pick.f k s0_0 bt150.2 4).bind fun bt155 => (if 0 ≤ bt155.1 then (if bt155.1 < (y152.length : Int) then (if bt144.1 = 0 then ((spec_l1Rd_pick.f k s0_0 bt155.2 2).bind fun bt159 => (some ((bt142.1 == 0), (bt159.1 == 0), (bt144.1 == 0), bt146.1, rd y152 bt155.1, bt159.2))) else (some ((bt142.1 == 0), false, (bt144.1 == 0), bt146.1, rd y152 bt155.1, bt155.2))) else (none)) else (none))))))))) = some (r1, r2, r3, r4, r5, r6) := h
 clear h
 replace H := Option.bind_eq_some_iff.mp H
 obtain ⟨⟨t142, t143⟩, A20, H⟩ := H
 replace H : ((spec_l1Rd_pick.f k s0_0 t143 3).bind fun bt144 => ((spec_l1Rd_pick.f k s0_0 bt144.2 4).bind fun bt146 => ((spec_l1Rd_pick.f k s0_0 bt146.2 12).bind fun bt148 => ((spec_l1Rd_pick.f k s0_0 bt148.2 256).bind fun bt150 => ((some (([bt148.1, bt150.1, 255, 0] : List Int) : List Int)).bind fun y152 => ((spec_l1Rd_pick.f k s0_0 bt150.2 4).bind fun bt155 => (if 0 ≤ bt155.1 then (if bt155.1 < (y152.length : Int) then (if bt144.1 = 0 then ((spec_l1Rd_pick.f k s0_0 bt155.2 2).bind fun bt159 => (some ((t142 == 0), (bt159.1 == 0), (bt144.1 == 0), bt146.1, rd y152 bt155.1, bt159.2))) else (some ((t142 == 0), false, (bt144.1 == 0), bt146.1, rd y152 bt155.1, bt155.2))) else (none)) else (none)))))))) = some (r1, r2, r3, r4, r5, r6) := H
 have A2 := Aside0.mk A20
 clear A20
 replace H := Option.bind_eq_some_iff.mp H
 obtain ⟨⟨t144, t145⟩, A30, H⟩ := H
 replace H : ((spec_l1Rd_pick.f k s0_0 t145 4).bind fun bt146 => ((spec_l1Rd_pick.f k s0_0 bt146.2 12).bind fun bt148 => ((spec_l1Rd_pick.f k s0_0 bt148.2 256).bind fun bt150 => ((some (([bt148.1, bt150.1, 255, 0] : List Int) : List Int)).bind fun y152 => ((spec_l1Rd_pick.f k s0_0 bt150.2 4).bind fun bt155 => (if 0 ≤ bt155.1 then (if bt155.1 < (y152.length : Int) then (if t144 = 0 then ((spec_l1Rd_pick.f k s0_0 bt155.2 2).bind fun bt159 => (some ((t142 == 0), (bt159.1 == 0), (t144 == 0), bt146.1, rd y152 bt155.1, bt159.2))) else (some ((t142 == 0), false, (t144 == 0), bt146.1, rd y152 bt155.1, bt155.2))) else (none)) else (none))))))) = some (r1, r2, r3, r4, r5, r6) := H
 have A3 := Aside0.mk A30
 clear A30
 replace H := Option.bind_eq_some_iff.mp H
 obtain ⟨⟨t146, t147⟩, A40, H⟩ := H
 replace H : ((spec_l1Rd_pick.f k s0_0 t147 12).bind fun bt148 => ((spec_l1Rd_pick.f k s0_0 bt148.2 256).bind fun bt150 => ((some (([bt148.1, bt150.1, 255, 0] : List Int) : List Int)).bind fun y152 => ((spec_l1Rd_pick.f k s0_0 bt150.2 4).bind fun bt155 => (if 0 ≤ bt155.1 then (if bt155.1 < (y152.length : Int) then (if t144 = 0 then ((spec_l1Rd_pick.f k s0_0 bt155.2 2).bind fun bt159 => (some ((t142 == 0), (bt159.1 == 0), (t144 == 0), t146, rd y152 bt155.1, bt159.2))) else (some ((t142 == 0), false, (t144 == 0), t146, rd y152 bt155.1, bt155.2))) else (none)) else (none)))))) = some (r1, r2, r3, r4, r5, r6) := H
 have A4 := Aside0.mk A40
 clear A40
 replace H := Option.bind_eq_some_iff.mp H
 obtain ⟨⟨t148, t149⟩, A50, H⟩ := H
 replace H : ((spec_l1Rd_pick.f k s0_0 t149 256).bind fun bt150 => ((some (([t148, bt150.1, 255, 0] : List Int) : List Int)).bind fun y152 => ((spec_l1Rd_pick.f k s0_0 bt150.2 4).bind fun bt155 => (if 0 ≤ bt155.1 then (if bt155.1 < (y152.length : Int) then (if t144 = 0 then ((spec_l1Rd_pick.f k s0_0 bt155.2 2).bind fun bt159 => (some ((t142 == 0), (bt159.1 == 0), (t144 == 0), t146, rd y152 bt155.1, bt159.2))) else (some ((t142 == 0), false, (t144 == 0), t146, rd y152 bt155.1, bt155.2))) else (none)) else (none))))) = some (r1, r2, r3, r4, r5, r6) := H
 have A5 := Aside0.mk A50
 clear A50
 replace H := Option.bind_eq_some_iff.mp H
 obtain ⟨⟨t150, t151⟩, A60, H⟩ := H
 replace H : ((some (([t148, t150, 255, 0] : List Int) : List Int)).bind fun y152 => ((spec_l1Rd_pick.f k s0_0 t151 4).bind fun bt155 => (if 0 ≤ bt155.1 then (if bt155.1 < (y152.length : Int) then (if t144 = 0 then ((spec_l1Rd_pick.f k s0_0 bt155.2 2).bind fun bt159 => (some ((t142 == 0), (bt159.1 == 0), (t144 == 0), t146, rd y152 bt155.1, bt159.2))) else (some ((t142 == 0), false, (t144 == 0), t146, rd y152 bt155.1, bt155.2))) else (none)) else (none)))) = some (r1, r2, r3, r4, r5, r6) := H
 have A6 := Aside0.mk A60
 clear A60
 obtain ⟨y152, hy152⟩ : ∃ y_ : List Int, y_ = (([t148, t150, 255, 0] : List Int)) := ⟨_, rfl⟩
 replace H : ((spec_l1Rd_pick.f k s0_0 t151 4).bind fun bt155 => (if 0 ≤ bt155.1 then (if bt155.1 < (y152.length : Int) then (if t144 = 0 then ((spec_l1Rd_pick.f k s0_0 bt155.2 2).bind fun bt159 => (some ((t142 == 0), (bt159.1 == 0), (t144 == 0), t146, rd y152 bt155.1, bt159.2))) else (some ((t142 == 0), false, (t144 == 0), t146, rd y152 bt155.1, bt155.2))) else (none)) else (none))) = some (r1, r2, r3, r4, r5, r6) := by first | (rw [hy152]; with_reducible exact H) | (have H2_ := (Option.bind_some _ _).symm.trans H; rw [hy152]; with_reducible exact H2_) | (have H2_ := (Option.bind_some _ _).symm.trans H; with_reducible exact H2_) | with_reducible exact H | (rw [hy152]; exact H) | exact H
 have Ny152 := Aside0.mk hy152
 clear hy152
 replace H := Option.bind_eq_some_iff.mp H
 obtain ⟨⟨t155, t156⟩, A70, H⟩ := H
 replace H : (if 0 ≤ t155 then (if t155 < (y152.length : Int) then (if t144 = 0 then ((spec_l1Rd_pick.f k s0_0 t156 2).bind fun bt159 => (some ((t142 == 0), (bt159.1 == 0), (t144 == 0), t146, rd y152 t155, bt159.2))) else (some ((t142 == 0), false, (t144 == 0), t146, rd y152 t155, t156))) else (none)) else (none)) = some (r1, r2, r3, r4, r5, r6) := H
 have A7 := Aside0.mk A70
 clear A70
 by_cases c8 : 0 ≤ t155
 ·rw [if_pos c8] at H
  have c8b0 : decide (0 ≤ t155) = true := decide_eq_true c8
  clear c8
  by_cases c9 : t155 < (y152.length : Int)
  ·rw [if_pos c9] at H
   have c9b0 : decide (t155 < (y152.length : Int)) = true := decide_eq_true c9
   clear c9
   by_cases c10 : t144 = 0
   ·rw [if_pos c10] at H
    have c10b0 : (t144 == 0) = true := beq_iff_eq.mpr c10
    have c10b1 : (t144 != 0) = false := bne_eq_false_iff_eq.mpr c10
    clear c10
    replace H := Option.bind_eq_some_iff.mp H
    obtain ⟨⟨t159, t160⟩, A110, H⟩ := H
    replace H : (some ((t142 == 0), (t159 == 0), (t144 == 0), t146, rd y152 t155, t160)) = some (r1, r2, r3, r4, r5, r6) := H
    have A11 := Aside0.mk A110
    clear A110
    simp only [Option.some.injEq, Prod.mk.injEq] at H
    obtain ⟨rfl, rfl, rfl, rfl, rfl, rfl⟩ := H
    go_enter Try.func22, Try.ntmps22
    go_wp2_with (first | ((with_reducible refine gate_dst (N := 2) rfl ?_); refine box_event ?hg (N := 2) ?hd (cs := #[.bool false, .bool false, .bool false, .int .i64 0, .int .i64 0]) (t := 48) ?hr ?_; (case hd => rfl); (case hg => rfl); (case hr => first | (go_simp; done) | (go_simp; rfl)); intro gb141 hg w12 hbox hb; have n0_ := m_ (IsS43.below (by repeat (first | (with_reducible first | exact HI0.out | apply IsS43.alloc | apply IsS43.drewN | apply IsS43.drew | apply IsS43.set_1) | exact HI0.out)) hb); have n1_ := m_ (KeepBut.trans (by repeat (first | (with_reducible first | exact HK.out | apply KeepBut.set_ | apply keep_drewN | apply keep_drew | apply keep_alloc) | exact HK.out)) (KeepBut.of_below hb g none) (.inl rfl)); have n2_ := m_ (below_step (by repeat (first | (with_reducible first | exact HB.out | apply below_alloc | apply pw_below_drewN | apply below_drew1 | refine below_set ?_ (IsS43.ge HI0.out)) | exact HB.out)) hb); have n3_ := m_ (hbox); have n4_ := m_ ((by rw [hg]; exact (keep_size (w := w) (g := g) (row := none) (by repeat (first | (with_reducible first | exact HK.out | apply KeepBut.set_ | apply keep_drewN | apply keep_drew | apply keep_alloc) | exact HK.out))) : w.heap.size ≤ gb141)); have n5_ := m_ ((Nat.le_trans HW0.out (by rw [hg]; exact (keep_size (w := w) (g := g) (row := none) (by repeat (first | (with_reducible first | exact HK.out | apply KeepBut.set_ | apply keep_drewN | apply keep_drew | apply keep_alloc) | exact HK.out))) : w.heap.size ≤ gb141) : w0.heap.size ≤ gb141)); have n6_ := m_ ((by rw [hg]; exact Nat.ne_of_lt (IsS43.lt (show IsS43 w0 _ g s0_0 s0_1 from by repeat (first | (with_reducible first | exact HI0.out | apply IsS43.alloc | apply IsS43.drewN | apply IsS43.drew | apply IsS43.set_1) | exact HI0.out))) : g ≠ gb141)); have n7_ := m_ ((by rw [hg]; exact Nat.ne_of_gt (IsS43.lt (show IsS43 w0 _ g s0_0 s0_1 from by repeat (first | (with_reducible first | exact HI0.out | apply IsS43.alloc | apply IsS43.drewN | apply IsS43.drew | apply IsS43.set_1) | exact HI0.out))) : gb141 ≠ g)); clear HI0; clear HK; clear HB; have HI0 := n0_; have HK := n1_; have HB := n2_; have BK141 := n3_; have GW141 := n4_; have GE141 := n5_; have NB0_141 := n6_; have NB141_0 := n7_; clear n0_ n1_ n2_ n3_ n4_ n5_ n6_ n7_; clear hb hbox hg) | ((with_reducible refine gate_callee (f := 10) rfl ?_); refine goesL_ (some 5) rfl rfl Try.func10 (by kernel_rfl) rfl #[.pointer (some ⟨g, 0, none⟩), .int .i64 6] rfl gl_ ?_; (with_reducible refine (spec_l1Rd_pick.calls k g s0_0 s0_1 6 t142 t143 w0 _ ?side1 ?side2 A2.out).mono ?_); (case side1 => repeat (first | (with_reducible first | exact HI0.out | apply IsS43.alloc | apply IsS43.drewN | apply IsS43.drew | apply IsS43.set_1 | refine IsS43.far ?_ NB0_141.out _) | exact HI0.out)); (case side2 => repeat (first | (with_reducible first | exact HB.out | apply below_alloc | apply pw_below_drewN | apply below_drew1 | refine below_set ?_ (IsS43.ge HI0.out) | refine below_set ?_ GE141.out) | exact HB.out)); rintro e w13 ⟨rfl, hi, hb, hk⟩; refine ⟨_, rfl, ?_⟩; have n0_ := m_ (KeepBut.blk hk (g' := gb141) (o := .cells #[.bool false, .bool false, .bool false, .int .i64 0, .int .i64 0] 48 (0, 0)) (kN BK141.out) NB141_0.out (by simp)); have n1_ := m_ (KeepBut.trans (by repeat (first | (with_reducible first | exact HK.out | apply KeepBut.set_ | apply keep_drewN | apply keep_drew | apply keep_alloc | refine keep_far ?_ GW141.out _) | exact HK.out)) hk (.inl rfl)); have n2_ := m_ (hb); have n3_ := m_ (hi); clear BK141; clear HK; clear HB; clear HI0; have BK141 := n0_; have HK := n1_; have HB := n2_; have HI0 := n3_; clear n0_ n1_ n2_ n3_; (try clear hb); (try clear hb2); (try clear hk); (try clear hi)) | ((with_reducible refine gate_callee (f := 10) rfl ?_); refine goesL_ (some 8) rfl rfl Try.func10 (by kernel_rfl) rfl #[.pointer (some ⟨g, 0, none⟩), .int .i64 3] rfl gl_ ?_; (with_reducible refine (spec_l1Rd_pick.calls k g s0_0 t143 3 t144 t145 w0 _ ?side1 ?side2 A3.out).mono ?_); (case side1 => repeat (first | (with_reducible first | exact HI0.out | apply IsS43.alloc | apply IsS43.drewN | apply IsS43.drew | apply IsS43.set_1 | refine IsS43.far ?_ NB0_141.out _) | exact HI0.out)); (case side2 => repeat (first | (with_reducible first | exact HB.out | apply below_alloc | apply pw_below_drewN | apply below_drew1 | refine below_set ?_ (IsS43.ge HI0.out) | refine below_set ?_ GE141.out) | exact HB.out)); rintro e w14 ⟨rfl, hi, hb, hk⟩; refine ⟨_, rfl, ?_⟩; have n0_ := m_ (KeepBut.blk hk (g' := gb141) (o := .cells #[.bool false, .bool false, .bool false, .int .i64 0, .int .i64 0] 48 (0, 0)) (kN BK141.out) NB141_0.out (by simp)); have n1_ := m_ (KeepBut.trans (by repeat (first | (with_reducible first | exact HK.out | apply KeepBut.set_ | apply keep_drewN | apply keep_drew | apply keep_alloc | refine keep_far ?_ GW141.out _) | exact HK.out)) hk (.inl rfl)); have n2_ := m_ (hb); have n3_ := m_ (hi); clear BK141; clear HK; clear HB; clear HI0; have BK141 := n0_; have HK := n1_; have HB := n2_; have HI0 := n3_; clear n0_ n1_ n2_ n3_; (try clear hb); (try clear hb2); (try clear hk); (try clear hi)) | ((with_reducible refine gate_callee (f := 10) rfl ?_); refine goesL_ (some 11) rfl rfl Try.func10 (by kernel_rfl) rfl #[.pointer (some ⟨g, 0, none⟩), .int .i64 4] rfl gl_ ?_; (with_reducible refine (spec_l1Rd_pick.calls k g s0_0 t145 4 t146 t147 w0 _ ?side1 ?side2 A4.out).mono ?_); (case side1 => repeat (first | (with_reducible first | exact HI0.out | apply IsS43.alloc | apply IsS43.drewN | apply IsS43.drew | apply IsS43.set_1 | refine IsS43.far ?_ NB0_141.out _) | exact HI0.out)); (case side2 => repeat (first | (with_reducible first | exact HB.out | apply below_alloc | apply pw_below_drewN | apply below_drew1 | refine below_set ?_ (IsS43.ge HI0.out) | refine below_set ?_ GE141.out) | exact HB.out)); rintro e w15 ⟨rfl, hi, hb, hk⟩; refine ⟨_, rfl, ?_⟩; have n0_ := m_ (KeepBut.blk hk (g' := gb141) (o := .cells #[.bool false, .bool false, .bool false, .int .i64 0, .int .i64 0] 48 (0, 0)) (kN BK141.out) NB141_0.out (by simp)); have n1_ := m_ (KeepBut.trans (by repeat (first | (with_reducible first | exact HK.out | apply KeepBut.set_ | apply keep_drewN | apply keep_drew | apply keep_alloc | refine keep_far ?_ GW141.out _) | exact HK.out)) hk (.inl rfl)); have n2_ := m_ (hb); have n3_ := m_ (hi); clear BK141; clear HK; clear HB; clear HI0; have BK141 := n0_; have HK := n1_; have HB := n2_; have HI0 := n3_; clear n0_ n1_ n2_ n3_; (try clear hb); (try clear hb2); (try clear hk); (try clear hi)) | ((with_reducible refine gate_callee (f := 10) rfl ?_); refine goesL_ (some 13) rfl rfl Try.func10 (by kernel_rfl) rfl #[.pointer (some ⟨g, 0, none⟩), .int .i64 12] rfl gl_ ?_; (with_reducible refine (spec_l1Rd_pick.calls k g s0_0 t147 12 t148 t149 w0 _ ?side1 ?side2 A5.out).mono ?_); (case side1 => repeat (first | (with_reducible first | exact HI0.out | apply IsS43.alloc | apply IsS43.drewN | apply IsS43.drew | apply IsS43.set_1 | refine IsS43.far ?_ NB0_141.out _) | exact HI0.out)); (case side2 => repeat (first | (with_reducible first | exact HB.out | apply below_alloc | apply pw_below_drewN | apply below_drew1 | refine below_set ?_ (IsS43.ge HI0.out) | refine below_set ?_ GE141.out) | exact HB.out)); rintro e w16 ⟨rfl, hi, hb, hk⟩; refine ⟨_, rfl, ?_⟩; have n0_ := m_ (KeepBut.blk hk (g' := gb141) (o := .cells #[.bool false, .bool false, .bool false, .int .i64 0, .int .i64 0] 48 (0, 0)) (kN BK141.out) NB141_0.out (by simp)); have n1_ := m_ (KeepBut.trans (by repeat (first | (with_reducible first | exact HK.out | apply KeepBut.set_ | apply keep_drewN | apply keep_drew | apply keep_alloc | refine keep_far ?_ GW141.out _) | exact HK.out)) hk (.inl rfl)); have n2_ := m_ (hb); have n3_ := m_ (hi); clear BK141; clear HK; clear HB; clear HI0; have BK141 := n0_; have HK := n1_; have HB := n2_; have HI0 := n3_; clear n0_ n1_ n2_ n3_; (try clear hb); (try clear hb2); (try clear hk); (try clear hi)) | ((with_reducible refine gate_callee (f := 10) rfl ?_); refine goesL_ (some 15) rfl rfl Try.func10 (by kernel_rfl) rfl #[.pointer (some ⟨g, 0, none⟩), .int .i64 256] rfl gl_ ?_; (with_reducible refine (spec_l1Rd_pick.calls k g s0_0 t149 256 t150 t151 w0 _ ?side1 ?side2 A6.out).mono ?_); (case side1 => repeat (first | (with_reducible first | exact HI0.out | apply IsS43.alloc | apply IsS43.drewN | apply IsS43.drew | apply IsS43.set_1 | refine IsS43.far ?_ NB0_141.out _) | exact HI0.out)); (case side2 => repeat (first | (with_reducible first | exact HB.out | apply below_alloc | apply pw_below_drewN | apply below_drew1 | refine below_set ?_ (IsS43.ge HI0.out) | refine below_set ?_ GE141.out) | exact HB.out)); rintro e w17 ⟨rfl, hi, hb, hk⟩; refine ⟨_, rfl, ?_⟩; have n0_ := m_ (KeepBut.blk hk (g' := gb141) (o := .cells #[.bool false, .bool false, .bool false, .int .i64 0, .int .i64 0] 48 (0, 0)) (kN BK141.out) NB141_0.out (by simp)); have n1_ := m_ (KeepBut.trans (by repeat (first | (with_reducible first | exact HK.out | apply KeepBut.set_ | apply keep_drewN | apply keep_drew | apply keep_alloc | refine keep_far ?_ GW141.out _) | exact HK.out)) hk (.inl rfl)); have n2_ := m_ (hb); have n3_ := m_ (hi); clear BK141; clear HK; clear HB; clear HI0; have BK141 := n0_; have HK := n1_; have HB := n2_; have HI0 := n3_; clear n0_ n1_ n2_ n3_; (try clear hb); (try clear hb2); (try clear hk); (try clear hi)) | ((with_reducible refine gate_dst (N := 16) rfl ?_); refine Kd.R_lit (Kd.int .i64) _ 3 ?hg (N := 16) ?hd (xs := ([t148, t150, 255, 0] : List Int)) (inner := [.int .i64 t148, .int .i64 t150, .int .i64 255, .int .i64 0]) (ok := fun _ => True) (okp := fun _ => True) ?hr ?hp (fun _ hk => hk) trivial (Below.refl _ _) (Nat.le_refl _) (by simp) ?_; (case hd => rfl); (case hg => rfl); (case hr => first | (go_simp; done) | (go_simp; rfl)); (case hp => exact (Reps.one (show Kd.M (Kd.int .i64) _ _ _ t148 [.int .i64 t148] from rfl) (Reps.one (show Kd.M (Kd.int .i64) _ _ _ t150 [.int .i64 t150] from rfl) (Reps.one (show Kd.M (Kd.int .i64) _ _ _ 255 [.int .i64 255] from rfl) (Reps.one (show Kd.M (Kd.int .i64) _ _ _ 0 [.int .i64 0] from rfl) (Reps.none _ _)))))); intro v153 w18 ho19 hb hg_ hnew_; clear hg_ hnew_; (first | rw [← Ny152.out] at ho19 | (simp only [Int.reduceToNat] at ho19; rw [← Ny152.out] at ho19)); have n0_ := m_ (Kd.R_lower ho19 (keep_size (w := w) (g := g) (row := none) (by repeat (first | (with_reducible first | exact HK.out | apply KeepBut.set_ | apply keep_drewN | apply keep_drew | apply keep_alloc | refine keep_far ?_ GW141.out _) | exact HK.out)))); have n1_ := m_ (IsS43.below (by repeat (first | (with_reducible first | exact HI0.out | apply IsS43.alloc | apply IsS43.drewN | apply IsS43.drew | apply IsS43.set_1 | refine IsS43.far ?_ NB0_141.out _) | exact HI0.out)) hb); have n2_ := m_ (blk_below (kN BK141.out) hb); have n3_ := m_ (KeepBut.trans (by repeat (first | (with_reducible first | exact HK.out | apply KeepBut.set_ | apply keep_drewN | apply keep_drew | apply keep_alloc | refine keep_far ?_ GW141.out _) | exact HK.out)) (KeepBut.of_below hb g none) (.inl rfl)); have n4_ := m_ (below_step (by repeat (first | (with_reducible first | exact HB.out | apply below_alloc | apply pw_below_drewN | apply below_drew1 | refine below_set ?_ (IsS43.ge HI0.out) | refine below_set ?_ GE141.out) | exact HB.out)) hb); clear HI0; clear BK141; clear HK; clear HB; have HO154 := n0_; have HI0 := n1_; have BK141 := n2_; have HK := n3_; have HB := n4_; clear n0_ n1_ n2_ n3_ n4_; clear hb ho19) | ((with_reducible refine gate_callee (f := 10) rfl ?_); refine goesL_ (some 18) rfl rfl Try.func10 (by kernel_rfl) rfl #[.pointer (some ⟨g, 0, none⟩), .int .i64 4] rfl gl_ ?_; (with_reducible refine (spec_l1Rd_pick.calls k g s0_0 t151 4 t155 t156 w0 _ ?side1 ?side2 A7.out).mono ?_); (case side1 => repeat (first | (with_reducible first | exact HI0.out | apply IsS43.alloc | apply IsS43.drewN | apply IsS43.drew | apply IsS43.set_1 | refine IsS43.far ?_ NB0_141.out _) | exact HI0.out)); (case side2 => repeat (first | (with_reducible first | exact HB.out | apply below_alloc | apply pw_below_drewN | apply below_drew1 | refine below_set ?_ (IsS43.ge HI0.out) | refine below_set ?_ GE141.out) | exact HB.out)); rintro e w20 ⟨rfl, hi, hb, hk⟩; refine ⟨_, rfl, ?_⟩; have n0_ := m_ (KeepBut.blk hk (g' := gb141) (o := .cells #[.bool false, .bool false, .bool false, .int .i64 0, .int .i64 0] 48 (0, 0)) (kN BK141.out) NB141_0.out (by simp)); have n1_ := m_ (Kd.R_mono (Kd.R_keep (IsS43.apart (show IsS43 w0 _ g s0_0 t151 from by repeat (first | (with_reducible first | exact HI0.out | apply IsS43.alloc | apply IsS43.drewN | apply IsS43.drew | apply IsS43.set_1 | refine IsS43.far ?_ NB0_141.out _) | exact HI0.out)) (rN HO154.out) (by decide)) hk (fun _ h => h.2)) (fun _ h => h.1)); have n2_ := m_ (KeepBut.trans (by repeat (first | (with_reducible first | exact HK.out | apply KeepBut.set_ | apply keep_drewN | apply keep_drew | apply keep_alloc | refine keep_far ?_ GW141.out _) | exact HK.out)) hk (.inl rfl)); have n3_ := m_ (hb); have n4_ := m_ (hi); clear BK141; clear HO154; clear HK; clear HB; clear HI0; have BK141 := n0_; have HO154 := n1_; have HK := n2_; have HB := n3_; have HI0 := n4_; clear n0_ n1_ n2_ n3_ n4_; (try clear hb); (try clear hb2); (try clear hk); (try clear hi); obtain ⟨Ao21, co21, eo21⟩ := Kd.R_slice HO154.out; subst eo21; have p157 : 0 ≤ (t155 : Int) := of_decide_eq_true (by first | (with_reducible assumption) | assumption); have q157 : t155 < (y152.length : Int) := of_decide_eq_true (by first | (with_reducible assumption) | assumption); obtain ⟨ad157, e157, hx157_0⟩ := Kd.at_int (Kd.R_reads' HO154.out).2.2 t155 p157 q157; cases e157; replace p157 := eq_true p157; replace q157 := eq_true q157) | ((with_reducible refine gate_dst (N := 3) rfl ?_); refine box_event ?hg (N := 3) ?hd (cs := #[.bool false, .bool false, .bool false, .int .i64 0, .int .i64 0]) (t := 48) ?hr ?_; (case hd => rfl); (case hg => rfl); (case hr => first | (go_simp; done) | (go_simp; rfl)); intro gb158 hg w22 hbox hb; have n0_ := m_ (Kd.R_below (rN HO154.out) hb); have n1_ := m_ (IsS43.below (by repeat (first | (with_reducible first | exact HI0.out | apply IsS43.alloc | apply IsS43.drewN | apply IsS43.drew | apply IsS43.set_1 | refine IsS43.far ?_ NB0_141.out _) | exact HI0.out)) hb); have n2_ := m_ (blk_below (kN BK141.out) hb); have n3_ := m_ (KeepBut.trans (by repeat (first | (with_reducible first | exact HK.out | apply KeepBut.set_ | apply keep_drewN | apply keep_drew | apply keep_alloc | refine keep_far ?_ GW141.out _) | exact HK.out)) (KeepBut.of_below hb g none) (.inl rfl)); have n4_ := m_ (below_step (by repeat (first | (with_reducible first | exact HB.out | apply below_alloc | apply pw_below_drewN | apply below_drew1 | refine below_set ?_ (IsS43.ge HI0.out) | refine below_set ?_ GE141.out) | exact HB.out)) hb); have n5_ := m_ (hbox); have n6_ := m_ ((by rw [hg]; exact (keep_size (w := w) (g := g) (row := none) (by repeat (first | (with_reducible first | exact HK.out | apply KeepBut.set_ | apply keep_drewN | apply keep_drew | apply keep_alloc | refine keep_far ?_ GW141.out _) | exact HK.out))) : w.heap.size ≤ gb158)); have n7_ := m_ ((Nat.le_trans HW0.out (by rw [hg]; exact (keep_size (w := w) (g := g) (row := none) (by repeat (first | (with_reducible first | exact HK.out | apply KeepBut.set_ | apply keep_drewN | apply keep_drew | apply keep_alloc | refine keep_far ?_ GW141.out _) | exact HK.out))) : w.heap.size ≤ gb158) : w0.heap.size ≤ gb158)); have n8_ := m_ (nL hg BK141.out); have n9_ := m_ (nG hg BK141.out); have n10_ := m_ ((by rw [hg]; exact Nat.ne_of_lt (IsS43.lt (show IsS43 w0 _ g s0_0 t156 from by repeat (first | (with_reducible first | exact HI0.out | apply IsS43.alloc | apply IsS43.drewN | apply IsS43.drew | apply IsS43.set_1 | refine IsS43.far ?_ NB0_141.out _) | exact HI0.out))) : g ≠ gb158)); have n11_ := m_ ((by rw [hg]; exact Nat.ne_of_gt (IsS43.lt (show IsS43 w0 _ g s0_0 t156 from by repeat (first | (with_reducible first | exact HI0.out | apply IsS43.alloc | apply IsS43.drewN | apply IsS43.drew | apply IsS43.set_1 | refine IsS43.far ?_ NB0_141.out _) | exact HI0.out))) : gb158 ≠ g)); clear HO154; clear HI0; clear BK141; clear HK; clear HB; have HO154 := n0_; have HI0 := n1_; have BK141 := n2_; have HK := n3_; have HB := n4_; have BK158 := n5_; have GW158 := n6_; have GE158 := n7_; have NB141_158 := n8_; have NB158_141 := n9_; have NB0_158 := n10_; have NB158_0 := n11_; clear n0_ n1_ n2_ n3_ n4_ n5_ n6_ n7_ n8_ n9_ n10_ n11_; clear hb hbox hg; have hnb23 := NB158_141.out; have hnc23 := NB141_158.out; have hnb24 := NB158_0.out; have hnc24 := NB0_158.out; have hcz25_0 : w22.cell? ⟨gb158, 0, none⟩ = some (.bool false) := bc BK158 0; have hcz25_1 : w22.cell? ⟨gb158, 1, none⟩ = some (.bool false) := bc BK158 1; have hcz25_2 : w22.cell? ⟨gb158, 2, none⟩ = some (.bool false) := bc BK158 2; have hcz25_3 : w22.cell? ⟨gb158, 3, none⟩ = some (.int .i64 0) := bc BK158 3; have hcz25_4 : w22.cell? ⟨gb158, 4, none⟩ = some (.int .i64 0) := bc BK158 4; have hfz25_0 := blk_frozen BK158.out 0; have hfz25_1 := blk_frozen BK158.out 1; have hfz25_2 := blk_frozen BK158.out 2; have hfz25_3 := blk_frozen BK158.out 3; have hfz25_4 := blk_frozen BK158.out 4) | (go_at_call 10; (with_reducible refine (spec_l1Rd_pick.calls k g s0_0 t156 2 t159 t160 w0 _ ?side1 ?side2 A11.out).mono ?_); (case side1 => repeat (first | (with_reducible first | exact HI0.out | apply IsS43.alloc | apply IsS43.drewN | apply IsS43.drew | apply IsS43.set_1 | refine IsS43.far ?_ NB0_141.out _ | refine IsS43.far ?_ NB0_158.out _) | exact HI0.out)); (case side2 => repeat (first | (with_reducible first | exact HB.out | apply below_alloc | apply pw_below_drewN | apply below_drew1 | refine below_set ?_ (IsS43.ge HI0.out) | refine below_set ?_ GE141.out | refine below_set ?_ GE158.out) | exact HB.out)); rintro e w26 ⟨rfl, hi, hb, hk⟩; have n0_ := m_ (KeepBut.blk hk (g' := gb141) (o := .cells #[.bool false, .bool false, .bool false, .int .i64 0, .int .i64 0] 48 (0, 0)) (kF BK141.out NB141_158.out) NB141_0.out (by simp)); have n1_ := m_ (Kd.R_mono (Kd.R_keep (IsS43.apart (show IsS43 w0 _ g s0_0 t156 from by repeat (first | (with_reducible first | exact HI0.out | apply IsS43.alloc | apply IsS43.drewN | apply IsS43.drew | apply IsS43.set_1 | refine IsS43.far ?_ NB0_141.out _ | refine IsS43.far ?_ NB0_158.out _) | exact HI0.out)) (frN (Kd.R_types HO154.out BK158.out (by decide))) (by decide)) hk (fun _ h => h.2)) (fun _ h => h.1)); have n2_ := m_ (KeepBut.blk hk (g' := gb158) (o := .cells #[.bool (t142 == 0), .bool false, .bool true, .int .i64 t146, .int .i64 (rd y152 t155)] 48 (0, 0)) (kP BK158.out) NB158_0.out (by simp)); have n3_ := m_ (KeepBut.trans (by repeat (first | (with_reducible first | exact HK.out | apply KeepBut.set_ | apply keep_drewN | apply keep_drew | apply keep_alloc | refine keep_far ?_ GW141.out _ | refine keep_far ?_ GW158.out _) | exact HK.out)) hk (.inl rfl)); have n4_ := m_ (hb); have n5_ := m_ (hi); clear BK141; clear HO154; clear BK158; clear HK; clear HB; clear HI0; have BK141 := n0_; have HO154 := n1_; have BK158 := n2_; have HK := n3_; have HB := n4_; have HI0 := n5_; clear n0_ n1_ n2_ n3_ n4_ n5_; (try clear hb); (try clear hb2); (try clear hk); (try clear hi); have hcz27_0 : w26.cell? ⟨gb158, 0, none⟩ = some (.bool (t142 == 0)) := bc BK158 0; have hcz27_1 : w26.cell? ⟨gb158, 1, none⟩ = some (.bool false) := bc BK158 1; have hcz27_2 : w26.cell? ⟨gb158, 2, none⟩ = some (.bool true) := bc BK158 2; have hcz27_3 : w26.cell? ⟨gb158, 3, none⟩ = some (.int .i64 t146) := bc BK158 3; have hcz27_4 : w26.cell? ⟨gb158, 4, none⟩ = some (.int .i64 (rd y152 t155)) := bc BK158 4; have hfz27_0 := blk_frozen BK158.out 0; have hfz27_1 := blk_frozen BK158.out 1; have hfz27_2 := blk_frozen BK158.out 2; have hfz27_3 := blk_frozen BK158.out 3; have hfz27_4 := blk_frozen BK158.out 4; have hnb28 := NB141_0.out; have hnc28 := NB0_141.out; have hcz29_0 : w26.cell? ⟨gb141, 0, none⟩ = some (.bool false) := bc BK141 0; have hcz29_1 : w26.cell? ⟨gb141, 1, none⟩ = some (.bool false) := bc BK141 1; have hcz29_2 : w26.cell? ⟨gb141, 2, none⟩ = some (.bool false) := bc BK141 2; have hcz29_3 : w26.cell? ⟨gb141, 3, none⟩ = some (.int .i64 0) := bc BK141 3; have hcz29_4 : w26.cell? ⟨gb141, 4, none⟩ = some (.int .i64 0) := bc BK141 4; have hfz29_0 := blk_frozen BK141.out 0; have hfz29_1 := blk_frozen BK141.out 1; have hfz29_2 := blk_frozen BK141.out 2; have hfz29_3 := blk_frozen BK141.out 3; have hfz29_4 := blk_frozen BK141.out 4))
    refine bodyPost_ret (results_cell_row rfl _ _ gb141 48 #[.bool (t142 == 0), .bool (t159 == 0), .bool true, .int .i64 t146, .int .i64 (rd y152 t155)] (0, 0) _ rfl (kR BK141.out NB141_158.out) Try.underlying48 rfl (by kernel_rfl)) rfl ?_
    exact ⟨by first | rfl | (simp [errW_none, errW_some] <;> rfl) | (simp [*, errW_none, errW_some] <;> rfl), by repeat (first | (with_reducible first | exact HI0.out | apply IsS43.alloc | apply IsS43.drewN | apply IsS43.drew | apply IsS43.set_1 | refine IsS43.far ?_ NB0_141.out _ | refine IsS43.far ?_ NB0_158.out _) | exact HI0.out), by repeat (first | (with_reducible first | exact HB.out | apply below_alloc | apply pw_below_drewN | apply below_drew1 | refine below_set ?_ (IsS43.ge HI0.out) | refine below_set ?_ GE141.out | refine below_set ?_ GE158.out) | exact HB.out), by repeat (first | (with_reducible first | exact HK.out | apply KeepBut.set_ | apply keep_drewN | apply keep_drew | apply keep_alloc | refine keep_far ?_ GW141.out _ | refine keep_far ?_ GW158.out _) | exact HK.out)⟩
   ·rw [if_neg c10] at H
    have c10b0 : (t144 == 0) = false := beq_eq_false_iff_ne.mpr c10
    have c10b1 : (t144 != 0) = true := bne_iff_ne.mpr c10
    simp only [Option.some.injEq, Prod.mk.injEq] at H
    obtain ⟨rfl, rfl, rfl, rfl, rfl, rfl⟩ := H
    go_enter Try.func22, Try.ntmps22
    go_wp2_with (first | ((with_reducible refine gate_dst (N := 2) rfl ?_); refine box_event ?hg (N := 2) ?hd (cs := #[.bool false, .bool false, .bool false, .int .i64 0, .int .i64 0]) (t := 48) ?hr ?_; (case hd => rfl); (case hg => rfl); (case hr => first | (go_simp; done) | (go_simp; rfl)); intro gb141 hg w30 hbox hb; have n0_ := m_ (IsS43.below (by repeat (first | (with_reducible first | exact HI0.out | apply IsS43.alloc | apply IsS43.drewN | apply IsS43.drew | apply IsS43.set_1) | exact HI0.out)) hb); have n1_ := m_ (KeepBut.trans (by repeat (first | (with_reducible first | exact HK.out | apply KeepBut.set_ | apply keep_drewN | apply keep_drew | apply keep_alloc) | exact HK.out)) (KeepBut.of_below hb g none) (.inl rfl)); have n2_ := m_ (below_step (by repeat (first | (with_reducible first | exact HB.out | apply below_alloc | apply pw_below_drewN | apply below_drew1 | refine below_set ?_ (IsS43.ge HI0.out)) | exact HB.out)) hb); have n3_ := m_ (hbox); have n4_ := m_ ((by rw [hg]; exact (keep_size (w := w) (g := g) (row := none) (by repeat (first | (with_reducible first | exact HK.out | apply KeepBut.set_ | apply keep_drewN | apply keep_drew | apply keep_alloc) | exact HK.out))) : w.heap.size ≤ gb141)); have n5_ := m_ ((Nat.le_trans HW0.out (by rw [hg]; exact (keep_size (w := w) (g := g) (row := none) (by repeat (first | (with_reducible first | exact HK.out | apply KeepBut.set_ | apply keep_drewN | apply keep_drew | apply keep_alloc) | exact HK.out))) : w.heap.size ≤ gb141) : w0.heap.size ≤ gb141)); have n6_ := m_ ((by rw [hg]; exact Nat.ne_of_lt (IsS43.lt (show IsS43 w0 _ g s0_0 s0_1 from by repeat (first | (with_reducible first | exact HI0.out | apply IsS43.alloc | apply IsS43.drewN | apply IsS43.drew | apply IsS43.set_1) | exact HI0.out))) : g ≠ gb141)); have n7_ := m_ ((by rw [hg]; exact Nat.ne_of_gt (IsS43.lt (show IsS43 w0 _ g s0_0 s0_1 from by repeat (first | (with_reducible first | exact HI0.out | apply IsS43.alloc | apply IsS43.drewN | apply IsS43.drew | apply IsS43.set_1) | exact HI0.out))) : gb141 ≠ g)); clear HI0; clear HK; clear HB; have HI0 := n0_; have HK := n1_; have HB := n2_; have BK141 := n3_; have GW141 := n4_; have GE141 := n5_; have NB0_141 := n6_; have NB141_0 := n7_; clear n0_ n1_ n2_ n3_ n4_ n5_ n6_ n7_; clear hb hbox hg) | ((with_reducible refine gate_callee (f := 10) rfl ?_); refine goesL_ (some 5) rfl rfl Try.func10 (by kernel_rfl) rfl #[.pointer (some ⟨g, 0, none⟩), .int .i64 6] rfl gl_ ?_; (with_reducible refine (spec_l1Rd_pick.calls k g s0_0 s0_1 6 t142 t143 w0 _ ?side1 ?side2 A2.out).mono ?_); (case side1 => repeat (first | (with_reducible first | exact HI0.out | apply IsS43.alloc | apply IsS43.drewN | apply IsS43.drew | apply IsS43.set_1 | refine IsS43.far ?_ NB0_141.out _) | exact HI0.out)); (case side2 => repeat (first | (with_reducible first | exact HB.out | apply below_alloc | apply pw_below_drewN | apply below_drew1 | refine below_set ?_ (IsS43.ge HI0.out) | refine below_set ?_ GE141.out) | exact HB.out)); rintro e w31 ⟨rfl, hi, hb, hk⟩; refine ⟨_, rfl, ?_⟩; have n0_ := m_ (KeepBut.blk hk (g' := gb141) (o := .cells #[.bool false, .bool false, .bool false, .int .i64 0, .int .i64 0] 48 (0, 0)) (kN BK141.out) NB141_0.out (by simp)); have n1_ := m_ (KeepBut.trans (by repeat (first | (with_reducible first | exact HK.out | apply KeepBut.set_ | apply keep_drewN | apply keep_drew | apply keep_alloc | refine keep_far ?_ GW141.out _) | exact HK.out)) hk (.inl rfl)); have n2_ := m_ (hb); have n3_ := m_ (hi); clear BK141; clear HK; clear HB; clear HI0; have BK141 := n0_; have HK := n1_; have HB := n2_; have HI0 := n3_; clear n0_ n1_ n2_ n3_; (try clear hb); (try clear hb2); (try clear hk); (try clear hi)) | ((with_reducible refine gate_callee (f := 10) rfl ?_); refine goesL_ (some 8) rfl rfl Try.func10 (by kernel_rfl) rfl #[.pointer (some ⟨g, 0, none⟩), .int .i64 3] rfl gl_ ?_; (with_reducible refine (spec_l1Rd_pick.calls k g s0_0 t143 3 t144 t145 w0 _ ?side1 ?side2 A3.out).mono ?_); (case side1 => repeat (first | (with_reducible first | exact HI0.out | apply IsS43.alloc | apply IsS43.drewN | apply IsS43.drew | apply IsS43.set_1 | refine IsS43.far ?_ NB0_141.out _) | exact HI0.out)); (case side2 => repeat (first | (with_reducible first | exact HB.out | apply below_alloc | apply pw_below_drewN | apply below_drew1 | refine below_set ?_ (IsS43.ge HI0.out) | refine below_set ?_ GE141.out) | exact HB.out)); rintro e w32 ⟨rfl, hi, hb, hk⟩; refine ⟨_, rfl, ?_⟩; have n0_ := m_ (KeepBut.blk hk (g' := gb141) (o := .cells #[.bool false, .bool false, .bool false, .int .i64 0, .int .i64 0] 48 (0, 0)) (kN BK141.out) NB141_0.out (by simp)); have n1_ := m_ (KeepBut.trans (by repeat (first | (with_reducible first | exact HK.out | apply KeepBut.set_ | apply keep_drewN | apply keep_drew | apply keep_alloc | refine keep_far ?_ GW141.out _) | exact HK.out)) hk (.inl rfl)); have n2_ := m_ (hb); have n3_ := m_ (hi); clear BK141; clear HK; clear HB; clear HI0; have BK141 := n0_; have HK := n1_; have HB := n2_; have HI0 := n3_; clear n0_ n1_ n2_ n3_; (try clear hb); (try clear hb2); (try clear hk); (try clear hi)) | ((with_reducible refine gate_callee (f := 10) rfl ?_); refine goesL_ (some 11) rfl rfl Try.func10 (by kernel_rfl) rfl #[.pointer (some ⟨g, 0, none⟩), .int .i64 4] rfl gl_ ?_; (with_reducible refine (spec_l1Rd_pick.calls k g s0_0 t145 4 t146 t147 w0 _ ?side1 ?side2 A4.out).mono ?_); (case side1 => repeat (first | (with_reducible first | exact HI0.out | apply IsS43.alloc | apply IsS43.drewN | apply IsS43.drew | apply IsS43.set_1 | refine IsS43.far ?_ NB0_141.out _) | exact HI0.out)); (case side2 => repeat (first | (with_reducible first | exact HB.out | apply below_alloc | apply pw_below_drewN | apply below_drew1 | refine below_set ?_ (IsS43.ge HI0.out) | refine below_set ?_ GE141.out) | exact HB.out)); rintro e w33 ⟨rfl, hi, hb, hk⟩; refine ⟨_, rfl, ?_⟩; have n0_ := m_ (KeepBut.blk hk (g' := gb141) (o := .cells #[.bool false, .bool false, .bool false, .int .i64 0, .int .i64 0] 48 (0, 0)) (kN BK141.out) NB141_0.out (by simp)); have n1_ := m_ (KeepBut.trans (by repeat (first | (with_reducible first | exact HK.out | apply KeepBut.set_ | apply keep_drewN | apply keep_drew | apply keep_alloc | refine keep_far ?_ GW141.out _) | exact HK.out)) hk (.inl rfl)); have n2_ := m_ (hb); have n3_ := m_ (hi); clear BK141; clear HK; clear HB; clear HI0; have BK141 := n0_; have HK := n1_; have HB := n2_; have HI0 := n3_; clear n0_ n1_ n2_ n3_; (try clear hb); (try clear hb2); (try clear hk); (try clear hi)) | ((with_reducible refine gate_callee (f := 10) rfl ?_); refine goesL_ (some 13) rfl rfl Try.func10 (by kernel_rfl) rfl #[.pointer (some ⟨g, 0, none⟩), .int .i64 12] rfl gl_ ?_; (with_reducible refine (spec_l1Rd_pick.calls k g s0_0 t147 12 t148 t149 w0 _ ?side1 ?side2 A5.out).mono ?_); (case side1 => repeat (first | (with_reducible first | exact HI0.out | apply IsS43.alloc | apply IsS43.drewN | apply IsS43.drew | apply IsS43.set_1 | refine IsS43.far ?_ NB0_141.out _) | exact HI0.out)); (case side2 => repeat (first | (with_reducible first | exact HB.out | apply below_alloc | apply pw_below_drewN | apply below_drew1 | refine below_set ?_ (IsS43.ge HI0.out) | refine below_set ?_ GE141.out) | exact HB.out)); rintro e w34 ⟨rfl, hi, hb, hk⟩; refine ⟨_, rfl, ?_⟩; have n0_ := m_ (KeepBut.blk hk (g' := gb141) (o := .cells #[.bool false, .bool false, .bool false, .int .i64 0, .int .i64 0] 48 (0, 0)) (kN BK141.out) NB141_0.out (by simp)); have n1_ := m_ (KeepBut.trans (by repeat (first | (with_reducible first | exact HK.out | apply KeepBut.set_ | apply keep_drewN | apply keep_drew | apply keep_alloc | refine keep_far ?_ GW141.out _) | exact HK.out)) hk (.inl rfl)); have n2_ := m_ (hb); have n3_ := m_ (hi); clear BK141; clear HK; clear HB; clear HI0; have BK141 := n0_; have HK := n1_; have HB := n2_; have HI0 := n3_; clear n0_ n1_ n2_ n3_; (try clear hb); (try clear hb2); (try clear hk); (try clear hi)) | ((with_reducible refine gate_callee (f := 10) rfl ?_); refine goesL_ (some 15) rfl rfl Try.func10 (by kernel_rfl) rfl #[.pointer (some ⟨g, 0, none⟩), .int .i64 256] rfl gl_ ?_; (with_reducible refine (spec_l1Rd_pick.calls k g s0_0 t149 256 t150 t151 w0 _ ?side1 ?side2 A6.out).mono ?_); (case side1 => repeat (first | (with_reducible first | exact HI0.out | apply IsS43.alloc | apply IsS43.drewN | apply IsS43.drew | apply IsS43.set_1 | refine IsS43.far ?_ NB0_141.out _) | exact HI0.out)); (case side2 => repeat (first | (with_reducible first | exact HB.out | apply below_alloc | apply pw_below_drewN | apply below_drew1 | refine below_set ?_ (IsS43.ge HI0.out) | refine below_set ?_ GE141.out) | exact HB.out)); rintro e w35 ⟨rfl, hi, hb, hk⟩; refine ⟨_, rfl, ?_⟩; have n0_ := m_ (KeepBut.blk hk (g' := gb141) (o := .cells #[.bool false, .bool false, .bool false, .int .i64 0, .int .i64 0] 48 (0, 0)) (kN BK141.out) NB141_0.out (by simp)); have n1_ := m_ (KeepBut.trans (by repeat (first | (with_reducible first | exact HK.out | apply KeepBut.set_ | apply keep_drewN | apply keep_drew | apply keep_alloc | refine keep_far ?_ GW141.out _) | exact HK.out)) hk (.inl rfl)); have n2_ := m_ (hb); have n3_ := m_ (hi); clear BK141; clear HK; clear HB; clear HI0; have BK141 := n0_; have HK := n1_; have HB := n2_; have HI0 := n3_; clear n0_ n1_ n2_ n3_; (try clear hb); (try clear hb2); (try clear hk); (try clear hi)) | ((with_reducible refine gate_dst (N := 16) rfl ?_); refine Kd.R_lit (Kd.int .i64) _ 3 ?hg (N := 16) ?hd (xs := ([t148, t150, 255, 0] : List Int)) (inner := [.int .i64 t148, .int .i64 t150, .int .i64 255, .int .i64 0]) (ok := fun _ => True) (okp := fun _ => True) ?hr ?hp (fun _ hk => hk) trivial (Below.refl _ _) (Nat.le_refl _) (by simp) ?_; (case hd => rfl); (case hg => rfl); (case hr => first | (go_simp; done) | (go_simp; rfl)); (case hp => exact (Reps.one (show Kd.M (Kd.int .i64) _ _ _ t148 [.int .i64 t148] from rfl) (Reps.one (show Kd.M (Kd.int .i64) _ _ _ t150 [.int .i64 t150] from rfl) (Reps.one (show Kd.M (Kd.int .i64) _ _ _ 255 [.int .i64 255] from rfl) (Reps.one (show Kd.M (Kd.int .i64) _ _ _ 0 [.int .i64 0] from rfl) (Reps.none _ _)))))); intro v153 w36 ho37 hb hg_ hnew_; clear hg_ hnew_; (first | rw [← Ny152.out] at ho37 | (simp only [Int.reduceToNat] at ho37; rw [← Ny152.out] at ho37)); have n0_ := m_ (Kd.R_lower ho37 (keep_size (w := w) (g := g) (row := none) (by repeat (first | (with_reducible first | exact HK.out | apply KeepBut.set_ | apply keep_drewN | apply keep_drew | apply keep_alloc | refine keep_far ?_ GW141.out _) | exact HK.out)))); have n1_ := m_ (IsS43.below (by repeat (first | (with_reducible first | exact HI0.out | apply IsS43.alloc | apply IsS43.drewN | apply IsS43.drew | apply IsS43.set_1 | refine IsS43.far ?_ NB0_141.out _) | exact HI0.out)) hb); have n2_ := m_ (blk_below (kN BK141.out) hb); have n3_ := m_ (KeepBut.trans (by repeat (first | (with_reducible first | exact HK.out | apply KeepBut.set_ | apply keep_drewN | apply keep_drew | apply keep_alloc | refine keep_far ?_ GW141.out _) | exact HK.out)) (KeepBut.of_below hb g none) (.inl rfl)); have n4_ := m_ (below_step (by repeat (first | (with_reducible first | exact HB.out | apply below_alloc | apply pw_below_drewN | apply below_drew1 | refine below_set ?_ (IsS43.ge HI0.out) | refine below_set ?_ GE141.out) | exact HB.out)) hb); clear HI0; clear BK141; clear HK; clear HB; have HO154 := n0_; have HI0 := n1_; have BK141 := n2_; have HK := n3_; have HB := n4_; clear n0_ n1_ n2_ n3_ n4_; clear hb ho37) | ((with_reducible refine gate_callee (f := 10) rfl ?_); refine goesL_ (some 18) rfl rfl Try.func10 (by kernel_rfl) rfl #[.pointer (some ⟨g, 0, none⟩), .int .i64 4] rfl gl_ ?_; (with_reducible refine (spec_l1Rd_pick.calls k g s0_0 t151 4 t155 t156 w0 _ ?side1 ?side2 A7.out).mono ?_); (case side1 => repeat (first | (with_reducible first | exact HI0.out | apply IsS43.alloc | apply IsS43.drewN | apply IsS43.drew | apply IsS43.set_1 | refine IsS43.far ?_ NB0_141.out _) | exact HI0.out)); (case side2 => repeat (first | (with_reducible first | exact HB.out | apply below_alloc | apply pw_below_drewN | apply below_drew1 | refine below_set ?_ (IsS43.ge HI0.out) | refine below_set ?_ GE141.out) | exact HB.out)); rintro e w38 ⟨rfl, hi, hb, hk⟩; refine ⟨_, rfl, ?_⟩; have n0_ := m_ (KeepBut.blk hk (g' := gb141) (o := .cells #[.bool false, .bool false, .bool false, .int .i64 0, .int .i64 0] 48 (0, 0)) (kN BK141.out) NB141_0.out (by simp)); have n1_ := m_ (Kd.R_mono (Kd.R_keep (IsS43.apart (show IsS43 w0 _ g s0_0 t151 from by repeat (first | (with_reducible first | exact HI0.out | apply IsS43.alloc | apply IsS43.drewN | apply IsS43.drew | apply IsS43.set_1 | refine IsS43.far ?_ NB0_141.out _) | exact HI0.out)) (rN HO154.out) (by decide)) hk (fun _ h => h.2)) (fun _ h => h.1)); have n2_ := m_ (KeepBut.trans (by repeat (first | (with_reducible first | exact HK.out | apply KeepBut.set_ | apply keep_drewN | apply keep_drew | apply keep_alloc | refine keep_far ?_ GW141.out _) | exact HK.out)) hk (.inl rfl)); have n3_ := m_ (hb); have n4_ := m_ (hi); clear BK141; clear HO154; clear HK; clear HB; clear HI0; have BK141 := n0_; have HO154 := n1_; have HK := n2_; have HB := n3_; have HI0 := n4_; clear n0_ n1_ n2_ n3_ n4_; (try clear hb); (try clear hb2); (try clear hk); (try clear hi); obtain ⟨Ao39, co39, eo39⟩ := Kd.R_slice HO154.out; subst eo39; have p157 : 0 ≤ (t155 : Int) := of_decide_eq_true (by first | (with_reducible assumption) | assumption); have q157 : t155 < (y152.length : Int) := of_decide_eq_true (by first | (with_reducible assumption) | assumption); obtain ⟨ad157, e157, hx157_0⟩ := Kd.at_int (Kd.R_reads' HO154.out).2.2 t155 p157 q157; cases e157; replace p157 := eq_true p157; replace q157 := eq_true q157; have hcz45_0 : w38.cell? ⟨gb141, 0, none⟩ = some (.bool false) := bc BK141 0; have hcz45_1 : w38.cell? ⟨gb141, 1, none⟩ = some (.bool false) := bc BK141 1; have hcz45_2 : w38.cell? ⟨gb141, 2, none⟩ = some (.bool false) := bc BK141 2; have hcz45_3 : w38.cell? ⟨gb141, 3, none⟩ = some (.int .i64 0) := bc BK141 3; have hcz45_4 : w38.cell? ⟨gb141, 4, none⟩ = some (.int .i64 0) := bc BK141 4; have hfz45_0 := blk_frozen BK141.out 0; have hfz45_1 := blk_frozen BK141.out 1; have hfz45_2 := blk_frozen BK141.out 2; have hfz45_3 := blk_frozen BK141.out 3; have hfz45_4 := blk_frozen BK141.out 4; have hltq := blk_lt BK141.out; have hneq := Nat.ne_of_lt hltq; have hnfq := Nat.ne_of_gt hltq))
    refine bodyPost_ret (results_cell_row rfl _ _ gb141 48 #[.bool (t142 == 0), .bool false, .bool false, .int .i64 t146, .int .i64 (rd y152 t155)] (0, 0) _ rfl (kP BK141.out) Try.underlying48 rfl (by kernel_rfl)) rfl ?_
    exact ⟨by first | rfl | (simp [errW_none, errW_some] <;> rfl) | (simp [*, errW_none, errW_some] <;> rfl), by repeat (first | (with_reducible first | exact HI0.out | apply IsS43.alloc | apply IsS43.drewN | apply IsS43.drew | apply IsS43.set_1 | refine IsS43.far ?_ NB0_141.out _) | exact HI0.out), by repeat (first | (with_reducible first | exact HB.out | apply below_alloc | apply pw_below_drewN | apply below_drew1 | refine below_set ?_ (IsS43.ge HI0.out) | refine below_set ?_ GE141.out) | exact HB.out), by repeat (first | (with_reducible first | exact HK.out | apply KeepBut.set_ | apply keep_drewN | apply keep_drew | apply keep_alloc | refine keep_far ?_ GW141.out _) | exact HK.out)⟩
  ·rw [if_neg c9] at H
   exact absurd H (by simp)
 ·rw [if_neg c8] at H
  exact absurd H (by simp)

/-! ### spec_l15Down: function 9 -/
def spec_l15Down.f (k : Nat) (s0_0 : List Int) (s0_1 : Int) : Option (Int × Int × Int × Int × Int × ByteArray × ByteArray × Int) := (spec_l1Rd_pick.f k s0_0 s0_1 4).bind fun bt162 => ((spec_l1Rd_pick.f k s0_0 bt162.2 256).bind fun bt164 => ((spec_l1Rd_pick.f k s0_0 bt164.2 6).bind fun bt166 => ((spec_l1Rd_one.f k s0_0 bt166.2 (([bt166.1, 255] : List Int))).bind fun bt171 => ((spec_l1Rd_pick.f k s0_0 bt171.2 28).bind fun bt173 => ((spec_l1Rd_one.f k s0_0 bt173.2 (([0, bt173.1, 2047, 2046] : List Int))).bind fun bt178 => ((spec_l15Text.f k s0_0 bt178.2 28).bind fun bt180 => ((spec_l1Many.f k (⟨#[122]⟩ : ByteArray) 28).bind fun t182 => (if bt180.1.size + t182.size ≤ 9223372036854775807 then (if 0 ≤ 28 then (if 28 ≤ ((bt180.1 ++ t182).size : Int) then ((spec_l15Farm.f k s0_0 bt180.2).bind fun bt183 => ((spec_FarmPut.f k bt183.1 bt183.2.1 bt183.2.2.1 bt183.2.2.2.1 bt183.2.2.2.2.1).bind fun t189 => (some (5, bt162.1, bt164.1, bt171.1, bt178.1, (bt180.1 ++ t182).extract 0 28, t189, bt183.2.2.2.2.2)))) else (none)) else (none)) else (none)))))))))
theorem spec_l15Down.mono : ∀ a0 a1 k, LeO (spec_l15Down.f k a0 a1) (spec_l15Down.f (k + 1) a0 a1) := by
 intro a0 a1 k
 unfold spec_l15Down.f
 repeat' first
   | (with_reducible exact spec_FarmPut.mono _ _ _ _ _ _)
   | (with_reducible exact spec_l15Farm.mono _ _ _)
   | (with_reducible exact spec_l15Text.mono _ _ _ _)
   | (with_reducible exact spec_l1Many.mono _ _ _)
   | (with_reducible exact spec_l1Rd_one.mono _ _ _ _)
   | (with_reducible exact spec_l1Rd_pick.mono _ _ _ _)
   | (with_reducible exact LeO.refl _)
   | (with_reducible exact LeO.none _)
   | (with_reducible refine LeO.ite ?_ ?_)
   | (with_reducible refine LeO.bind ?_ (fun _ => ?_))
   | exact spec_FarmPut.mono _ _ _ _ _ _
   | exact spec_l15Farm.mono _ _ _
   | exact spec_l15Text.mono _ _ _ _
   | exact spec_l1Many.mono _ _ _
   | exact spec_l1Rd_one.mono _ _ _ _
   | exact spec_l1Rd_pick.mono _ _ _ _
   | exact LeO.none _
   | refine LeO.ite ?_ ?_
   | refine LeO.bind ?_ (fun _ => ?_)
def spec_l15Down.T1 : Bool × List (List Nat × List Nat) := (true, [([], []), ([0], [0]), ([], []), ([2, 1], [2]), ([], []), ([], []), ([5, 3], [5]), ([6], [6]), ([4, 7, 6], [4, 7]), ([], []), ([], []), ([10, 8], [10]), ([11], [11]), ([9, 12, 11], [9, 12]), ([], []), ([14, 13], [14]), ([15], []), ([15, 16], [15, 16]), ([17], [17]), ([], []), ([19, 16], [19]), ([20, 20], [20]), ([1, 3, 8, 13, 18, 21], [1, 3, 8, 13, 18, 21]), ([22, 21, 0, 1, 2, 3, 4, 5, 6, 7, 8, 9, 10, 11, 12, 13, 14, 15, 16, 17, 18, 19, 20, 21, 22], [22])])
def spec_l15Down.B1 : List Nat := [0, 1, 0, 7, 0, 0, 47, 111, 255, 0, 0, 1535, 3583, 8191, 0, 32767, 65535, 131071, 262143, 0, 655359, 1703935, 4194303, 8388607]
theorem spec_l15Down.tab1 : rtab .any (opsOf Try.f9 1) = spec_l15Down.T1 := by kernel_rfl
theorem spec_l15Down.bits1 : waitsOk spec_l15Down.T1.2 spec_l15Down.B1 = true := by kernel_rfl
set_option maxHeartbeats 8000000 in
set_option maxRecDepth 100000 in
theorem spec_l15Down.calls (k : Nat) (g : Nat) (s0_0 : List Int) (s0_1 : Int) (r1 : Int) (r2 : Int) (r3 : Int) (r4 : Int) (r5 : Int) (r6 : ByteArray) (r7 : ByteArray) (r8 : Int) (w0 w : World) (hI : IsS43 w0 w g s0_0 s0_1) (hB : Below w0.heap.size w0 w) (h : spec_l15Down.f k s0_0 s0_1 = some (r1, r2, r3, r4, r5, r6, r7, r8)) :
  Calls Try.prog 9 #[.pointer (some ⟨g, 0, none⟩)] w fun e w' => e = .returned (.agg #[.int .i64 r1, .int .i64 r2, .int .i64 r3, .int .i64 r4, .int .i64 r5, .string r6, .string r7]) ∧ IsS43 w0 w' g s0_0 r8 ∧ Below w0.heap.size w0 w' ∧ KeepBut w w' g none := by
 have hu24 := Try.underlying24
 have HI0 := Aside0.mk hI
 have HK := m_ (KeepBut.refl w g none)
 have HL := Aside0.mk hB.size
 clear hI
 have HW0 := Aside0.mk hB.size
 have HB := Aside0.mk hB
 clear hB
 have H : ((spec_l1Rd_pick.f k s0_0 s0_1 4).bind fun bt162 => ((spec_l1Rd_pick.f k s0_0 bt162.2 256).bind fun bt164 => ((spec_l1Rd_pick.f k s0_0 bt164.2 6).bind fun bt166 => ((spec_l1Rd_one.f k s0_0 bt166.2 (([bt166.1, 255] : List Int))).bind fun bt171 => ((spec_l1Rd_pick.f k s0_0 bt171.2 28).bind fun bt173 => ((spec_l1Rd_one.f k s0_0 bt173.2 (([0, bt173.1, 2047, 2046] : List Int))).bind fun bt178 => ((spec_l15Text.f k s0_0 bt178.2 28).bind fun bt180 => ((spec_l1Many.f k (⟨#[122]⟩ : ByteArray) 28).bind fun t182 => (if bt180.1.size + t182.size ≤ 9223372036854775807 then (if 0 ≤ 28 then (if 28 ≤ ((bt180.1 ++ t182).size : Int) then ((spec_l15Farm.f k s0_0 bt180.2).bind fun bt183 => ((spec_FarmPut.f k bt183.1 bt183.2.1 bt183.2.2.1 bt183.2.2.2.1 bt183.2.2.2.2.1).bind fun t189 => (some (5, bt162.1, bt164.1, bt171.1, bt178.1, (bt180.1 ++ t182).extract 0 28, t189, bt183.2.2.2.2.2)))) else (none)) else (none)) else (none)))))))))) = some (r1, r2, r3, r4, r5, r6, r7, r8) := h
 clear h
 replace H := Option.bind_eq_some_iff.mp H
 obtain ⟨⟨t162, t163⟩, A20, H⟩ := H
 replace H : ((spec_l1Rd_pick.f k s0_0 t163 256).bind fun bt164 => ((spec_l1Rd_pick.f k s0_0 bt164.2 6).bind fun bt166 => ((spec_l1Rd_one.f k s0_0 bt166.2 (([bt166.1, 255] : List Int))).bind fun bt171 => ((spec_l1Rd_pick.f k s0_0 bt171.2 28).bind fun bt173 => ((spec_l1Rd_one.f k s0_0 bt173.2 (([0, bt173.1, 2047, 2046] : List Int))).bind fun bt178 => ((spec_l15Text.f k s0_0 bt178.2 28).bind fun bt180 => ((spec_l1Many.f k (⟨#[122]⟩ : ByteArray) 28).bind fun t182 => (if bt180.1.size + t182.size ≤ 9223372036854775807 then (if 0 ≤ 28 then (if 28 ≤ ((bt180.1 ++ t182).size : Int) then ((spec_l15Farm.f k s0_0 bt180.2).bind fun bt183 => ((spec_FarmPut.f k bt183.1 bt183.2.1 bt183.2.2.1 bt183.2.2.2.1 bt183.2.2.2.2.1).bind fun t189 => (some (5, t162, bt164.1, bt171.1, bt178.1, (bt180.1 ++ t182).extract 0 28, t189, bt183.2.2.2.2.2)))) else (none)) else (none)) else (none))))))))) = some (r1, r2, r3, r4, r5, r6, r7, r8) := H
 have A2 := Aside0.mk A20
 clear A20
 replace H := Option.bind_eq_some_iff.mp H
 obtain ⟨⟨t164, t165⟩, A30, H⟩ := H
 replace H : ((spec_l1Rd_pick.f k s0_0 t165 6).bind fun bt166 => ((spec_l1Rd_one.f k s0_0 bt166.2 (([bt166.1, 255] : List Int))).bind fun bt171 => ((spec_l1Rd_pick.f k s0_0 bt171.2 28).bind fun bt173 => ((spec_l1Rd_one.f k s0_0 bt173.2 (([0, bt173.1, 2047, 2046] : List Int))).bind fun bt178 => ((spec_l15Text.f k s0_0 bt178.2 28).bind fun bt180 => ((spec_l1Many.f k (⟨#[122]⟩ : ByteArray) 28).bind fun t182 => (if bt180.1.size + t182.size ≤ 9223372036854775807 then (if 0 ≤ 28 then (if 28 ≤ ((bt180.1 ++ t182).size : Int) then ((spec_l15Farm.f k s0_0 bt180.2).bind fun bt183 => ((spec_FarmPut.f k bt183.1 bt183.2.1 bt183.2.2.1 bt183.2.2.2.1 bt183.2.2.2.2.1).bind fun t189 => (some (5, t162, t164, bt171.1, bt178.1, (bt180.1 ++ t182).extract 0 28, t189, bt183.2.2.2.2.2)))) else (none)) else (none)) else (none)))))))) = some (r1, r2, r3, r4, r5, r6, r7, r8) := H
 have A3 := Aside0.mk A30
 clear A30
 replace H := Option.bind_eq_some_iff.mp H
 obtain ⟨⟨t166, t167⟩, A40, H⟩ := H
 replace H : ((spec_l1Rd_one.f k s0_0 t167 (([t166, 255] : List Int))).bind fun bt171 => ((spec_l1Rd_pick.f k s0_0 bt171.2 28).bind fun bt173 => ((spec_l1Rd_one.f k s0_0 bt173.2 (([0, bt173.1, 2047, 2046] : List Int))).bind fun bt178 => ((spec_l15Text.f k s0_0 bt178.2 28).bind fun bt180 => ((spec_l1Many.f k (⟨#[122]⟩ : ByteArray) 28).bind fun t182 => (if bt180.1.size + t182.size ≤ 9223372036854775807 then (if 0 ≤ 28 then (if 28 ≤ ((bt180.1 ++ t182).size : Int) then ((spec_l15Farm.f k s0_0 bt180.2).bind fun bt183 => ((spec_FarmPut.f k bt183.1 bt183.2.1 bt183.2.2.1 bt183.2.2.2.1 bt183.2.2.2.2.1).bind fun t189 => (some (5, t162, t164, bt171.1, bt178.1, (bt180.1 ++ t182).extract 0 28, t189, bt183.2.2.2.2.2)))) else (none)) else (none)) else (none))))))) = some (r1, r2, r3, r4, r5, r6, r7, r8) := H
 have A4 := Aside0.mk A40
 clear A40
 obtain ⟨y168, hy168⟩ : ∃ y_ : List Int, y_ = (([t166, 255] : List Int)) := ⟨_, rfl⟩
 replace H : ((spec_l1Rd_one.f k s0_0 t167 y168).bind fun bt171 => ((spec_l1Rd_pick.f k s0_0 bt171.2 28).bind fun bt173 => ((spec_l1Rd_one.f k s0_0 bt173.2 (([0, bt173.1, 2047, 2046] : List Int))).bind fun bt178 => ((spec_l15Text.f k s0_0 bt178.2 28).bind fun bt180 => ((spec_l1Many.f k (⟨#[122]⟩ : ByteArray) 28).bind fun t182 => (if bt180.1.size + t182.size ≤ 9223372036854775807 then (if 0 ≤ 28 then (if 28 ≤ ((bt180.1 ++ t182).size : Int) then ((spec_l15Farm.f k s0_0 bt180.2).bind fun bt183 => ((spec_FarmPut.f k bt183.1 bt183.2.1 bt183.2.2.1 bt183.2.2.2.1 bt183.2.2.2.2.1).bind fun t189 => (some (5, t162, t164, bt171.1, bt178.1, (bt180.1 ++ t182).extract 0 28, t189, bt183.2.2.2.2.2)))) else (none)) else (none)) else (none))))))) = some (r1, r2, r3, r4, r5, r6, r7, r8) := by first | (rw [hy168]; with_reducible exact H) | (have H2_ := (Option.bind_some _ _).symm.trans H; rw [hy168]; with_reducible exact H2_) | (have H2_ := (Option.bind_some _ _).symm.trans H; with_reducible exact H2_) | with_reducible exact H | (rw [hy168]; exact H) | exact H
 have Ny168 := Aside0.mk hy168
 clear hy168
 replace H := Option.bind_eq_some_iff.mp H
 obtain ⟨⟨t171, t172⟩, A50, H⟩ := H
 replace H : ((spec_l1Rd_pick.f k s0_0 t172 28).bind fun bt173 => ((spec_l1Rd_one.f k s0_0 bt173.2 (([0, bt173.1, 2047, 2046] : List Int))).bind fun bt178 => ((spec_l15Text.f k s0_0 bt178.2 28).bind fun bt180 => ((spec_l1Many.f k (⟨#[122]⟩ : ByteArray) 28).bind fun t182 => (if bt180.1.size + t182.size ≤ 9223372036854775807 then (if 0 ≤ 28 then (if 28 ≤ ((bt180.1 ++ t182).size : Int) then ((spec_l15Farm.f k s0_0 bt180.2).bind fun bt183 => ((spec_FarmPut.f k bt183.1 bt183.2.1 bt183.2.2.1 bt183.2.2.2.1 bt183.2.2.2.2.1).bind fun t189 => (some (5, t162, t164, t171, bt178.1, (bt180.1 ++ t182).extract 0 28, t189, bt183.2.2.2.2.2)))) else (none)) else (none)) else (none)))))) = some (r1, r2, r3, r4, r5, r6, r7, r8) := H
 have A5 := Aside0.mk A50
 clear A50
 replace H := Option.bind_eq_some_iff.mp H
 obtain ⟨⟨t173, t174⟩, A60, H⟩ := H
 replace H : ((spec_l1Rd_one.f k s0_0 t174 (([0, t173, 2047, 2046] : List Int))).bind fun bt178 => ((spec_l15Text.f k s0_0 bt178.2 28).bind fun bt180 => ((spec_l1Many.f k (⟨#[122]⟩ : ByteArray) 28).bind fun t182 => (if bt180.1.size + t182.size ≤ 9223372036854775807 then (if 0 ≤ 28 then (if 28 ≤ ((bt180.1 ++ t182).size : Int) then ((spec_l15Farm.f k s0_0 bt180.2).bind fun bt183 => ((spec_FarmPut.f k bt183.1 bt183.2.1 bt183.2.2.1 bt183.2.2.2.1 bt183.2.2.2.2.1).bind fun t189 => (some (5, t162, t164, t171, bt178.1, (bt180.1 ++ t182).extract 0 28, t189, bt183.2.2.2.2.2)))) else (none)) else (none)) else (none))))) = some (r1, r2, r3, r4, r5, r6, r7, r8) := H
 have A6 := Aside0.mk A60
 clear A60
 obtain ⟨y175, hy175⟩ : ∃ y_ : List Int, y_ = (([0, t173, 2047, 2046] : List Int)) := ⟨_, rfl⟩
 replace H : ((spec_l1Rd_one.f k s0_0 t174 y175).bind fun bt178 => ((spec_l15Text.f k s0_0 bt178.2 28).bind fun bt180 => ((spec_l1Many.f k (⟨#[122]⟩ : ByteArray) 28).bind fun t182 => (if bt180.1.size + t182.size ≤ 9223372036854775807 then (if 0 ≤ 28 then (if 28 ≤ ((bt180.1 ++ t182).size : Int) then ((spec_l15Farm.f k s0_0 bt180.2).bind fun bt183 => ((spec_FarmPut.f k bt183.1 bt183.2.1 bt183.2.2.1 bt183.2.2.2.1 bt183.2.2.2.2.1).bind fun t189 => (some (5, t162, t164, t171, bt178.1, (bt180.1 ++ t182).extract 0 28, t189, bt183.2.2.2.2.2)))) else (none)) else (none)) else (none))))) = some (r1, r2, r3, r4, r5, r6, r7, r8) := by first | (rw [hy175]; with_reducible exact H) | (have H2_ := (Option.bind_some _ _).symm.trans H; rw [hy175]; with_reducible exact H2_) | (have H2_ := (Option.bind_some _ _).symm.trans H; with_reducible exact H2_) | with_reducible exact H | (rw [hy175]; exact H) | exact H
 have Ny175 := Aside0.mk hy175
 clear hy175
 replace H := Option.bind_eq_some_iff.mp H
 obtain ⟨⟨t178, t179⟩, A70, H⟩ := H
 replace H : ((spec_l15Text.f k s0_0 t179 28).bind fun bt180 => ((spec_l1Many.f k (⟨#[122]⟩ : ByteArray) 28).bind fun t182 => (if bt180.1.size + t182.size ≤ 9223372036854775807 then (if 0 ≤ 28 then (if 28 ≤ ((bt180.1 ++ t182).size : Int) then ((spec_l15Farm.f k s0_0 bt180.2).bind fun bt183 => ((spec_FarmPut.f k bt183.1 bt183.2.1 bt183.2.2.1 bt183.2.2.2.1 bt183.2.2.2.2.1).bind fun t189 => (some (5, t162, t164, t171, t178, (bt180.1 ++ t182).extract 0 28, t189, bt183.2.2.2.2.2)))) else (none)) else (none)) else (none)))) = some (r1, r2, r3, r4, r5, r6, r7, r8) := H
 have A7 := Aside0.mk A70
 clear A70
 replace H := Option.bind_eq_some_iff.mp H
 obtain ⟨⟨t180, t181⟩, A80, H⟩ := H
 replace H : ((spec_l1Many.f k (⟨#[122]⟩ : ByteArray) 28).bind fun t182 => (if t180.size + t182.size ≤ 9223372036854775807 then (if 0 ≤ 28 then (if 28 ≤ ((t180 ++ t182).size : Int) then ((spec_l15Farm.f k s0_0 t181).bind fun bt183 => ((spec_FarmPut.f k bt183.1 bt183.2.1 bt183.2.2.1 bt183.2.2.2.1 bt183.2.2.2.2.1).bind fun t189 => (some (5, t162, t164, t171, t178, (t180 ++ t182).extract 0 28, t189, bt183.2.2.2.2.2)))) else (none)) else (none)) else (none))) = some (r1, r2, r3, r4, r5, r6, r7, r8) := H
 have A8 := Aside0.mk A80
 clear A80
 replace H := Option.bind_eq_some_iff.mp H
 obtain ⟨t182, A90, H⟩ := H
 replace H : (if t180.size + t182.size ≤ 9223372036854775807 then (if 0 ≤ 28 then (if 28 ≤ ((t180 ++ t182).size : Int) then ((spec_l15Farm.f k s0_0 t181).bind fun bt183 => ((spec_FarmPut.f k bt183.1 bt183.2.1 bt183.2.2.1 bt183.2.2.2.1 bt183.2.2.2.2.1).bind fun t189 => (some (5, t162, t164, t171, t178, (t180 ++ t182).extract 0 28, t189, bt183.2.2.2.2.2)))) else (none)) else (none)) else (none)) = some (r1, r2, r3, r4, r5, r6, r7, r8) := H
 have A9 := Aside0.mk A90
 clear A90
 by_cases c10 : t180.size + t182.size ≤ 9223372036854775807
 ·rw [if_pos c10] at H
  have c10b0 := eq_true c10
  have c10b1 : decide (t180.size + t182.size ≤ 9223372036854775807) = true := decide_eq_true c10
  try have c10b2 : (9223372036854775807 < t180.size + t182.size) = False := eq_false (Nat.not_lt.2 c10)
  by_cases c11 : 0 ≤ 28
  ·rw [if_pos c11] at H
   have c11b0 := eq_true c11
   have c11b1 : decide (0 ≤ 28) = true := decide_eq_true c11
   clear c11
   by_cases c12 : 28 ≤ ((t180 ++ t182).size : Int)
   ·rw [if_pos c12] at H
    have c12b0 := eq_true c12
    have c12b2 : (28 ≤ (t180.size : Int) + (t182.size : Int)) = True := eq_true (by rw [ByteArray.size_append] at c12; omega)
    have c12b1 : decide (28 ≤ ((t180 ++ t182).size : Int)) = true := decide_eq_true c12
    replace H := Option.bind_eq_some_iff.mp H
    obtain ⟨⟨t183, t184, t185, t186, t187, t188⟩, A130, H⟩ := H
    replace H : ((spec_FarmPut.f k t183 t184 t185 t186 t187).bind fun t189 => (some (5, t162, t164, t171, t178, (t180 ++ t182).extract 0 28, t189, t188))) = some (r1, r2, r3, r4, r5, r6, r7, r8) := H
    have A13 := Aside0.mk A130
    clear A130
    replace H := Option.bind_eq_some_iff.mp H
    obtain ⟨t189, A140, H⟩ := H
    replace H : (some (5, t162, t164, t171, t178, (t180 ++ t182).extract 0 28, t189, t188)) = some (r1, r2, r3, r4, r5, r6, r7, r8) := H
    have A14 := Aside0.mk A140
    clear A140
    simp only [Option.some.injEq, Prod.mk.injEq] at H
    obtain ⟨rfl, rfl, rfl, rfl, rfl, rfl, rfl, rfl⟩ := H
    go_enter Try.func9, Try.ntmps9
    try go_wp2_with (first | ((with_reducible refine gate_dst (N := 2) rfl ?_); refine box_event ?hg (N := 2) ?hd (cs := #[.int .i64 0, .int .i64 0, .int .i64 0, .int .i64 0, .int .i64 0, .string (⟨#[]⟩ : ByteArray), .string (⟨#[]⟩ : ByteArray)]) (t := 24) ?hr ?_; (case hd => rfl); (case hg => rfl); (case hr => first | (go_simp; done) | (go_simp; rfl)); intro gb161 hg w15 hbox hb; have n0_ := m_ (IsS43.below (by repeat (first | (with_reducible first | exact HI0.out | apply IsS43.alloc | apply IsS43.drewN | apply IsS43.drew | apply IsS43.set_1) | exact HI0.out)) hb); have n1_ := m_ (KeepBut.trans (by repeat (first | (with_reducible first | exact HK.out | apply KeepBut.set_ | apply keep_drewN | apply keep_drew | apply keep_alloc) | exact HK.out)) (KeepBut.of_below hb g none) (.inl rfl)); have n2_ := m_ (below_step (by repeat (first | (with_reducible first | exact HB.out | apply below_alloc | apply pw_below_drewN | apply below_drew1 | refine below_set ?_ (IsS43.ge HI0.out)) | exact HB.out)) hb); have n3_ := m_ (hbox); have n4_ := m_ ((by rw [hg]; exact (keep_size (w := w) (g := g) (row := none) (by repeat (first | (with_reducible first | exact HK.out | apply KeepBut.set_ | apply keep_drewN | apply keep_drew | apply keep_alloc) | exact HK.out))) : w.heap.size ≤ gb161)); have n5_ := m_ ((Nat.le_trans HW0.out (by rw [hg]; exact (keep_size (w := w) (g := g) (row := none) (by repeat (first | (with_reducible first | exact HK.out | apply KeepBut.set_ | apply keep_drewN | apply keep_drew | apply keep_alloc) | exact HK.out))) : w.heap.size ≤ gb161) : w0.heap.size ≤ gb161)); have n6_ := m_ ((by rw [hg]; exact Nat.ne_of_lt (IsS43.lt (show IsS43 w0 _ g s0_0 s0_1 from by repeat (first | (with_reducible first | exact HI0.out | apply IsS43.alloc | apply IsS43.drewN | apply IsS43.drew | apply IsS43.set_1) | exact HI0.out))) : g ≠ gb161)); have n7_ := m_ ((by rw [hg]; exact Nat.ne_of_gt (IsS43.lt (show IsS43 w0 _ g s0_0 s0_1 from by repeat (first | (with_reducible first | exact HI0.out | apply IsS43.alloc | apply IsS43.drewN | apply IsS43.drew | apply IsS43.set_1) | exact HI0.out))) : gb161 ≠ g)); clear HI0; clear HK; clear HB; have HI0 := n0_; have HK := n1_; have HB := n2_; have BK161 := n3_; have GW161 := n4_; have GE161 := n5_; have NB0_161 := n6_; have NB161_0 := n7_; clear n0_ n1_ n2_ n3_ n4_ n5_ n6_ n7_; clear hb hbox hg))
    have n0_ := m_ (blk_drew BK161.out)
    have n1_ := m_ (IsS43.drew HI0.out)
    have n2_ := m_ (keep_drew HK.out)
    have n3_ := m_ (below_drew1 HB.out)
    clear BK161
    clear HI0
    clear HK
    clear HB
    have BK161 := n0_
    have HI0 := n1_
    have HK := n2_
    have HB := n3_
    clear n0_ n1_ n2_ n3_
    refine start_ (n := 24) (S := fun w' => True) (ds := []) #[false, false, false, false, false, false, false, false, false, false, false, false, false, false, false, false, false, false, false, false, false, false, false, false] (by kernel_rfl) rfl rfl trivial (fun hHeld => ?_); refine with_tabW spec_l15Down.tab1 spec_l15Down.bits1 (fun HT_ HW_ => ?_)
    generalize w15.drew = w16 at BK161 HI0 HK HB hHeld ⊢
    refine pu 0 3 HT_ (h := ?_)
    refine pu 2 5 HT_ (h := ?_)
    refine pu 4 7 HT_ (h := ?_)
    refine pu 5 8 HT_ (h := ?_)
    refine pu 9 12 HT_ (h := ?_)
    refine pu 10 13 HT_ (h := ?_)
    refine pu 14 17 HT_ (h := ?_)
    refine pu 19 22 HT_ (h := ?_)
    refine one_ (i := 1) (N := some 4) #[true, true, true, false, true, true, false, false, false, true, true, false, false, false, true, false, false, false, false, true, false, false, false, false] rfl rfl (one_of HT_.out (by kernel_rfl)) (by decide) (fun K hK => ?_)
    refine goes_ Try.func10 (by kernel_rfl) rfl #[.pointer (some ⟨g, 0, none⟩), .int .i64 4] (by rfl) rfl rfl gl_ ?_
    with_reducible refine (spec_l1Rd_pick.calls k g s0_0 s0_1 4 t162 t163 w0 _ ?side1 ?side2 A2.out).mono ?_
    (case side1 => repeat (first | (with_reducible first | exact HI0.out | apply IsS43.alloc | apply IsS43.drewN | apply IsS43.drew | apply IsS43.set_1 | refine IsS43.far ?_ NB0_161.out _) | exact HI0.out))
    (case side2 => repeat (first | (with_reducible first | exact HB.out | apply below_alloc | apply pw_below_drewN | apply below_drew1 | refine below_set ?_ (IsS43.ge HI0.out) | refine below_set ?_ GE161.out) | exact HB.out))
    rintro e w17 ⟨rfl, hi, hb, hk⟩
    refine ⟨_, rfl, ?_⟩
    have n0_ := m_ (KeepBut.blk hk (g' := gb161) (o := .cells #[.int .i64 0, .int .i64 0, .int .i64 0, .int .i64 0, .int .i64 0, .string (⟨#[]⟩ : ByteArray), .string (⟨#[]⟩ : ByteArray)] 24 (0, 0)) (kN BK161.out) NB161_0.out (by simp))
    have n1_ := m_ (KeepBut.trans (by repeat (first | (with_reducible first | exact HK.out | apply KeepBut.set_ | apply keep_drewN | apply keep_drew | apply keep_alloc | refine keep_far ?_ GW161.out _) | exact HK.out)) hk (.inl rfl))
    have n2_ := m_ (hb)
    have n3_ := m_ (hi)
    clear BK161
    clear HK
    clear HB
    clear HI0
    have BK161 := n0_
    have HK := n1_
    have HB := n2_
    have HI0 := n3_
    clear n0_ n1_ n2_ n3_
    (try clear hb)
    (try clear hb2)
    (try clear hk)
    (try clear hi)
    refine hK.out _ _ trivial (fun hHeld => ?_)
    clear hK K
    refine np (h := ?_)
    refine one_ (i := 3) (N := some 6) #[true, true, true, true, true, true, false, false, false, true, true, false, false, false, true, false, false, false, false, true, false, false, false, false] rfl rfl (one_of HT_.out (by kernel_rfl)) (by decide) (fun K hK => ?_)
    refine goes_ Try.func10 (by kernel_rfl) rfl #[.pointer (some ⟨g, 0, none⟩), .int .i64 256] (by rfl) rfl rfl gl_ ?_
    with_reducible refine (spec_l1Rd_pick.calls k g s0_0 t163 256 t164 t165 w0 _ ?side1 ?side2 A3.out).mono ?_
    (case side1 => repeat (first | (with_reducible first | exact HI0.out | apply IsS43.alloc | apply IsS43.drewN | apply IsS43.drew | apply IsS43.set_1 | refine IsS43.far ?_ NB0_161.out _) | exact HI0.out))
    (case side2 => repeat (first | (with_reducible first | exact HB.out | apply below_alloc | apply pw_below_drewN | apply below_drew1 | refine below_set ?_ (IsS43.ge HI0.out) | refine below_set ?_ GE161.out) | exact HB.out))
    rintro e w18 ⟨rfl, hi, hb, hk⟩
    refine ⟨_, rfl, ?_⟩
    have n0_ := m_ (KeepBut.blk hk (g' := gb161) (o := .cells #[.int .i64 0, .int .i64 0, .int .i64 0, .int .i64 0, .int .i64 0, .string (⟨#[]⟩ : ByteArray), .string (⟨#[]⟩ : ByteArray)] 24 (0, 0)) (kN BK161.out) NB161_0.out (by simp))
    have n1_ := m_ (KeepBut.trans (by repeat (first | (with_reducible first | exact HK.out | apply KeepBut.set_ | apply keep_drewN | apply keep_drew | apply keep_alloc | refine keep_far ?_ GW161.out _) | exact HK.out)) hk (.inl rfl))
    have n2_ := m_ (hb)
    have n3_ := m_ (hi)
    clear BK161
    clear HK
    clear HB
    clear HI0
    have BK161 := n0_
    have HK := n1_
    have HB := n2_
    have HI0 := n3_
    clear n0_ n1_ n2_ n3_
    (try clear hb)
    (try clear hb2)
    (try clear hk)
    (try clear hi)
    refine hK.out _ _ trivial (fun hHeld => ?_)
    clear hK K
    refine np (h := ?_)
    refine one_ (i := 6) (N := some 9) #[true, true, true, true, true, true, true, false, false, true, true, false, false, false, true, false, false, false, false, true, false, false, false, false] rfl rfl (one_of HT_.out (by kernel_rfl)) (by decide) (fun K hK => ?_)
    refine goes_ Try.func10 (by kernel_rfl) rfl #[.pointer (some ⟨g, 0, none⟩), .int .i64 6] (by rfl) rfl rfl gl_ ?_
    with_reducible refine (spec_l1Rd_pick.calls k g s0_0 t165 6 t166 t167 w0 _ ?side1 ?side2 A4.out).mono ?_
    (case side1 => repeat (first | (with_reducible first | exact HI0.out | apply IsS43.alloc | apply IsS43.drewN | apply IsS43.drew | apply IsS43.set_1 | refine IsS43.far ?_ NB0_161.out _) | exact HI0.out))
    (case side2 => repeat (first | (with_reducible first | exact HB.out | apply below_alloc | apply pw_below_drewN | apply below_drew1 | refine below_set ?_ (IsS43.ge HI0.out) | refine below_set ?_ GE161.out) | exact HB.out))
    rintro e w19 ⟨rfl, hi, hb, hk⟩
    refine ⟨_, rfl, ?_⟩
    have n0_ := m_ (KeepBut.blk hk (g' := gb161) (o := .cells #[.int .i64 0, .int .i64 0, .int .i64 0, .int .i64 0, .int .i64 0, .string (⟨#[]⟩ : ByteArray), .string (⟨#[]⟩ : ByteArray)] 24 (0, 0)) (kN BK161.out) NB161_0.out (by simp))
    have n1_ := m_ (KeepBut.trans (by repeat (first | (with_reducible first | exact HK.out | apply KeepBut.set_ | apply keep_drewN | apply keep_drew | apply keep_alloc | refine keep_far ?_ GW161.out _) | exact HK.out)) hk (.inl rfl))
    have n2_ := m_ (hb)
    have n3_ := m_ (hi)
    clear BK161
    clear HK
    clear HB
    clear HI0
    have BK161 := n0_
    have HK := n1_
    have HB := n2_
    have HI0 := n3_
    clear n0_ n1_ n2_ n3_
    (try clear hb)
    (try clear hb2)
    (try clear hk)
    (try clear hi)
    refine hK.out _ _ trivial (fun hHeld => ?_)
    clear hK K
    refine np (h := ?_)
    refine one_ (i := 7) (N := some 10) #[true, true, true, true, true, true, true, true, false, true, true, false, false, false, true, false, false, false, false, true, false, false, false, false] rfl rfl (one_of HT_.out (by kernel_rfl)) (by decide) (fun K hK => ?_)
    refine Kd.R_lit_step (Kd.int .i64) _ 3 ?hg (N := 10) ?hd (xs := ([t166, 255] : List Int)) (inner := [.int .i64 t166, .int .i64 255]) (ok := fun _ => True) (okp := fun _ => True) ?hr ?hp (fun _ hk => hk) trivial (Below.refl _ _) (Nat.le_refl _) (by simp) ?_; (case hd => rfl); (case hg => rfl); (case hr => first | (go_simp; done) | (go_simp; rfl)); (case hp => exact (Reps.one (show Kd.M (Kd.int .i64) _ _ _ t166 [.int .i64 t166] from rfl) (Reps.one (show Kd.M (Kd.int .i64) _ _ _ 255 [.int .i64 255] from rfl) (Reps.none _ _))))
    intro v169 w20 ho21 hb hg_ hnew_
    clear hg_ hnew_
    (first | rw [← Ny168.out] at ho21 | (simp only [Int.reduceToNat] at ho21; rw [← Ny168.out] at ho21))
    have n0_ := m_ (Kd.R_lower ho21 (keep_size (w := w) (g := g) (row := none) (by repeat (first | (with_reducible first | exact HK.out | apply KeepBut.set_ | apply keep_drewN | apply keep_drew | apply keep_alloc | refine keep_far ?_ GW161.out _) | exact HK.out))))
    have n1_ := m_ (IsS43.below (by repeat (first | (with_reducible first | exact HI0.out | apply IsS43.alloc | apply IsS43.drewN | apply IsS43.drew | apply IsS43.set_1 | refine IsS43.far ?_ NB0_161.out _) | exact HI0.out)) hb)
    have n2_ := m_ (blk_below (g := gb161) (o := .cells #[.int .i64 0, .int .i64 0, .int .i64 0, .int .i64 0, .int .i64 0, .string (⟨#[]⟩ : ByteArray), .string (⟨#[]⟩ : ByteArray)] 24 (0, 0)) (kN BK161.out) hb)
    have n3_ := m_ (KeepBut.trans (by repeat (first | (with_reducible first | exact HK.out | apply KeepBut.set_ | apply keep_drewN | apply keep_drew | apply keep_alloc | refine keep_far ?_ GW161.out _) | exact HK.out)) (KeepBut.of_below hb g none) (.inl rfl))
    have n4_ := m_ (below_step (by repeat (first | (with_reducible first | exact HB.out | apply below_alloc | apply pw_below_drewN | apply below_drew1 | refine below_set ?_ (IsS43.ge HI0.out) | refine below_set ?_ GE161.out) | exact HB.out)) hb)
    clear HI0
    clear BK161
    clear HK
    clear HB
    have HO170 := n0_
    have HI0 := n1_
    have BK161 := n2_
    have HK := n3_
    have HB := n4_
    clear n0_ n1_ n2_ n3_ n4_
    clear hb ho21
    obtain ⟨Ao22, co22, eo22⟩ := Kd.R_slice HO170.out
    (first | subst eo22 | (injection eo22 with f1_ f2_ f3_; have f4_ := f1_.symm; have f5_ := f3_.symm; clear f1_ f2_ f3_; subst f4_; subst f5_))
    refine hK.out _ _ trivial (fun hHeld => ?_)
    clear hK K
    refine np (h := ?_)
    refine one_ (i := 8) (N := some 11) #[true, true, true, true, true, true, true, true, true, true, true, false, false, false, true, false, false, false, false, true, false, false, false, false] rfl rfl (one_of HT_.out (by kernel_rfl)) (by decide) (fun K hK => ?_)
    refine goes_ Try.func11 (by kernel_rfl) rfl #[.pointer (some ⟨g, 0, none⟩), .slice Ao22 y168.length co22] (by rfl) rfl rfl gl_ ?_
    with_reducible refine (spec_l1Rd_one.calls k g s0_0 t167 _ _ y168 t171 t172 w0 _ ?side1 ?side2 ?side3 ?side4 ?side5 A5.out).mono ?_
    (case side1 => repeat (first | (with_reducible first | exact HI0.out | apply IsS43.alloc | apply IsS43.drewN | apply IsS43.drew | apply IsS43.set_1 | refine IsS43.far ?_ NB0_161.out _) | exact HI0.out))
    (case side2 => repeat (first | (with_reducible first | exact HB.out | apply below_alloc | apply pw_below_drewN | apply below_drew1 | refine below_set ?_ (IsS43.ge HI0.out) | refine below_set ?_ GE161.out) | exact HB.out))
    (case side3 => exact cN (Kd.R_reads' HO170.out).2.2)
    (case side4 => exact (Kd.R_reads' HO170.out).2.1)
    (case side5 => exact far_slice (IsS43.own_ne HI0.out HO170.out (by decide)))
    rintro e w23 ⟨rfl, hi, hb, hk⟩
    refine ⟨_, rfl, ?_⟩
    have n0_ := m_ (KeepBut.blk hk (g' := gb161) (o := .cells #[.int .i64 0, .int .i64 0, .int .i64 0, .int .i64 0, .int .i64 0, .string (⟨#[]⟩ : ByteArray), .string (⟨#[]⟩ : ByteArray)] 24 (0, 0)) (kN BK161.out) NB161_0.out (by simp))
    have n1_ := m_ (Kd.R_mono (Kd.R_keep (IsS43.apart (show IsS43 w0 _ g s0_0 t167 from by repeat (first | (with_reducible first | exact HI0.out | apply IsS43.alloc | apply IsS43.drewN | apply IsS43.drew | apply IsS43.set_1 | refine IsS43.far ?_ NB0_161.out _) | exact HI0.out)) (rN HO170.out) (by decide)) hk (fun _ h => h.2)) (fun _ h => h.1))
    have n2_ := m_ (KeepBut.trans (by repeat (first | (with_reducible first | exact HK.out | apply KeepBut.set_ | apply keep_drewN | apply keep_drew | apply keep_alloc | refine keep_far ?_ GW161.out _) | exact HK.out)) hk (.inl rfl))
    have n3_ := m_ (hb)
    have n4_ := m_ (hi)
    clear BK161
    clear HO170
    clear HK
    clear HB
    clear HI0
    have BK161 := n0_
    have HO170 := n1_
    have HK := n2_
    have HB := n3_
    have HI0 := n4_
    clear n0_ n1_ n2_ n3_ n4_
    (try clear hb)
    (try clear hb2)
    (try clear hk)
    (try clear hi)
    refine hK.out _ _ trivial (fun hHeld => ?_)
    clear hK K
    refine np (h := ?_)
    refine one_ (i := 11) (N := some 14) #[true, true, true, true, true, true, true, true, true, true, true, true, false, false, true, false, false, false, false, true, false, false, false, false] rfl rfl (one_of HT_.out (by kernel_rfl)) (by decide) (fun K hK => ?_)
    refine goes_ Try.func10 (by kernel_rfl) rfl #[.pointer (some ⟨g, 0, none⟩), .int .i64 28] (by rfl) rfl rfl gl_ ?_
    with_reducible refine (spec_l1Rd_pick.calls k g s0_0 t172 28 t173 t174 w0 _ ?side1 ?side2 A6.out).mono ?_
    (case side1 => repeat (first | (with_reducible first | exact HI0.out | apply IsS43.alloc | apply IsS43.drewN | apply IsS43.drew | apply IsS43.set_1 | refine IsS43.far ?_ NB0_161.out _) | exact HI0.out))
    (case side2 => repeat (first | (with_reducible first | exact HB.out | apply below_alloc | apply pw_below_drewN | apply below_drew1 | refine below_set ?_ (IsS43.ge HI0.out) | refine below_set ?_ GE161.out) | exact HB.out))
    rintro e w24 ⟨rfl, hi, hb, hk⟩
    refine ⟨_, rfl, ?_⟩
    have n0_ := m_ (KeepBut.blk hk (g' := gb161) (o := .cells #[.int .i64 0, .int .i64 0, .int .i64 0, .int .i64 0, .int .i64 0, .string (⟨#[]⟩ : ByteArray), .string (⟨#[]⟩ : ByteArray)] 24 (0, 0)) (kN BK161.out) NB161_0.out (by simp))
    have n1_ := m_ (Kd.R_mono (Kd.R_keep (IsS43.apart (show IsS43 w0 _ g s0_0 t172 from by repeat (first | (with_reducible first | exact HI0.out | apply IsS43.alloc | apply IsS43.drewN | apply IsS43.drew | apply IsS43.set_1 | refine IsS43.far ?_ NB0_161.out _) | exact HI0.out)) (rN HO170.out) (by decide)) hk (fun _ h => h.2)) (fun _ h => h.1))
    have n2_ := m_ (KeepBut.trans (by repeat (first | (with_reducible first | exact HK.out | apply KeepBut.set_ | apply keep_drewN | apply keep_drew | apply keep_alloc | refine keep_far ?_ GW161.out _) | exact HK.out)) hk (.inl rfl))
    have n3_ := m_ (hb)
    have n4_ := m_ (hi)
    clear BK161
    clear HO170
    clear HK
    clear HB
    clear HI0
    have BK161 := n0_
    have HO170 := n1_
    have HK := n2_
    have HB := n3_
    have HI0 := n4_
    clear n0_ n1_ n2_ n3_ n4_
    (try clear hb)
    (try clear hb2)
    (try clear hk)
    (try clear hi)
    refine hK.out _ _ trivial (fun hHeld => ?_)
    clear hK K
    refine np (h := ?_)
    refine one_ (i := 12) (N := some 15) #[true, true, true, true, true, true, true, true, true, true, true, true, true, false, true, false, false, false, false, true, false, false, false, false] rfl rfl (one_of HT_.out (by kernel_rfl)) (by decide) (fun K hK => ?_)
    refine Kd.R_lit_step (Kd.int .i64) _ 3 ?hg (N := 15) ?hd (xs := ([0, t173, 2047, 2046] : List Int)) (inner := [.int .i64 0, .int .i64 t173, .int .i64 2047, .int .i64 2046]) (ok := fun _ => True) (okp := fun _ => True) ?hr ?hp (fun _ hk => hk) trivial (Below.refl _ _) (Nat.le_refl _) (by simp) ?_; (case hd => rfl); (case hg => rfl); (case hr => first | (go_simp; done) | (go_simp; rfl)); (case hp => exact (Reps.one (show Kd.M (Kd.int .i64) _ _ _ 0 [.int .i64 0] from rfl) (Reps.one (show Kd.M (Kd.int .i64) _ _ _ t173 [.int .i64 t173] from rfl) (Reps.one (show Kd.M (Kd.int .i64) _ _ _ 2047 [.int .i64 2047] from rfl) (Reps.one (show Kd.M (Kd.int .i64) _ _ _ 2046 [.int .i64 2046] from rfl) (Reps.none _ _))))))
    intro v176 w25 ho26 hb hg_ hnew_
    clear hg_ hnew_
    (first | rw [← Ny175.out] at ho26 | (simp only [Int.reduceToNat] at ho26; rw [← Ny175.out] at ho26))
    have n0_ := m_ (Kd.R_elder' (rN HO170.out) (Kd.R_base ho26) hb)
    have n1_ := m_ (Kd.R_lower (Kd.R_new' ho26 (Kd.R_lt (rN HO170.out))) (keep_size (w := w) (g := g) (row := none) (by repeat (first | (with_reducible first | exact HK.out | apply KeepBut.set_ | apply keep_drewN | apply keep_drew | apply keep_alloc | refine keep_far ?_ GW161.out _) | exact HK.out))))
    have n2_ := m_ (IsS43.below (by repeat (first | (with_reducible first | exact HI0.out | apply IsS43.alloc | apply IsS43.drewN | apply IsS43.drew | apply IsS43.set_1 | refine IsS43.far ?_ NB0_161.out _) | exact HI0.out)) hb)
    have n3_ := m_ (blk_below (g := gb161) (o := .cells #[.int .i64 0, .int .i64 0, .int .i64 0, .int .i64 0, .int .i64 0, .string (⟨#[]⟩ : ByteArray), .string (⟨#[]⟩ : ByteArray)] 24 (0, 0)) (kN BK161.out) hb)
    have n4_ := m_ (KeepBut.trans (by repeat (first | (with_reducible first | exact HK.out | apply KeepBut.set_ | apply keep_drewN | apply keep_drew | apply keep_alloc | refine keep_far ?_ GW161.out _) | exact HK.out)) (KeepBut.of_below hb g none) (.inl rfl))
    have n5_ := m_ (below_step (by repeat (first | (with_reducible first | exact HB.out | apply below_alloc | apply pw_below_drewN | apply below_drew1 | refine below_set ?_ (IsS43.ge HI0.out) | refine below_set ?_ GE161.out) | exact HB.out)) hb)
    clear HO170
    clear HI0
    clear BK161
    clear HK
    clear HB
    have HO170 := n0_
    have HO177 := n1_
    have HI0 := n2_
    have BK161 := n3_
    have HK := n4_
    have HB := n5_
    clear n0_ n1_ n2_ n3_ n4_ n5_
    clear hb ho26
    obtain ⟨Ao27, co27, eo27⟩ := Kd.R_slice HO177.out
    (first | subst eo27 | (injection eo27 with f1_ f2_ f3_; have f4_ := f1_.symm; have f5_ := f3_.symm; clear f1_ f2_ f3_; subst f4_; subst f5_))
    refine hK.out _ _ trivial (fun hHeld => ?_)
    clear hK K
    refine np (h := ?_)
    refine one_ (i := 13) (N := some 16) #[true, true, true, true, true, true, true, true, true, true, true, true, true, true, true, false, false, false, false, true, false, false, false, false] rfl rfl (one_of HT_.out (by kernel_rfl)) (by decide) (fun K hK => ?_)
    refine goes_ Try.func11 (by kernel_rfl) rfl #[.pointer (some ⟨g, 0, none⟩), .slice Ao27 y175.length co27] (by rfl) rfl rfl gl_ ?_
    with_reducible refine (spec_l1Rd_one.calls k g s0_0 t174 _ _ y175 t178 t179 w0 _ ?side1 ?side2 ?side3 ?side4 ?side5 A7.out).mono ?_
    (case side1 => repeat (first | (with_reducible first | exact HI0.out | apply IsS43.alloc | apply IsS43.drewN | apply IsS43.drew | apply IsS43.set_1 | refine IsS43.far ?_ NB0_161.out _) | exact HI0.out))
    (case side2 => repeat (first | (with_reducible first | exact HB.out | apply below_alloc | apply pw_below_drewN | apply below_drew1 | refine below_set ?_ (IsS43.ge HI0.out) | refine below_set ?_ GE161.out) | exact HB.out))
    (case side3 => exact cN (Kd.R_reads' HO177.out).2.2)
    (case side4 => exact (Kd.R_reads' HO177.out).2.1)
    (case side5 => exact far_slice (IsS43.own_ne HI0.out HO177.out (by decide)))
    rintro e w28 ⟨rfl, hi, hb, hk⟩
    refine ⟨_, rfl, ?_⟩
    have n0_ := m_ (KeepBut.blk hk (g' := gb161) (o := .cells #[.int .i64 0, .int .i64 0, .int .i64 0, .int .i64 0, .int .i64 0, .string (⟨#[]⟩ : ByteArray), .string (⟨#[]⟩ : ByteArray)] 24 (0, 0)) (kN BK161.out) NB161_0.out (by simp))
    have n1_ := m_ (Kd.R_mono (Kd.R_keep (IsS43.apart (show IsS43 w0 _ g s0_0 t174 from by repeat (first | (with_reducible first | exact HI0.out | apply IsS43.alloc | apply IsS43.drewN | apply IsS43.drew | apply IsS43.set_1 | refine IsS43.far ?_ NB0_161.out _) | exact HI0.out)) (rN HO170.out) (by decide)) hk (fun _ h => h.2)) (fun _ h => h.1))
    have n2_ := m_ (Kd.R_mono (Kd.R_keep (IsS43.apart (show IsS43 w0 _ g s0_0 t174 from by repeat (first | (with_reducible first | exact HI0.out | apply IsS43.alloc | apply IsS43.drewN | apply IsS43.drew | apply IsS43.set_1 | refine IsS43.far ?_ NB0_161.out _) | exact HI0.out)) (rN HO177.out) (by decide)) hk (fun _ h => h.2)) (fun _ h => h.1))
    have n3_ := m_ (KeepBut.trans (by repeat (first | (with_reducible first | exact HK.out | apply KeepBut.set_ | apply keep_drewN | apply keep_drew | apply keep_alloc | refine keep_far ?_ GW161.out _) | exact HK.out)) hk (.inl rfl))
    have n4_ := m_ (hb)
    have n5_ := m_ (hi)
    clear BK161
    clear HO170
    clear HO177
    clear HK
    clear HB
    clear HI0
    have BK161 := n0_
    have HO170 := n1_
    have HO177 := n2_
    have HK := n3_
    have HB := n4_
    have HI0 := n5_
    clear n0_ n1_ n2_ n3_ n4_ n5_
    (try clear hb)
    (try clear hb2)
    (try clear hk)
    (try clear hi)
    refine hK.out _ _ trivial (fun hHeld => ?_)
    clear hK K
    refine np (h := ?_)
    refine one_ (i := 15) (N := some 18) #[true, true, true, true, true, true, true, true, true, true, true, true, true, true, true, true, false, false, false, true, false, false, false, false] rfl rfl (one_of HT_.out (by kernel_rfl)) (by decide) (fun K hK => ?_)
    refine goes_ Try.func19 (by kernel_rfl) rfl #[.pointer (some ⟨g, 0, none⟩), .int .i64 28] (by rfl) rfl rfl gl_ ?_
    with_reducible refine (spec_l15Text.calls k g s0_0 t179 28 t180 t181 w0 _ ?side1 ?side2 A8.out).mono ?_
    (case side1 => repeat (first | (with_reducible first | exact HI0.out | apply IsS43.alloc | apply IsS43.drewN | apply IsS43.drew | apply IsS43.set_1 | refine IsS43.far ?_ NB0_161.out _) | exact HI0.out))
    (case side2 => repeat (first | (with_reducible first | exact HB.out | apply below_alloc | apply pw_below_drewN | apply below_drew1 | refine below_set ?_ (IsS43.ge HI0.out) | refine below_set ?_ GE161.out) | exact HB.out))
    rintro e w29 ⟨rfl, hi, hb, hk⟩
    refine ⟨_, rfl, ?_⟩
    have n0_ := m_ (KeepBut.blk hk (g' := gb161) (o := .cells #[.int .i64 0, .int .i64 0, .int .i64 0, .int .i64 0, .int .i64 0, .string (⟨#[]⟩ : ByteArray), .string (⟨#[]⟩ : ByteArray)] 24 (0, 0)) (kN BK161.out) NB161_0.out (by simp))
    have n1_ := m_ (Kd.R_mono (Kd.R_keep (IsS43.apart (show IsS43 w0 _ g s0_0 t179 from by repeat (first | (with_reducible first | exact HI0.out | apply IsS43.alloc | apply IsS43.drewN | apply IsS43.drew | apply IsS43.set_1 | refine IsS43.far ?_ NB0_161.out _) | exact HI0.out)) (rN HO170.out) (by decide)) hk (fun _ h => h.2)) (fun _ h => h.1))
    have n2_ := m_ (Kd.R_mono (Kd.R_keep (IsS43.apart (show IsS43 w0 _ g s0_0 t179 from by repeat (first | (with_reducible first | exact HI0.out | apply IsS43.alloc | apply IsS43.drewN | apply IsS43.drew | apply IsS43.set_1 | refine IsS43.far ?_ NB0_161.out _) | exact HI0.out)) (rN HO177.out) (by decide)) hk (fun _ h => h.2)) (fun _ h => h.1))
    have n3_ := m_ (KeepBut.trans (by repeat (first | (with_reducible first | exact HK.out | apply KeepBut.set_ | apply keep_drewN | apply keep_drew | apply keep_alloc | refine keep_far ?_ GW161.out _) | exact HK.out)) hk (.inl rfl))
    have n4_ := m_ (hb)
    have n5_ := m_ (hi)
    clear BK161
    clear HO170
    clear HO177
    clear HK
    clear HB
    clear HI0
    have BK161 := n0_
    have HO170 := n1_
    have HO177 := n2_
    have HK := n3_
    have HB := n4_
    have HI0 := n5_
    clear n0_ n1_ n2_ n3_ n4_ n5_
    (try clear hb)
    (try clear hb2)
    (try clear hk)
    (try clear hi)
    refine hK.out _ _ trivial (fun hHeld => ?_)
    clear hK K
    refine np (h := ?_)
    refine one_ (i := 16) (N := some 19) #[true, true, true, true, true, true, true, true, true, true, true, true, true, true, true, true, true, false, false, true, false, false, false, false] rfl rfl (one_of HT_.out (by kernel_rfl)) (by decide) (fun K hK => ?_)
    refine goes_ Try.func20 (by kernel_rfl) rfl #[.string (⟨#[122]⟩ : ByteArray), .int .i64 28] (by rfl) rfl rfl gl_ ?_
    with_reducible refine (spec_l1Many.calls k (⟨#[122]⟩ : ByteArray) 28 t182 _ A9.out).mono ?_
    rintro e w' ⟨rfl, ⟨nd, rfl⟩⟩
    refine ⟨_, rfl, ?_⟩
    refine hK.out _ _ trivial (fun hHeld => ?_)
    clear hK K
    refine np (h := ?_)
    refine pu 17 20 HT_ (h := ?_)
    refine pu 18 21 HT_ (h := ?_)
    refine one_ (i := 20) (N := some 23) #[true, true, true, true, true, true, true, true, true, true, true, true, true, true, true, true, true, true, true, true, true, false, false, false] rfl rfl (one_of HT_.out (by kernel_rfl)) (by decide) (fun K hK => ?_)
    refine goes_ Try.func22 (by kernel_rfl) rfl #[.pointer (some ⟨g, 0, none⟩)] (by rfl) rfl rfl gl_ ?_
    with_reducible refine (spec_l15Farm.calls k g s0_0 t181 t183 t184 t185 t186 t187 t188 w0 _ ?side1 ?side2 A13.out).mono ?_
    (case side1 => repeat (first | (with_reducible first | exact HI0.out | apply IsS43.alloc | apply IsS43.drewN | apply IsS43.drew | apply IsS43.set_1 | refine IsS43.far ?_ NB0_161.out _) | exact HI0.out))
    (case side2 => repeat (first | (with_reducible first | exact HB.out | apply below_alloc | apply pw_below_drewN | apply below_drew1 | refine below_set ?_ (IsS43.ge HI0.out) | refine below_set ?_ GE161.out) | exact HB.out))
    rintro e w30 ⟨rfl, hi, hb, hk⟩
    refine ⟨_, rfl, ?_⟩
    have n0_ := m_ (KeepBut.blk hk (g' := gb161) (o := .cells #[.int .i64 0, .int .i64 0, .int .i64 0, .int .i64 0, .int .i64 0, .string (⟨#[]⟩ : ByteArray), .string (⟨#[]⟩ : ByteArray)] 24 (0, 0)) (kN BK161.out) NB161_0.out (by simp))
    have n1_ := m_ (Kd.R_mono (Kd.R_keep (IsS43.apart (show IsS43 w0 _ g s0_0 t181 from by repeat (first | (with_reducible first | exact HI0.out | apply IsS43.alloc | apply IsS43.drewN | apply IsS43.drew | apply IsS43.set_1 | refine IsS43.far ?_ NB0_161.out _) | exact HI0.out)) (rN HO170.out) (by decide)) hk (fun _ h => h.2)) (fun _ h => h.1))
    have n2_ := m_ (Kd.R_mono (Kd.R_keep (IsS43.apart (show IsS43 w0 _ g s0_0 t181 from by repeat (first | (with_reducible first | exact HI0.out | apply IsS43.alloc | apply IsS43.drewN | apply IsS43.drew | apply IsS43.set_1 | refine IsS43.far ?_ NB0_161.out _) | exact HI0.out)) (rN HO177.out) (by decide)) hk (fun _ h => h.2)) (fun _ h => h.1))
    have n3_ := m_ (KeepBut.trans (by repeat (first | (with_reducible first | exact HK.out | apply KeepBut.set_ | apply keep_drewN | apply keep_drew | apply keep_alloc | refine keep_far ?_ GW161.out _) | exact HK.out)) hk (.inl rfl))
    have n4_ := m_ (hb)
    have n5_ := m_ (hi)
    clear BK161
    clear HO170
    clear HO177
    clear HK
    clear HB
    clear HI0
    have BK161 := n0_
    have HO170 := n1_
    have HO177 := n2_
    have HK := n3_
    have HB := n4_
    have HI0 := n5_
    clear n0_ n1_ n2_ n3_ n4_ n5_
    (try clear hb)
    (try clear hb2)
    (try clear hk)
    (try clear hi)
    refine hK.out _ _ trivial (fun hHeld => ?_)
    clear hK K
    refine np (h := ?_)
    refine one_ (i := 21) (N := some 24) #[true, true, true, true, true, true, true, true, true, true, true, true, true, true, true, true, true, true, true, true, true, true, false, false] rfl rfl (one_of HT_.out (by kernel_rfl)) (by decide) (fun K hK => ?_)
    refine goes_ Try.func21 (by kernel_rfl) rfl #[.agg #[.bool t183, .bool t184, .bool t185, .int .i64 t186, .int .i64 t187]] (by rfl) rfl rfl gl_ ?_
    with_reducible refine (spec_FarmPut.calls k t183 t184 t185 t186 t187 t189 _ A14.out).mono ?_
    rintro e w31 ⟨rfl, hb⟩
    refine ⟨_, rfl, ?_⟩
    have n0_ := m_ (Kd.R_below (rN HO170.out) hb)
    have n1_ := m_ (Kd.R_below (rN HO177.out) hb)
    have n2_ := m_ (IsS43.below (by repeat (first | (with_reducible first | exact HI0.out | apply IsS43.alloc | apply IsS43.drewN | apply IsS43.drew | apply IsS43.set_1 | refine IsS43.far ?_ NB0_161.out _) | exact HI0.out)) hb)
    have n3_ := m_ (blk_below (g := gb161) (o := .cells #[.int .i64 0, .int .i64 0, .int .i64 0, .int .i64 0, .int .i64 0, .string (⟨#[]⟩ : ByteArray), .string (⟨#[]⟩ : ByteArray)] 24 (0, 0)) (kN BK161.out) hb)
    have n4_ := m_ (KeepBut.trans (by repeat (first | (with_reducible first | exact HK.out | apply KeepBut.set_ | apply keep_drewN | apply keep_drew | apply keep_alloc | refine keep_far ?_ GW161.out _) | exact HK.out)) (KeepBut.of_below hb g none) (.inl rfl))
    have n5_ := m_ (below_step (by repeat (first | (with_reducible first | exact HB.out | apply below_alloc | apply pw_below_drewN | apply below_drew1 | refine below_set ?_ (IsS43.ge HI0.out) | refine below_set ?_ GE161.out) | exact HB.out)) hb)
    clear HO170
    clear HO177
    clear HI0
    clear BK161
    clear HK
    clear HB
    have HO170 := n0_
    have HO177 := n1_
    have HI0 := n2_
    have BK161 := n3_
    have HK := n4_
    have HB := n5_
    clear n0_ n1_ n2_ n3_ n4_ n5_
    (try clear hb)
    (try clear hb2)
    (try clear hk)
    (try clear hi)
    refine hK.out _ _ trivial (fun hHeld => ?_)
    clear hK K
    refine np (h := ?_)
    refine pu 22 25 HT_ (h := ?_)
    refine one_ (i := 23) (N := none) #[true, true, true, true, true, true, true, true, true, true, true, true, true, true, true, true, true, true, true, true, true, true, true, true] rfl rfl (one_of HT_.out (by kernel_rfl)) (by decide) (fun K hK => ?_)
    have hs32 : w31.cell? ⟨gb161, 0, none⟩ = some (.int .i64 0) := bc BK161 0
    have hfs32 := blk_frozen BK161.out 0
    have hs33 : w31.cell? ⟨gb161, 1, none⟩ = some (.int .i64 0) := bc BK161 1
    have hfs33 := blk_frozen BK161.out 1
    have hs34 : w31.cell? ⟨gb161, 2, none⟩ = some (.int .i64 0) := bc BK161 2
    have hfs34 := blk_frozen BK161.out 2
    have hs35 : w31.cell? ⟨gb161, 3, none⟩ = some (.int .i64 0) := bc BK161 3
    have hfs35 := blk_frozen BK161.out 3
    have hs36 : w31.cell? ⟨gb161, 4, none⟩ = some (.int .i64 0) := bc BK161 4
    have hfs36 := blk_frozen BK161.out 4
    have hs37 : w31.cell? ⟨gb161, 5, none⟩ = some (.string (⟨#[]⟩ : ByteArray)) := bc BK161 5
    have hfs37 := blk_frozen BK161.out 5
    have hs38 : w31.cell? ⟨gb161, 6, none⟩ = some (.string (⟨#[]⟩ : ByteArray)) := bc BK161 6
    have hfs38 := blk_frozen BK161.out 6
    refine skip_ (w1 := ?_) (by rfl) rfl ?_ ?_
    rotate_left
    ·go_simp
     rfl
    refine hK.out _ _ trivial (fun hHeld => ?_)
    clear hK K
    refine done_ (done_of HT_.out (by kernel_rfl)) ?_
    try go_wp2
    refine bodyPost_ret (results_cell_row rfl _ _ gb161 24 #[.int .i64 5, .int .i64 t162, .int .i64 t164, .int .i64 t171, .int .i64 t178, .string ((t180 ++ t182).extract 0 28), .string t189] (0, 0) _ rfl (kP BK161.out) Try.underlying24 rfl (by kernel_rfl)) rfl ?_
    exact ⟨by first | rfl | (simp [errW_none, errW_some] <;> rfl) | (simp [*, errW_none, errW_some] <;> rfl), by repeat (first | (with_reducible first | exact HI0.out | apply IsS43.alloc | apply IsS43.drewN | apply IsS43.drew | apply IsS43.set_1 | refine IsS43.far ?_ NB0_161.out _) | exact HI0.out), by repeat (first | (with_reducible first | exact HB.out | apply below_alloc | apply pw_below_drewN | apply below_drew1 | refine below_set ?_ (IsS43.ge HI0.out) | refine below_set ?_ GE161.out) | exact HB.out), by repeat (first | (with_reducible first | exact HK.out | apply KeepBut.set_ | apply keep_drewN | apply keep_drew | apply keep_alloc | refine keep_far ?_ GW161.out _) | exact HK.out)⟩
   ·rw [if_neg c12] at H
    exact absurd H (by simp)
  ·rw [if_neg c11] at H
   exact absurd H (by simp)
 ·rw [if_neg c10] at H
  exact absurd H (by simp)

end Go.Proofs.Ytaolcmhgbanacaa.P
