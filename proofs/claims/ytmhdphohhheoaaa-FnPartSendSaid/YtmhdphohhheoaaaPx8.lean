/- The machine side of these statements, function by function: what each Go function answers (as a Lean function), and that it does. Written by a program (mp.py) for this claim. -/
import Derived.Test.YtmhdphohhheoaaaPx0
import Derived.Test.YtmhdphohhheoaaaPx2
import Derived.Test.YtmhdphohhheoaaaPx7
namespace Go.Proofs.Ytmhdphohhheoaaa.P
open Go.RowKit Go.Proofs.YtmhdphohhheoaaaW.PrintWords Go.Proofs.YtmhdphohhheoaaaW.PrintLast Go.Proofs.YtmhdphohhheoaaaW.PrintMore
attribute [local go_sem] max2_int min2_int max_two min_two max_three min_three max_four min_four   -- for this text's walks alone
set_option linter.unusedVariables false
set_option linter.unusedSimpArgs false

/-! ### spec_PartNew: function 17 -/
def spec_PartNew.f (k : Nat) (l0 : List (S53)) : Option ((List (S53)) × List Int × Int × Bool × List Int) := (spec_ProgOk.f k l0).bind fun t162 => (if t162 = true then ((some (([] : List (S53)) : List (S53))).bind fun y163 => (if y163.length + l0.length < 5864062014805 then (if 8 ≤ 35184372088832 then (some ((y163 ++ l0), (List.replicate 8 0), 0, false, ([] : List Int))) else (none)) else (none))) else (some (([] : List (S53)), ([] : List Int), 0, false, ([] : List Int))))
theorem spec_PartNew.mono : ∀ a0 k, LeO (spec_PartNew.f k a0) (spec_PartNew.f (k + 1) a0) := by
 intro a0 k
 unfold spec_PartNew.f
 repeat' first
   | (with_reducible exact spec_ProgOk.mono _ _)
   | (with_reducible exact LeO.refl _)
   | (with_reducible exact LeO.none _)
   | (with_reducible refine LeO.ite ?_ ?_)
   | (with_reducible refine LeO.bind ?_ (fun _ => ?_))
   | exact spec_ProgOk.mono _ _
   | exact LeO.none _
   | refine LeO.ite ?_ ?_
   | refine LeO.bind ?_ (fun _ => ?_)
set_option maxHeartbeats 8000000 in
set_option maxRecDepth 100000 in
theorem spec_PartNew.calls (k : Nat) (A0 : Option Addr) (c0 : Nat) (l0 : List (S53)) (r1 : List (S53)) (r2 : List Int) (r3 : Int) (r4 : Bool) (r5 : List Int) (w : World) (hr0 : Kd.C k53 w A0 l0.length l0) (hc0 : l0.length ≤ c0) (h : spec_PartNew.f k l0 = some (r1, r2, r3, r4, r5)) :
  Calls Try.prog 17 #[.slice A0 l0.length c0] w fun e w' => ∃ v0_ v1_ v4_ : Value, e = .returned (.agg #[v0_, v1_, .int .i64 r3, .bool r4, v4_]) ∧ Kd.R k53 53 w' w.heap.size (fun _ => True) v0_ r1 ∧ Kd.R (Kd.int .i64) 3 w' w.heap.size (fun k_ => some k_ ≠ (v4_ : Value).ownBlock) v1_ r2 ∧ Kd.R (Kd.int .i64) 3 w' w.heap.size (fun k_ => some k_ ≠ (v1_ : Value).ownBlock) v4_ r5 ∧ Below w.heap.size w w' := by
 have hu33 := Try.underlying33
 have HR0 := Aside0.mk hr0
 have HC0 := Aside0.mk hc0
 clear hr0 hc0
 have HB := m_ (Below.refl w.heap.size w)
 have H : ((spec_ProgOk.f k l0).bind fun t162 => (if t162 = true then ((some (([] : List (S53)) : List (S53))).bind fun y163 => (if y163.length + l0.length < 5864062014805 then (if 8 ≤ 35184372088832 then (some ((y163 ++ l0), (List.replicate 8 0), 0, false, ([] : List Int))) else (none)) else (none))) else (some (([] : List (S53)), ([] : List Int), 0, false, ([] : List Int))))) = some (r1, r2, r3, r4, r5) := h
 clear h
 replace H := Option.bind_eq_some_iff.mp H
 obtain ⟨t162, A20, H⟩ := H
 replace H : (if t162 = true then ((some (([] : List (S53)) : List (S53))).bind fun y163 => (if y163.length + l0.length < 5864062014805 then (if 8 ≤ 35184372088832 then (some ((y163 ++ l0), (List.replicate 8 0), 0, false, ([] : List Int))) else (none)) else (none))) else (some (([] : List (S53)), ([] : List Int), 0, false, ([] : List Int)))) = some (r1, r2, r3, r4, r5) := H
 have A2 := Aside0.mk A20
 clear A20
 by_cases c3 : t162 = true
 ·subst c3
  have H1 : ((some (([] : List (S53)) : List (S53))).bind fun y163 => (if y163.length + l0.length < 5864062014805 then (if 8 ≤ 35184372088832 then (some ((y163 ++ l0), (List.replicate 8 0), 0, false, ([] : List Int))) else (none)) else (none))) = some (r1, r2, r3, r4, r5) := by rw [if_pos rfl] at H; exact H
  clear H
  have H := H1
  clear H1
  obtain ⟨y163, hy163⟩ : ∃ y_ : List (S53), y_ = (([] : List (S53))) := ⟨_, rfl⟩
  replace H : (if y163.length + l0.length < 5864062014805 then (if 8 ≤ 35184372088832 then (some ((y163 ++ l0), (List.replicate 8 0), 0, false, ([] : List Int))) else (none)) else (none)) = some (r1, r2, r3, r4, r5) := by first | (rw [hy163]; with_reducible exact H) | (have H2_ := (Option.bind_some _ _).symm.trans H; rw [hy163]; with_reducible exact H2_) | (have H2_ := (Option.bind_some _ _).symm.trans H; with_reducible exact H2_) | with_reducible exact H | (rw [hy163]; exact H) | exact H
  have Ny163 := Aside0.mk hy163
  clear hy163
  by_cases c4 : y163.length + l0.length < 5864062014805
  ·rw [if_pos c4] at H
   have LMc4 := Aside0.mk c4
   clear c4
   obtain ⟨y166, hy166⟩ : ∃ y_ : List (S53), y_ = (y163 ++ l0) := ⟨_, rfl⟩
   replace H : (if 8 ≤ 35184372088832 then (some (y166, (List.replicate 8 0), 0, false, ([] : List Int))) else (none)) = some (r1, r2, r3, r4, r5) := by first | (rw [hy166]; with_reducible exact H) | (have H2_ := (Option.bind_some _ _).symm.trans H; rw [hy166]; with_reducible exact H2_) | (have H2_ := (Option.bind_some _ _).symm.trans H; with_reducible exact H2_) | with_reducible exact H | (rw [hy166]; exact H) | exact H
   have Ny166 := Aside0.mk hy166
   clear hy166
   by_cases c5 : 8 ≤ 35184372088832
   ·rw [if_pos c5] at H
    have c5b0 := eq_true c5
    have c5b1 : decide (8 ≤ 35184372088832) = true := decide_eq_true c5
    clear c5
    obtain ⟨y169, hy169⟩ : ∃ y_ : List Int, y_ = (List.replicate 8 0) := ⟨_, rfl⟩
    replace H : (some (y166, y169, 0, false, ([] : List Int))) = some (r1, r2, r3, r4, r5) := by first | (rw [hy169]; with_reducible exact H) | (have H2_ := (Option.bind_some _ _).symm.trans H; rw [hy169]; with_reducible exact H2_) | (have H2_ := (Option.bind_some _ _).symm.trans H; with_reducible exact H2_) | with_reducible exact H | (rw [hy169]; exact H) | exact H
    have Ny169 := Aside0.mk hy169
    clear hy169
    simp only [Option.some.injEq, Prod.mk.injEq] at H
    obtain ⟨rfl, rfl, rfl, rfl, rfl⟩ := H
    go_enter Try.func17, Try.ntmps17
    try go_wp2_with (first | ((with_reducible refine gate_dst (N := 2) rfl ?_); refine box_event ?hg (N := 2) ?hd (cs := #[.slice none 0 0, .slice none 0 0, .int .i64 0, .bool false, .slice none 0 0]) (t := 33) ?hr ?_; (case hd => rfl); (case hg => rfl); (case hr => first | (go_simp; done) | (go_simp; rfl)); intro gb161 hg w6 hbox hb; have n0_ := m_ (below_step (bN HB.out) hb); have n1_ := m_ (hbox); have n2_ := m_ ((by rw [hg]; exact (below_size (bN HB.out)) : w.heap.size ≤ gb161)); have n3_ := m_ ((by rw [hg]; exact (below_size (bN HB.out)) : w.heap.size ≤ gb161)); clear HB; have HB := n0_; have BK161 := n1_; have GW161 := n2_; have GE161 := n3_; clear n0_ n1_ n2_ n3_; clear hb hbox hg) | ((with_reducible refine gate_callee (f := 10) rfl ?_); refine goesL_ (some 4) rfl rfl Try.func10 (by kernel_rfl) rfl #[.slice A0 l0.length c0] rfl gl_ ?_; (with_reducible refine (spec_ProgOk.calls k _ _ l0 true _ ?side1 ?side2 A2.out).mono ?_); (case side1 => exact cN (Kd.C_below HR0.out HB.out)); (case side2 => exact HC0.out); rintro e w7 ⟨rfl, hb⟩; refine ⟨_, rfl, ?_⟩; have n0_ := m_ (blk_below (kN BK161.out) hb); have n1_ := m_ (below_step (bN HB.out) hb); clear BK161; clear HB; have BK161 := n0_; have HB := n1_; clear n0_ n1_; (try clear hb); (try clear hb2); (try clear hk); (try clear hi)))
    have n0_ := m_ (blk_drew BK161.out)
    have n1_ := m_ (below_drew1 HB.out)
    clear BK161
    clear HB
    have BK161 := n0_
    have HB := n1_
    clear n0_ n1_
    refine start_ (n := 6) (S := fun w' => True) (ds := []) #[false, false, false, false, false, false] (by kernel_rfl) rfl rfl trivial (fun hHeld => ?_)
    generalize w7.drew = w8 at BK161 HB hHeld ⊢
    refine pure_ (i := 1) (N := some 8) (v := ?_) (a' := ?_) #[false, true, false, false, false, false] rfl rfl (by kernel_rfl) (fun _ _ _ h => h) (Or.inl ⟨by rfl, ?_⟩) ?_ ?_
    rotate_left
    ·intro w'
     go_simp
     with_reducible rfl
    rotate_left
    ·simp only [Act.put, List.setIfInBounds_toArray, List.set_cons_zero, List.set_cons_succ, i64_w, i32_w]
     rfl
    refine join_ (σ := Value × Value × Value) 2 #[true, true, true, true, false, false] (fun s_ => [(7, s_.1), (9, s_.2.1), (10, s_.2.2)]) (fun s_ w' => (Kd.R k53 53 w' w.heap.size (fun _ => True) s_.2.1 y166) ∧ (Kd.R (Kd.int .i64) 3 w' w.heap.size (fun _ => True) s_.2.2 y169) ∧ (w'.heap[gb161]? = some (.cells #[.slice none 0 0, .slice none 0 0, .int .i64 0, .bool false, .slice none 0 0] 33 (0, 0))) ∧ (Below w.heap.size w w')) ?_ ?_
    rotate_left
    ·intro hCont
     refine two_ (i := 0) (j := 3) (Ni := some 7) (Nj := some 10) #[true, true, false, false, false, false] #[false, true, false, true, false, false] rfl rfl rfl rfl (by kernel_rfl) (by decide) (by decide) (fun K hK => ?_) (fun K hK => ?_)
     ·skip
      refine Kd.R_lit_step k53 _ 53 ?hg (N := 7) ?hd (xs := ([] : List (S53))) (inner := []) (ok := fun _ => True) (okp := fun _ => True) ?hr ?hp (fun _ hk => hk) trivial (Below.refl _ _) (Nat.le_refl _) (by simp) ?_; (case hd => rfl); (case hg => rfl); (case hr => first | (go_simp; done) | (go_simp; rfl)); (case hp => exact (Reps.none _ _))
      intro v164 w9 ho10 hb hg_ hnew_
      clear hg_ hnew_
      (first | rw [← Ny163.out] at ho10 | (simp only [Int.reduceToNat] at ho10; rw [← Ny163.out] at ho10))
      have n0_ := m_ (Kd.R_lower ho10 (below_size (bN HB.out)))
      have n1_ := m_ (blk_below (kN BK161.out) hb)
      have n2_ := m_ (below_step (bN HB.out) hb)
      clear BK161
      clear HB
      have HO165 := n0_
      have BK161 := n1_
      have HB := n2_
      clear n0_ n1_ n2_
      clear hb ho10
      refine hK.out _ _ trivial (fun hHeld => ?_)
      clear hK K
      refine norm_ (a' := ?_) ?_ ?_
      rotate_left
      ·show Act.put _ (some 7) _ = _
       simp only [Act.put, List.setIfInBounds_toArray, List.set_cons_zero, List.set_cons_succ, i64_w, i32_w]
       rfl
      refine two_ (i := 2) (j := 3) (Ni := some 9) (Nj := some 10) #[true, true, true, false, false, false] #[true, true, false, true, false, false] rfl rfl rfl rfl (by kernel_rfl) (by decide) (by decide) (fun K hK => ?_) (fun K hK => ?_)
      ·skip
       refine Kd.R_append_rows_step k53 (w0 := w) w.heap.size (by rfl) (.tmp 7) (.tmp 8) 25 53 (.agg #[(.int .i64 0), (.int .i64 0), (.int .i64 0)]) 24 rfl Try.underlying25 info53 rfl (by decide) (by omega) v164 y163 l0 _ _ _ (fun _ => True) (fun _ => False) rfl rfl ?aO ?aR (fun _ _ h => h) (fun _ h => h.elim) ?aF ?aB ?aS ?aL ?_
       (case aR => exact cN (Kd.C_below HR0.out HB.out))
       (case aB => exact (bN HB.out))
       (case aF => exact (fun _ _ => trivial))
       (case aO => exact (rN HO165.out))
       (case aS => exact (below_size (bN HB.out)))
       (case aL => have := LMc4.out; omega)
       intro v167 w11 ho hb hg hat
       rw [← Ny166.out] at ho
       have n0_ := m_ (blk_grown (g := gb161) (o := .cells #[.slice none 0 0, .slice none 0 0, .int .i64 0, .bool false, .slice none 0 0] 33 (0, 0)) (kN BK161.out) hg (Kd.R_ne HO165.out BK161.out (by decide)))
       have n1_ := m_ (hb)
       have n2_ := m_ (ho)
       clear BK161
       clear HB
       clear HO165
       have BK161 := n0_
       have HB := n1_
       have HO168 := n2_
       clear n0_ n1_ n2_
       clear ho hb hg hat
       refine hK.out _ _ trivial (fun hHeld => ?_)
       clear hK K
       refine norm_ (a' := ?_) ?_ ?_
       rotate_left
       ·show Act.put _ (some 9) _ = _
        simp only [Act.put, List.setIfInBounds_toArray, List.set_cons_zero, List.set_cons_succ, i64_w, i32_w]
        rfl
       refine one_ (i := 3) (N := some 10) #[true, true, true, true, false, false] rfl rfl (by kernel_rfl) (by decide) (fun K hK => ?_)
       refine Kd.R_make_step (Kd.int .i64) _ 3 (by rfl) (N := 10) rfl 31 _ _ rfl 8 rfl rfl Try.underlying31 (.int .i64 0) 8 info3 rfl (by decide) (by omega) 0 (ok := fun _ => True) (okp := fun _ => True) rfl (fun _ hk => hk) trivial (by omega) (by omega) (Below.refl _ _) (Nat.le_refl _) ?_
       intro v170 w12 ho13 hb hg_ hnew_
       clear hg_ hnew_
       (first | rw [← Ny169.out] at ho13 | (simp only [Int.reduceToNat] at ho13; rw [← Ny169.out] at ho13))
       have n0_ := m_ (Kd.R_below (rN HO168.out) hb)
       have n1_ := m_ (Kd.R_lower ho13 (below_size (bN HB.out)))
       have n2_ := m_ (blk_below (kN BK161.out) hb)
       have n3_ := m_ (below_step (bN HB.out) hb)
       clear HO168
       clear BK161
       clear HB
       have HO168 := n0_
       have HO171 := n1_
       have BK161 := n2_
       have HB := n3_
       clear n0_ n1_ n2_ n3_
       clear hb ho13
       obtain ⟨Ao14, co14, eo14⟩ := Kd.R_slice HO171.out
       (first | subst eo14 | (injection eo14 with f1_ f2_ f3_; have f4_ := f1_.symm; have f5_ := f3_.symm; clear f1_ f2_ f3_; subst f4_; subst f5_))
       obtain ⟨Ao15, co15, eo15⟩ := Kd.R_slice HO168.out
       (first | subst eo15 | (injection eo15 with f1_ f2_ f3_; have f4_ := f1_.symm; have f5_ := f3_.symm; clear f1_ f2_ f3_; subst f4_; subst f5_))
       refine hK.out _ _ trivial (fun hHeld => ?_)
       clear hK K
       refine norm_ (a' := ?_) ?_ ?_
       rotate_left
       ·show Act.put _ (some 10) _ = _
        simp only [Act.put, List.setIfInBounds_toArray, List.set_cons_zero, List.set_cons_succ, i64_w, i32_w]
        rfl
       exact norm_ (by simp only [putAll, Act.put, List.setIfInBounds_toArray, List.set_cons_zero, List.set_cons_succ]) (hCont (v164, .slice Ao15 y166.length co15, .slice Ao14 y169.length co14) _ ⟨(rN HO168.out), (rN HO171.out), (kN BK161.out), (bN HB.out)⟩)
      ·skip
       refine Kd.R_make_step (Kd.int .i64) _ 3 (by rfl) (N := 10) rfl 31 _ _ rfl 8 rfl rfl Try.underlying31 (.int .i64 0) 8 info3 rfl (by decide) (by omega) 0 (ok := fun _ => True) (okp := fun _ => True) rfl (fun _ hk => hk) trivial (by omega) (by omega) (Below.refl _ _) (Nat.le_refl _) ?_
       intro v170 w11 ho12 hb hg_ hnew_
       clear hg_ hnew_
       (first | rw [← Ny169.out] at ho12 | (simp only [Int.reduceToNat] at ho12; rw [← Ny169.out] at ho12))
       have n0_ := m_ (Kd.R_below (rN HO165.out) hb)
       have n1_ := m_ (Kd.R_lower ho12 (below_size (bN HB.out)))
       have n2_ := m_ (blk_below (kN BK161.out) hb)
       have n3_ := m_ (below_step (bN HB.out) hb)
       clear HO165
       clear BK161
       clear HB
       have HO165 := n0_
       have HO171 := n1_
       have BK161 := n2_
       have HB := n3_
       clear n0_ n1_ n2_ n3_
       clear hb ho12
       refine hK.out _ _ trivial (fun hHeld => ?_)
       clear hK K
       refine norm_ (a' := ?_) ?_ ?_
       rotate_left
       ·show Act.put _ (some 10) _ = _
        simp only [Act.put, List.setIfInBounds_toArray, List.set_cons_zero, List.set_cons_succ, i64_w, i32_w]
        rfl
       refine one_ (i := 2) (N := some 9) #[true, true, true, true, false, false] rfl rfl (by kernel_rfl) (by decide) (fun K hK => ?_)
       refine Kd.R_append_rows_step k53 (w0 := w) w.heap.size (by rfl) (.tmp 7) (.tmp 8) 25 53 (.agg #[(.int .i64 0), (.int .i64 0), (.int .i64 0)]) 24 rfl Try.underlying25 info53 rfl (by decide) (by omega) v164 y163 l0 _ _ _ (fun _ => True) (fun _ => False) rfl rfl ?aO ?aR (fun _ _ h => h) (fun _ h => h.elim) ?aF ?aB ?aS ?aL ?_
       (case aR => exact cN (Kd.C_below HR0.out HB.out))
       (case aB => exact (bN HB.out))
       (case aF => exact (fun _ _ => trivial))
       (case aO => exact (rN HO165.out))
       (case aS => exact (below_size (bN HB.out)))
       (case aL => have := LMc4.out; omega)
       intro v167 w13 ho hb hg hat
       rw [← Ny166.out] at ho
       have n0_ := m_ (blk_grown (g := gb161) (o := .cells #[.slice none 0 0, .slice none 0 0, .int .i64 0, .bool false, .slice none 0 0] 33 (0, 0)) (kN BK161.out) hg (Kd.R_ne HO165.out BK161.out (by decide)))
       have n1_ := m_ (Kd.R_over' (rN HO171.out) (Kd.R_typed (rN HO165.out)) (by decide) hg)
       have n2_ := m_ (hb)
       have n3_ := m_ (ho)
       clear BK161
       clear HO171
       clear HB
       clear HO165
       have BK161 := n0_
       have HO171 := n1_
       have HB := n2_
       have HO168 := n3_
       clear n0_ n1_ n2_ n3_
       clear ho hb hg hat
       obtain ⟨Ao14, co14, eo14⟩ := Kd.R_slice HO171.out
       (first | subst eo14 | (injection eo14 with f1_ f2_ f3_; have f4_ := f1_.symm; have f5_ := f3_.symm; clear f1_ f2_ f3_; subst f4_; subst f5_))
       obtain ⟨Ao15, co15, eo15⟩ := Kd.R_slice HO168.out
       (first | subst eo15 | (injection eo15 with f1_ f2_ f3_; have f4_ := f1_.symm; have f5_ := f3_.symm; clear f1_ f2_ f3_; subst f4_; subst f5_))
       refine hK.out _ _ trivial (fun hHeld => ?_)
       clear hK K
       refine norm_ (a' := ?_) ?_ ?_
       rotate_left
       ·show Act.put _ (some 9) _ = _
        simp only [Act.put, List.setIfInBounds_toArray, List.set_cons_zero, List.set_cons_succ, i64_w, i32_w]
        rfl
       exact norm_ (by simp only [putAll, Act.put, List.setIfInBounds_toArray, List.set_cons_zero, List.set_cons_succ]) (hCont (v164, .slice Ao15 y166.length co15, .slice Ao14 y169.length co14) _ ⟨(rN HO168.out), (rN HO171.out), (kN BK161.out), (bN HB.out)⟩)
     ·skip
      refine Kd.R_make_step (Kd.int .i64) _ 3 (by rfl) (N := 10) rfl 31 _ _ rfl 8 rfl rfl Try.underlying31 (.int .i64 0) 8 info3 rfl (by decide) (by omega) 0 (ok := fun _ => True) (okp := fun _ => True) rfl (fun _ hk => hk) trivial (by omega) (by omega) (Below.refl _ _) (Nat.le_refl _) ?_
      intro v170 w9 ho10 hb hg_ hnew_
      clear hg_ hnew_
      (first | rw [← Ny169.out] at ho10 | (simp only [Int.reduceToNat] at ho10; rw [← Ny169.out] at ho10))
      have n0_ := m_ (Kd.R_lower ho10 (below_size (bN HB.out)))
      have n1_ := m_ (blk_below (kN BK161.out) hb)
      have n2_ := m_ (below_step (bN HB.out) hb)
      clear BK161
      clear HB
      have HO171 := n0_
      have BK161 := n1_
      have HB := n2_
      clear n0_ n1_ n2_
      clear hb ho10
      refine hK.out _ _ trivial (fun hHeld => ?_)
      clear hK K
      refine norm_ (a' := ?_) ?_ ?_
      rotate_left
      ·show Act.put _ (some 10) _ = _
       simp only [Act.put, List.setIfInBounds_toArray, List.set_cons_zero, List.set_cons_succ, i64_w, i32_w]
       rfl
      refine one_ (i := 0) (N := some 7) #[true, true, false, true, false, false] rfl rfl (by kernel_rfl) (by decide) (fun K hK => ?_)
      refine Kd.R_lit_step k53 _ 53 ?hg (N := 7) ?hd (xs := ([] : List (S53))) (inner := []) (ok := fun _ => True) (okp := fun _ => True) ?hr ?hp (fun _ hk => hk) trivial (Below.refl _ _) (Nat.le_refl _) (by simp) ?_; (case hd => rfl); (case hg => rfl); (case hr => first | (go_simp; done) | (go_simp; rfl)); (case hp => exact (Reps.none _ _))
      intro v164 w11 ho12 hb hg_ hnew_
      clear hg_ hnew_
      (first | rw [← Ny163.out] at ho12 | (simp only [Int.reduceToNat] at ho12; rw [← Ny163.out] at ho12))
      have n0_ := m_ (Kd.R_below (rN HO171.out) hb)
      have n1_ := m_ (Kd.R_lower ho12 (below_size (bN HB.out)))
      have n2_ := m_ (blk_below (kN BK161.out) hb)
      have n3_ := m_ (below_step (bN HB.out) hb)
      clear HO171
      clear BK161
      clear HB
      have HO171 := n0_
      have HO165 := n1_
      have BK161 := n2_
      have HB := n3_
      clear n0_ n1_ n2_ n3_
      clear hb ho12
      refine hK.out _ _ trivial (fun hHeld => ?_)
      clear hK K
      refine norm_ (a' := ?_) ?_ ?_
      rotate_left
      ·show Act.put _ (some 7) _ = _
       simp only [Act.put, List.setIfInBounds_toArray, List.set_cons_zero, List.set_cons_succ, i64_w, i32_w]
       rfl
      refine one_ (i := 2) (N := some 9) #[true, true, true, true, false, false] rfl rfl (by kernel_rfl) (by decide) (fun K hK => ?_)
      refine Kd.R_append_rows_step k53 (w0 := w) w.heap.size (by rfl) (.tmp 7) (.tmp 8) 25 53 (.agg #[(.int .i64 0), (.int .i64 0), (.int .i64 0)]) 24 rfl Try.underlying25 info53 rfl (by decide) (by omega) v164 y163 l0 _ _ _ (fun _ => True) (fun _ => False) rfl rfl ?aO ?aR (fun _ _ h => h) (fun _ h => h.elim) ?aF ?aB ?aS ?aL ?_
      (case aR => exact cN (Kd.C_below HR0.out HB.out))
      (case aB => exact (bN HB.out))
      (case aF => exact (fun _ _ => trivial))
      (case aO => exact (rN HO165.out))
      (case aS => exact (below_size (bN HB.out)))
      (case aL => have := LMc4.out; omega)
      intro v167 w13 ho hb hg hat
      rw [← Ny166.out] at ho
      have n0_ := m_ (blk_grown (g := gb161) (o := .cells #[.slice none 0 0, .slice none 0 0, .int .i64 0, .bool false, .slice none 0 0] 33 (0, 0)) (kN BK161.out) hg (Kd.R_ne HO165.out BK161.out (by decide)))
      have n1_ := m_ (Kd.R_over' (rN HO171.out) (Kd.R_typed (rN HO165.out)) (by decide) hg)
      have n2_ := m_ (hb)
      have n3_ := m_ (ho)
      clear BK161
      clear HO171
      clear HB
      clear HO165
      have BK161 := n0_
      have HO171 := n1_
      have HB := n2_
      have HO168 := n3_
      clear n0_ n1_ n2_ n3_
      clear ho hb hg hat
      obtain ⟨Ao14, co14, eo14⟩ := Kd.R_slice HO171.out
      (first | subst eo14 | (injection eo14 with f1_ f2_ f3_; have f4_ := f1_.symm; have f5_ := f3_.symm; clear f1_ f2_ f3_; subst f4_; subst f5_))
      obtain ⟨Ao15, co15, eo15⟩ := Kd.R_slice HO168.out
      (first | subst eo15 | (injection eo15 with f1_ f2_ f3_; have f4_ := f1_.symm; have f5_ := f3_.symm; clear f1_ f2_ f3_; subst f4_; subst f5_))
      refine hK.out _ _ trivial (fun hHeld => ?_)
      clear hK K
      refine norm_ (a' := ?_) ?_ ?_
      rotate_left
      ·show Act.put _ (some 9) _ = _
       simp only [Act.put, List.setIfInBounds_toArray, List.set_cons_zero, List.set_cons_succ, i64_w, i32_w]
       rfl
      exact norm_ (by simp only [putAll, Act.put, List.setIfInBounds_toArray, List.set_cons_zero, List.set_cons_succ]) (hCont (v164, .slice Ao15 y166.length co15, .slice Ao14 y169.length co14) _ ⟨(rN HO168.out), (rN HO171.out), (kN BK161.out), (bN HB.out)⟩)
    rintro ⟨v164, v167, v170⟩ w16 ⟨h0_, h1_, h2_, h3_⟩
    have n0_ : Aside0 (Kd.R k53 53 w16 w.heap.size (fun _ => True) v167 y166) := ⟨h0_⟩
    have n1_ : Aside0 (Kd.R (Kd.int .i64) 3 w16 w.heap.size (fun _ => True) v170 y169) := ⟨h1_⟩
    have n2_ : Aside0 (w16.heap[gb161]? = some (.cells #[.slice none 0 0, .slice none 0 0, .int .i64 0, .bool false, .slice none 0 0] 33 (0, 0))) := ⟨h2_⟩
    have n3_ : Aside0 (Below w.heap.size w w16) := ⟨h3_⟩
    clear BK161
    clear HB
    clear h0_ h1_ h2_ h3_
    have HO168 := n0_
    have HO171 := n1_
    have BK161 := n2_
    have HB := n3_
    clear n0_ n1_ n2_ n3_
    have hHeld := trivial
    obtain ⟨Ao17, co17, eo17⟩ := Kd.R_slice HO171.out
    (first | subst eo17 | (injection eo17 with f1_ f2_ f3_; have f4_ := f1_.symm; have f5_ := f3_.symm; clear f1_ f2_ f3_; subst f4_; subst f5_))
    obtain ⟨Ao18, co18, eo18⟩ := Kd.R_slice HO168.out
    (first | subst eo18 | (injection eo18 with f1_ f2_ f3_; have f4_ := f1_.symm; have f5_ := f3_.symm; clear f1_ f2_ f3_; subst f4_; subst f5_))
    refine norm_ (a' := ?_) ?_ ?_
    rotate_left
    ·simp only [putAll, Act.put, List.setIfInBounds_toArray, List.set_cons_zero, List.set_cons_succ]
     rfl
    refine pure_ (i := 4) (N := some 11) (v := ?_) (a' := ?_) #[true, true, true, true, true, false] rfl rfl (by kernel_rfl) (fun _ _ _ h => h) (Or.inl ⟨by rfl, ?_⟩) ?_ ?_
    rotate_left
    ·intro w'
     go_simp
     with_reducible rfl
    rotate_left
    ·simp only [Act.put, List.setIfInBounds_toArray, List.set_cons_zero, List.set_cons_succ, i64_w, i32_w]
     rfl
    refine one_ (i := 5) (N := none) #[true, true, true, true, true, true] rfl rfl (by kernel_rfl) (by decide) (fun K hK => ?_)
    have hs19 : w16.cell? ⟨gb161, 0, none⟩ = some (.slice none 0 0) := (blk_cell BK161.out 0).trans rfl
    have hfs19 := blk_frozen BK161.out 0
    have hs20 : w16.cell? ⟨gb161, 1, none⟩ = some (.slice none 0 0) := (blk_cell BK161.out 1).trans rfl
    have hfs20 := blk_frozen BK161.out 1
    have hs21 : w16.cell? ⟨gb161, 2, none⟩ = some (.int .i64 0) := (blk_cell BK161.out 2).trans rfl
    have hfs21 := blk_frozen BK161.out 2
    have hs22 : w16.cell? ⟨gb161, 3, none⟩ = some (.bool false) := (blk_cell BK161.out 3).trans rfl
    have hfs22 := blk_frozen BK161.out 3
    have hs23 : w16.cell? ⟨gb161, 4, none⟩ = some (.slice none 0 0) := (blk_cell BK161.out 4).trans rfl
    have hfs23 := blk_frozen BK161.out 4
    refine skip_ (w1 := ?_) (by rfl) rfl ?_ ?_
    rotate_left
    ·go_simp
     rfl
    refine hK.out _ _ trivial (fun hHeld => ?_)
    clear hK K
    refine done_ (by kernel_rfl) ?_
    try go_wp2
    refine bodyPost_ret (results_cell_row rfl _ _ gb161 33 #[.slice Ao18 y166.length co18, .slice Ao17 y169.length co17, .int .i64 0, .bool false, .slice none 0 0] (0, 0) _ rfl (by (with_reducible repeat (first | refine blk_drewN ?_ _ | refine blk_drew ?_ | refine blk_alloc ?_ _)); refine blk_put (cs := #[.slice Ao18 y166.length co18, .slice Ao17 y169.length co17, .int .i64 0, .bool false, .slice none 0 0]) ?_ 4 _ rfl; (with_reducible repeat (first | refine blk_drewN ?_ _ | refine blk_drew ?_ | refine blk_alloc ?_ _)); refine blk_put (cs := #[.slice Ao18 y166.length co18, .slice Ao17 y169.length co17, .int .i64 0, .bool false, .slice none 0 0]) ?_ 3 _ rfl; (with_reducible repeat (first | refine blk_drewN ?_ _ | refine blk_drew ?_ | refine blk_alloc ?_ _)); refine blk_put (cs := #[.slice Ao18 y166.length co18, .slice Ao17 y169.length co17, .int .i64 0, .bool false, .slice none 0 0]) ?_ 2 _ rfl; (with_reducible repeat (first | refine blk_drewN ?_ _ | refine blk_drew ?_ | refine blk_alloc ?_ _)); refine blk_put (cs := #[.slice Ao18 y166.length co18, .slice none 0 0, .int .i64 0, .bool false, .slice none 0 0]) ?_ 1 _ rfl; (with_reducible repeat (first | refine blk_drewN ?_ _ | refine blk_drew ?_ | refine blk_alloc ?_ _)); refine blk_put (cs := #[.slice none 0 0, .slice none 0 0, .int .i64 0, .bool false, .slice none 0 0]) ?_ 0 _ rfl; (with_reducible repeat (first | refine blk_drewN ?_ _ | refine blk_drew ?_ | refine blk_alloc ?_ _)); exact BK161.out) Try.underlying33 rfl (by kernel_rfl)) rfl ?_
    exact ⟨_, _, _, by first | rfl | (simp [errW_none, errW_some] <;> rfl) | (simp [*, errW_none, errW_some] <;> rfl), by (with_reducible repeat (first | apply Kd.R_alloc | apply Kd.R_drewN | apply Kd.R_drew)); exact frM (Kd.R_types HO168.out BK161.out (by decide)), by (with_reducible repeat (first | apply Kd.R_alloc | apply Kd.R_drewN | apply Kd.R_drew)); exact Kd.R_mono (Kd.R_far (p := ⟨gb161, 4, none⟩) (Kd.R_far (p := ⟨gb161, 3, none⟩) (Kd.R_far (p := ⟨gb161, 2, none⟩) (Kd.R_far (p := ⟨gb161, 1, none⟩) (Kd.R_far (p := ⟨gb161, 0, none⟩) (Kd.R_types HO171.out BK161.out (by decide)) (fun _ hk => hk.2) (.slice Ao18 y166.length co18)) (fun _ hk => hk.2) (.slice Ao17 y169.length co17)) (fun _ hk => hk.2) (.int .i64 0)) (fun _ hk => hk.2) (.bool false)) (fun _ hk => hk.2) (.slice none 0 0)) (fun _ hk => (by simp [Value.ownBlock])), by first | exact Kd.R_nil _ _ _ _ _ | exact Kd.N_nil _ _ _ _ _ | exact Kd.V_nil _ _ _ _ _ | exact Kd.Q_nil _ _ _ _ _ | exact Kd.S_nil _ _ _ _ _, by repeat (first | (with_reducible first | exact HB.out | apply below_alloc | apply pw_below_drewN | apply below_drew1 | refine below_set ?_ GE161.out) | exact HB.out)⟩
   ·rw [if_neg c5] at H
    exact absurd H (by simp)
  ·rw [if_neg c4] at H
   exact absurd H (by simp)
 ·replace c3 := Bool.eq_false_iff.mpr c3
  subst c3
  have H1 : (some (([] : List (S53)), ([] : List Int), 0, false, ([] : List Int))) = some (r1, r2, r3, r4, r5) := by rw [if_neg (show ¬ (false = true) by decide)] at H; exact H
  clear H
  have H := H1
  clear H1
  simp only [Option.some.injEq, Prod.mk.injEq] at H
  obtain ⟨rfl, rfl, rfl, rfl, rfl⟩ := H
  go_enter Try.func17, Try.ntmps17
  go_wp2_with (first | ((with_reducible refine gate_dst (N := 2) rfl ?_); refine box_event ?hg (N := 2) ?hd (cs := #[.slice none 0 0, .slice none 0 0, .int .i64 0, .bool false, .slice none 0 0]) (t := 33) ?hr ?_; (case hd => rfl); (case hg => rfl); (case hr => first | (go_simp; done) | (go_simp; rfl)); intro gb161 hg w24 hbox hb; have n0_ := m_ (below_step (bN HB.out) hb); have n1_ := m_ (hbox); have n2_ := m_ ((by rw [hg]; exact (below_size (bN HB.out)) : w.heap.size ≤ gb161)); have n3_ := m_ ((by rw [hg]; exact (below_size (bN HB.out)) : w.heap.size ≤ gb161)); clear HB; have HB := n0_; have BK161 := n1_; have GW161 := n2_; have GE161 := n3_; clear n0_ n1_ n2_ n3_; clear hb hbox hg) | ((with_reducible refine gate_callee (f := 10) rfl ?_); refine goesL_ (some 4) rfl rfl Try.func10 (by kernel_rfl) rfl #[.slice A0 l0.length c0] rfl gl_ ?_; (with_reducible refine (spec_ProgOk.calls k _ _ l0 false _ ?side1 ?side2 A2.out).mono ?_); (case side1 => exact cN (Kd.C_below HR0.out HB.out)); (case side2 => exact HC0.out); rintro e w25 ⟨rfl, hb⟩; refine ⟨_, rfl, ?_⟩; have n0_ := m_ (blk_below (kN BK161.out) hb); have n1_ := m_ (below_step (bN HB.out) hb); clear BK161; clear HB; have BK161 := n0_; have HB := n1_; clear n0_ n1_; (try clear hb); (try clear hb2); (try clear hk); (try clear hi); have hcz26_0 : w25.cell? ⟨gb161, 0, none⟩ = some (.slice none 0 0) := (blk_cell BK161.out 0).trans rfl; have hcz26_1 : w25.cell? ⟨gb161, 1, none⟩ = some (.slice none 0 0) := (blk_cell BK161.out 1).trans rfl; have hcz26_2 : w25.cell? ⟨gb161, 2, none⟩ = some (.int .i64 0) := (blk_cell BK161.out 2).trans rfl; have hcz26_3 : w25.cell? ⟨gb161, 3, none⟩ = some (.bool false) := (blk_cell BK161.out 3).trans rfl; have hcz26_4 : w25.cell? ⟨gb161, 4, none⟩ = some (.slice none 0 0) := (blk_cell BK161.out 4).trans rfl; have hfz26_0 := blk_frozen BK161.out 0; have hfz26_1 := blk_frozen BK161.out 1; have hfz26_2 := blk_frozen BK161.out 2; have hfz26_3 := blk_frozen BK161.out 3; have hfz26_4 := blk_frozen BK161.out 4))
  refine bodyPost_ret (results_cell_row rfl _ _ gb161 33 #[.slice none 0 0, .slice none 0 0, .int .i64 0, .bool false, .slice none 0 0] (0, 0) _ rfl (by (with_reducible repeat (first | refine blk_drewN ?_ _ | refine blk_drew ?_ | refine blk_alloc ?_ _)); refine blk_put (cs := #[.slice none 0 0, .slice none 0 0, .int .i64 0, .bool false, .slice none 0 0]) ?_ 4 _ rfl; (with_reducible repeat (first | refine blk_drewN ?_ _ | refine blk_drew ?_ | refine blk_alloc ?_ _)); refine blk_put (cs := #[.slice none 0 0, .slice none 0 0, .int .i64 0, .bool false, .slice none 0 0]) ?_ 3 _ rfl; (with_reducible repeat (first | refine blk_drewN ?_ _ | refine blk_drew ?_ | refine blk_alloc ?_ _)); refine blk_put (cs := #[.slice none 0 0, .slice none 0 0, .int .i64 0, .bool false, .slice none 0 0]) ?_ 2 _ rfl; (with_reducible repeat (first | refine blk_drewN ?_ _ | refine blk_drew ?_ | refine blk_alloc ?_ _)); refine blk_put (cs := #[.slice none 0 0, .slice none 0 0, .int .i64 0, .bool false, .slice none 0 0]) ?_ 1 _ rfl; (with_reducible repeat (first | refine blk_drewN ?_ _ | refine blk_drew ?_ | refine blk_alloc ?_ _)); refine blk_put (cs := #[.slice none 0 0, .slice none 0 0, .int .i64 0, .bool false, .slice none 0 0]) ?_ 0 _ rfl; (with_reducible repeat (first | refine blk_drewN ?_ _ | refine blk_drew ?_ | refine blk_alloc ?_ _)); exact BK161.out) Try.underlying33 rfl (by kernel_rfl)) rfl ?_
  exact ⟨_, _, _, by first | rfl | (simp [errW_none, errW_some] <;> rfl) | (simp [*, errW_none, errW_some] <;> rfl), by first | exact Kd.R_nil _ _ _ _ _ | exact Kd.N_nil _ _ _ _ _ | exact Kd.V_nil _ _ _ _ _ | exact Kd.Q_nil _ _ _ _ _ | exact Kd.S_nil _ _ _ _ _, by first | exact Kd.R_nil _ _ _ _ _ | exact Kd.N_nil _ _ _ _ _ | exact Kd.V_nil _ _ _ _ _ | exact Kd.Q_nil _ _ _ _ _ | exact Kd.S_nil _ _ _ _ _, by first | exact Kd.R_nil _ _ _ _ _ | exact Kd.N_nil _ _ _ _ _ | exact Kd.V_nil _ _ _ _ _ | exact Kd.Q_nil _ _ _ _ _ | exact Kd.S_nil _ _ _ _ _, by repeat (first | (with_reducible first | exact HB.out | apply below_alloc | apply pw_below_drewN | apply below_drew1 | refine below_set ?_ GE161.out) | exact HB.out)⟩

/-! ### spec_l15Op: function 57 -/
mutual
def spec_l15Op.j0 : Nat → Int → Int → Bool → List Int → Int → Int → Int → Int → Option (Int × Int × Int × Int)
 | 0, _, _, _, _, _, _, _, _ => none
 | k + 1, x1, x13, x14, x1000, x1001, x178000, x178001, x178002 => if x14 = true then ((spec_l1Rd_pick.f k x1000 x1001 20).bind fun bt178 => ((spec_l1Rd_one.f k x1000 bt178.2 (([bt178.1, 9999, 1] : List Int))).bind fun bt183 => (some (x178000, x178001, bt183.1, bt183.2)))) else (if x13 = 2 then (spec_l15Op.j1 k x1 x13 (x13 == 2) x1000 x1001 x178000 x178001 x178002) else (spec_l15Op.j1 k x1 x13 (x13 == 13) x1000 x1001 x178000 x178001 x178002))
def spec_l15Op.j1 : Nat → Int → Int → Bool → List Int → Int → Int → Int → Int → Option (Int × Int × Int × Int)
 | 0, _, _, _, _, _, _, _, _ => none
 | k + 1, x1, x13, x23, x1000, x1001, x178000, x178001, x178002 => if x23 = true then ((spec_l1Rd_pick.f k x1000 x1001 8).bind fun bt185 => (some (x178000, x178001, bt185.1, bt185.2))) else (if x13 = 5 then ((spec_l1Rd_pick.f k x1000 x1001 x1).bind fun bt187 => (some (x178000, x178001, bt187.1, bt187.2))) else (if x13 = 9 then (spec_l15Op.j2 k x13 (x13 == 9) x1000 x1001 x178000 x178001 x178002) else (spec_l15Op.j2 k x13 (x13 == 10) x1000 x1001 x178000 x178001 x178002)))
def spec_l15Op.j2 : Nat → Int → Bool → List Int → Int → Int → Int → Int → Option (Int × Int × Int × Int)
 | 0, _, _, _, _, _, _, _ => none
 | k + 1, x13, x35, x1000, x1001, x178000, x178001, x178002 => if x35 = true then ((spec_l1Rd_pick.f k x1000 x1001 4).bind fun bt189 => (some (x178000, x178001, bt189.1, bt189.2))) else (if x13 = 11 then (some (x178000, 0, x178002, x1001)) else (some (x178000, x178001, x178002, x1001)))
end
def spec_l15Op.f (k : Nat) (s0_0 : List Int) (s0_1 : Int) (a1 : Int) : Option (Int × Int × Int × Int) := (spec_l1Rd_pick.f k s0_0 s0_1 13).bind fun bt173 => ((spec_l1Rd_pick.f k s0_0 bt173.2 8).bind fun bt175 => (if (wrap64 (1 + bt173.1)) = 1 then (spec_l15Op.j0 k a1 (wrap64 (1 + bt173.1)) ((wrap64 (1 + bt173.1)) == 1) s0_0 bt175.2 (wrap64 (1 + bt173.1)) bt175.1 0) else (spec_l15Op.j0 k a1 (wrap64 (1 + bt173.1)) ((wrap64 (1 + bt173.1)) == 3) s0_0 bt175.2 (wrap64 (1 + bt173.1)) bt175.1 0)))
theorem spec_l15Op.mono_l : ∀ k, (∀ y0 y1 y2 y3 y4 y5 y6 y7, LeO (spec_l15Op.j0 k y0 y1 y2 y3 y4 y5 y6 y7) (spec_l15Op.j0 (k + 1) y0 y1 y2 y3 y4 y5 y6 y7)) ∧ (∀ y0 y1 y2 y3 y4 y5 y6 y7, LeO (spec_l15Op.j1 k y0 y1 y2 y3 y4 y5 y6 y7) (spec_l15Op.j1 (k + 1) y0 y1 y2 y3 y4 y5 y6 y7)) ∧ (∀ y0 y1 y2 y3 y4 y5 y6, LeO (spec_l15Op.j2 k y0 y1 y2 y3 y4 y5 y6) (spec_l15Op.j2 (k + 1) y0 y1 y2 y3 y4 y5 y6))
 | 0 => ⟨fun _ _ _ _ _ _ _ _ r h => by simp [spec_l15Op.j0] at h, fun _ _ _ _ _ _ _ _ r h => by simp [spec_l15Op.j1] at h, fun _ _ _ _ _ _ _ r h => by simp [spec_l15Op.j2] at h⟩
 | k + 1 => by
  obtain ⟨ih0, ih1, ih2⟩ := spec_l15Op.mono_l k
  refine ⟨?_, ?_, ?_⟩
  ·intro y0 y1 y2 y3 y4 y5 y6 y7
   unfold spec_l15Op.j0
   repeat' first
   | (with_reducible exact ih0 _ _ _ _ _ _ _ _)
   | (with_reducible exact ih1 _ _ _ _ _ _ _ _)
   | (with_reducible exact ih2 _ _ _ _ _ _ _)
   | (with_reducible exact spec_l1Rd_one.mono _ _ _ _)
   | (with_reducible exact spec_l1Rd_pick.mono _ _ _ _)
   | (with_reducible exact LeO.refl _)
   | (with_reducible exact LeO.none _)
   | (with_reducible refine LeO.ite ?_ ?_)
   | (with_reducible refine LeO.bind ?_ (fun _ => ?_))
   | exact ih0 _ _ _ _ _ _ _ _
   | exact ih1 _ _ _ _ _ _ _ _
   | exact ih2 _ _ _ _ _ _ _
   | exact spec_l1Rd_one.mono _ _ _ _
   | exact spec_l1Rd_pick.mono _ _ _ _
   | exact LeO.none _
   | refine LeO.ite ?_ ?_
   | refine LeO.bind ?_ (fun _ => ?_)
  ·intro y0 y1 y2 y3 y4 y5 y6 y7
   unfold spec_l15Op.j1
   repeat' first
   | (with_reducible exact ih0 _ _ _ _ _ _ _ _)
   | (with_reducible exact ih1 _ _ _ _ _ _ _ _)
   | (with_reducible exact ih2 _ _ _ _ _ _ _)
   | (with_reducible exact spec_l1Rd_one.mono _ _ _ _)
   | (with_reducible exact spec_l1Rd_pick.mono _ _ _ _)
   | (with_reducible exact LeO.refl _)
   | (with_reducible exact LeO.none _)
   | (with_reducible refine LeO.ite ?_ ?_)
   | (with_reducible refine LeO.bind ?_ (fun _ => ?_))
   | exact ih0 _ _ _ _ _ _ _ _
   | exact ih1 _ _ _ _ _ _ _ _
   | exact ih2 _ _ _ _ _ _ _
   | exact spec_l1Rd_one.mono _ _ _ _
   | exact spec_l1Rd_pick.mono _ _ _ _
   | exact LeO.none _
   | refine LeO.ite ?_ ?_
   | refine LeO.bind ?_ (fun _ => ?_)
  ·intro y0 y1 y2 y3 y4 y5 y6
   unfold spec_l15Op.j2
   repeat' first
   | (with_reducible exact ih0 _ _ _ _ _ _ _ _)
   | (with_reducible exact ih1 _ _ _ _ _ _ _ _)
   | (with_reducible exact ih2 _ _ _ _ _ _ _)
   | (with_reducible exact spec_l1Rd_one.mono _ _ _ _)
   | (with_reducible exact spec_l1Rd_pick.mono _ _ _ _)
   | (with_reducible exact LeO.refl _)
   | (with_reducible exact LeO.none _)
   | (with_reducible refine LeO.ite ?_ ?_)
   | (with_reducible refine LeO.bind ?_ (fun _ => ?_))
   | exact ih0 _ _ _ _ _ _ _ _
   | exact ih1 _ _ _ _ _ _ _ _
   | exact ih2 _ _ _ _ _ _ _
   | exact spec_l1Rd_one.mono _ _ _ _
   | exact spec_l1Rd_pick.mono _ _ _ _
   | exact LeO.none _
   | refine LeO.ite ?_ ?_
   | refine LeO.bind ?_ (fun _ => ?_)
theorem spec_l15Op.mono : ∀ a0 a1 a2 k, LeO (spec_l15Op.f k a0 a1 a2) (spec_l15Op.f (k + 1) a0 a1 a2) := by
 intro a0 a1 a2 k
 obtain ⟨ih0, ih1, ih2⟩ := spec_l15Op.mono_l k
 unfold spec_l15Op.f
 repeat' first
   | (with_reducible exact ih0 _ _ _ _ _ _ _ _)
   | (with_reducible exact ih1 _ _ _ _ _ _ _ _)
   | (with_reducible exact ih2 _ _ _ _ _ _ _)
   | (with_reducible exact spec_l1Rd_one.mono _ _ _ _)
   | (with_reducible exact spec_l1Rd_pick.mono _ _ _ _)
   | (with_reducible exact LeO.refl _)
   | (with_reducible exact LeO.none _)
   | (with_reducible refine LeO.ite ?_ ?_)
   | (with_reducible refine LeO.bind ?_ (fun _ => ?_))
   | exact ih0 _ _ _ _ _ _ _ _
   | exact ih1 _ _ _ _ _ _ _ _
   | exact ih2 _ _ _ _ _ _ _
   | exact spec_l1Rd_one.mono _ _ _ _
   | exact spec_l1Rd_pick.mono _ _ _ _
   | exact LeO.none _
   | refine LeO.ite ?_ ?_
   | refine LeO.bind ?_ (fun _ => ?_)
set_option maxHeartbeats 8000000 in
set_option maxRecDepth 100000 in
theorem spec_l15Op.calls (k : Nat) (g : Nat) (s0_0 : List Int) (s0_1 : Int) (a1 : Int) (r1 : Int) (r2 : Int) (r3 : Int) (r4 : Int) (w0 w : World) (hI : IsS72 w0 w g s0_0 s0_1) (hB : Below w0.heap.size w0 w) (h : spec_l15Op.f k s0_0 s0_1 a1 = some (r1, r2, r3, r4)) :
  Calls Try.prog 57 #[.pointer (some ⟨g, 0, none⟩), .int .i64 a1] w fun e w' => e = .returned (.agg #[.int .i64 r1, .int .i64 r2, .int .i64 r3]) ∧ IsS72 w0 w' g s0_0 r4 ∧ Below w0.heap.size w0 w' ∧ KeepBut w w' g none := by
 have hu53 := Try.underlying53
 have HI0 := Aside0.mk hI
 have HK := m_ (KeepBut.refl w g none)
 have HL := Aside0.mk hB.size
 clear hI
 have HW0 := Aside0.mk hB.size
 have HB := Aside0.mk hB
 clear hB
 have H : ((spec_l1Rd_pick.f k s0_0 s0_1 13).bind fun bt173 => ((spec_l1Rd_pick.f k s0_0 bt173.2 8).bind fun bt175 => (if (wrap64 (1 + bt173.1)) = 1 then (spec_l15Op.j0 k a1 (wrap64 (1 + bt173.1)) ((wrap64 (1 + bt173.1)) == 1) s0_0 bt175.2 (wrap64 (1 + bt173.1)) bt175.1 0) else (spec_l15Op.j0 k a1 (wrap64 (1 + bt173.1)) ((wrap64 (1 + bt173.1)) == 3) s0_0 bt175.2 (wrap64 (1 + bt173.1)) bt175.1 0)))) = some (r1, r2, r3, r4) := h
 clear h
 replace H := Option.bind_eq_some_iff.mp H
 obtain ⟨⟨t173, t174⟩, A30, H⟩ := H
 replace H : ((spec_l1Rd_pick.f k s0_0 t174 8).bind fun bt175 => (if (wrap64 (1 + t173)) = 1 then (spec_l15Op.j0 k a1 (wrap64 (1 + t173)) ((wrap64 (1 + t173)) == 1) s0_0 bt175.2 (wrap64 (1 + t173)) bt175.1 0) else (spec_l15Op.j0 k a1 (wrap64 (1 + t173)) ((wrap64 (1 + t173)) == 3) s0_0 bt175.2 (wrap64 (1 + t173)) bt175.1 0))) = some (r1, r2, r3, r4) := H
 have A3 := Aside0.mk A30
 clear A30
 replace H := Option.bind_eq_some_iff.mp H
 obtain ⟨⟨t175, t176⟩, A40, H⟩ := H
 replace H : (if (wrap64 (1 + t173)) = 1 then (spec_l15Op.j0 k a1 (wrap64 (1 + t173)) ((wrap64 (1 + t173)) == 1) s0_0 t176 (wrap64 (1 + t173)) t175 0) else (spec_l15Op.j0 k a1 (wrap64 (1 + t173)) ((wrap64 (1 + t173)) == 3) s0_0 t176 (wrap64 (1 + t173)) t175 0)) = some (r1, r2, r3, r4) := H
 have A4 := Aside0.mk A40
 clear A40
 have HC5 := Aside0.mk H
 clear H
 go_enter Try.func57, Try.ntmps57
 go_upto_if 14 with (first | ((with_reducible refine gate_dst (N := 4) rfl ?_); refine box_event ?hg (N := 4) ?hd (cs := #[.int .i64 0, .int .i64 0, .int .i64 0]) (t := 53) ?hr ?_; (case hd => rfl); (case hg => rfl); (case hr => first | (go_simp; done) | (go_simp; rfl)); intro gb172 hg w6 hbox hb; have n0_ := m_ (IsS72.below (by repeat (first | (with_reducible first | exact HI0.out | apply IsS72.alloc | apply IsS72.drewN | apply IsS72.drew | apply IsS72.set_1) | exact HI0.out)) hb); have n1_ := m_ (KeepBut.trans (by repeat (first | (with_reducible first | exact HK.out | apply KeepBut.set_ | apply keep_drewN | apply keep_drew | apply keep_alloc) | exact HK.out)) (KeepBut.of_below hb g none) (.inl rfl)); have n2_ := m_ (below_step (by repeat (first | (with_reducible first | exact HB.out | apply below_alloc | apply pw_below_drewN | apply below_drew1 | refine below_set ?_ (IsS72.ge HI0.out)) | exact HB.out)) hb); have n3_ := m_ (hbox); have n4_ := m_ ((by rw [hg]; exact (keep_size (w := w) (g := g) (row := none) (by repeat (first | (with_reducible first | exact HK.out | apply KeepBut.set_ | apply keep_drewN | apply keep_drew | apply keep_alloc) | exact HK.out))) : w.heap.size ≤ gb172)); have n5_ := m_ ((Nat.le_trans HW0.out (by rw [hg]; exact (keep_size (w := w) (g := g) (row := none) (by repeat (first | (with_reducible first | exact HK.out | apply KeepBut.set_ | apply keep_drewN | apply keep_drew | apply keep_alloc) | exact HK.out))) : w.heap.size ≤ gb172) : w0.heap.size ≤ gb172)); have n6_ := m_ ((by rw [hg]; exact Nat.ne_of_lt (IsS72.lt (show IsS72 w0 _ g s0_0 s0_1 from by repeat (first | (with_reducible first | exact HI0.out | apply IsS72.alloc | apply IsS72.drewN | apply IsS72.drew | apply IsS72.set_1) | exact HI0.out))) : g ≠ gb172)); have n7_ := m_ ((by rw [hg]; exact Nat.ne_of_gt (IsS72.lt (show IsS72 w0 _ g s0_0 s0_1 from by repeat (first | (with_reducible first | exact HI0.out | apply IsS72.alloc | apply IsS72.drewN | apply IsS72.drew | apply IsS72.set_1) | exact HI0.out))) : gb172 ≠ g)); clear HI0; clear HK; clear HB; have HI0 := n0_; have HK := n1_; have HB := n2_; have BK172 := n3_; have GW172 := n4_; have GE172 := n5_; have NB0_172 := n6_; have NB172_0 := n7_; clear n0_ n1_ n2_ n3_ n4_ n5_ n6_ n7_; clear hb hbox hg) | ((with_reducible refine gate_callee (f := 50) rfl ?_); refine goesL_ (some 7) rfl rfl Try.func50 (by kernel_rfl) rfl #[.pointer (some ⟨g, 0, none⟩), .int .i64 13] rfl gl_ ?_; (with_reducible refine (spec_l1Rd_pick.calls k g s0_0 s0_1 13 t173 t174 w0 _ ?side1 ?side2 A3.out).mono ?_); (case side1 => repeat (first | (with_reducible first | exact HI0.out | apply IsS72.alloc | apply IsS72.drewN | apply IsS72.drew | apply IsS72.set_1 | refine IsS72.far ?_ NB0_172.out _) | exact HI0.out)); (case side2 => repeat (first | (with_reducible first | exact HB.out | apply below_alloc | apply pw_below_drewN | apply below_drew1 | refine below_set ?_ (IsS72.ge HI0.out) | refine below_set ?_ GE172.out) | exact HB.out)); rintro e w7 ⟨rfl, hi, hb, hk⟩; refine ⟨_, rfl, ?_⟩; have n0_ := m_ (KeepBut.blk hk (g' := gb172) (o := .cells #[.int .i64 0, .int .i64 0, .int .i64 0] 53 (0, 0)) (kN BK172.out) NB172_0.out (by simp)); have n1_ := m_ (KeepBut.trans (by repeat (first | (with_reducible first | exact HK.out | apply KeepBut.set_ | apply keep_drewN | apply keep_drew | apply keep_alloc | refine keep_far ?_ GW172.out _) | exact HK.out)) hk (.inl rfl)); have n2_ := m_ (hb); have n3_ := m_ (hi); clear BK172; clear HK; clear HB; clear HI0; have BK172 := n0_; have HK := n1_; have HB := n2_; have HI0 := n3_; clear n0_ n1_ n2_ n3_; (try clear hb); (try clear hb2); (try clear hk); (try clear hi)) | ((with_reducible refine gate_callee (f := 50) rfl ?_); refine goesL_ (some 10) rfl rfl Try.func50 (by kernel_rfl) rfl #[.pointer (some ⟨g, 0, none⟩), .int .i64 8] rfl gl_ ?_; (with_reducible refine (spec_l1Rd_pick.calls k g s0_0 t174 8 t175 t176 w0 _ ?side1 ?side2 A4.out).mono ?_); (case side1 => repeat (first | (with_reducible first | exact HI0.out | apply IsS72.alloc | apply IsS72.drewN | apply IsS72.drew | apply IsS72.set_1 | refine IsS72.far ?_ NB0_172.out _) | exact HI0.out)); (case side2 => repeat (first | (with_reducible first | exact HB.out | apply below_alloc | apply pw_below_drewN | apply below_drew1 | refine below_set ?_ (IsS72.ge HI0.out) | refine below_set ?_ GE172.out) | exact HB.out)); rintro e w8 ⟨rfl, hi, hb, hk⟩; refine ⟨_, rfl, ?_⟩; have n0_ := m_ (KeepBut.blk hk (g' := gb172) (o := .cells #[.int .i64 0, .int .i64 0, .int .i64 0] 53 (0, 0)) (kN BK172.out) NB172_0.out (by simp)); have n1_ := m_ (KeepBut.trans (by repeat (first | (with_reducible first | exact HK.out | apply KeepBut.set_ | apply keep_drewN | apply keep_drew | apply keep_alloc | refine keep_far ?_ GW172.out _) | exact HK.out)) hk (.inl rfl)); have n2_ := m_ (hb); have n3_ := m_ (hi); clear BK172; clear HK; clear HB; clear HI0; have BK172 := n0_; have HK := n1_; have HB := n2_; have HI0 := n3_; clear n0_ n1_ n2_ n3_; (try clear hb); (try clear hb2); (try clear hk); (try clear hi)) | ((with_reducible refine gate_dst (N := 5) rfl ?_); refine box_event ?hg (N := 5) ?hd (cs := #[.int .i64 0, .int .i64 0, .int .i64 0]) (t := 53) ?hr ?_; (case hd => rfl); (case hg => rfl); (case hr => first | (go_simp; done) | (go_simp; rfl)); intro gb177 hg w9 hbox hb; have n0_ := m_ (IsS72.below (by repeat (first | (with_reducible first | exact HI0.out | apply IsS72.alloc | apply IsS72.drewN | apply IsS72.drew | apply IsS72.set_1 | refine IsS72.far ?_ NB0_172.out _) | exact HI0.out)) hb); have n1_ := m_ (blk_below (kN BK172.out) hb); have n2_ := m_ (KeepBut.trans (by repeat (first | (with_reducible first | exact HK.out | apply KeepBut.set_ | apply keep_drewN | apply keep_drew | apply keep_alloc | refine keep_far ?_ GW172.out _) | exact HK.out)) (KeepBut.of_below hb g none) (.inl rfl)); have n3_ := m_ (below_step (by repeat (first | (with_reducible first | exact HB.out | apply below_alloc | apply pw_below_drewN | apply below_drew1 | refine below_set ?_ (IsS72.ge HI0.out) | refine below_set ?_ GE172.out) | exact HB.out)) hb); have n4_ := m_ (hbox); have n5_ := m_ ((by rw [hg]; exact (keep_size (w := w) (g := g) (row := none) (by repeat (first | (with_reducible first | exact HK.out | apply KeepBut.set_ | apply keep_drewN | apply keep_drew | apply keep_alloc | refine keep_far ?_ GW172.out _) | exact HK.out))) : w.heap.size ≤ gb177)); have n6_ := m_ ((Nat.le_trans HW0.out (by rw [hg]; exact (keep_size (w := w) (g := g) (row := none) (by repeat (first | (with_reducible first | exact HK.out | apply KeepBut.set_ | apply keep_drewN | apply keep_drew | apply keep_alloc | refine keep_far ?_ GW172.out _) | exact HK.out))) : w.heap.size ≤ gb177) : w0.heap.size ≤ gb177)); have n7_ := m_ ((by rw [hg]; exact Nat.ne_of_lt (blk_lt (g := gb172) (o := .cells #[.int .i64 0, .int .i64 0, .int .i64 0] 53 (0, 0)) (kN BK172.out)) : gb172 ≠ gb177)); have n8_ := m_ ((by rw [hg]; exact Nat.ne_of_gt (blk_lt (g := gb172) (o := .cells #[.int .i64 0, .int .i64 0, .int .i64 0] 53 (0, 0)) (kN BK172.out)) : gb177 ≠ gb172)); have n9_ := m_ ((by rw [hg]; exact Nat.ne_of_lt (IsS72.lt (show IsS72 w0 _ g s0_0 t176 from by repeat (first | (with_reducible first | exact HI0.out | apply IsS72.alloc | apply IsS72.drewN | apply IsS72.drew | apply IsS72.set_1 | refine IsS72.far ?_ NB0_172.out _) | exact HI0.out))) : g ≠ gb177)); have n10_ := m_ ((by rw [hg]; exact Nat.ne_of_gt (IsS72.lt (show IsS72 w0 _ g s0_0 t176 from by repeat (first | (with_reducible first | exact HI0.out | apply IsS72.alloc | apply IsS72.drewN | apply IsS72.drew | apply IsS72.set_1 | refine IsS72.far ?_ NB0_172.out _) | exact HI0.out))) : gb177 ≠ g)); clear HI0; clear BK172; clear HK; clear HB; have HI0 := n0_; have BK172 := n1_; have HK := n2_; have HB := n3_; have BK177 := n4_; have GW177 := n5_; have GE177 := n6_; have NB172_177 := n7_; have NB177_172 := n8_; have NB0_177 := n9_; have NB177_0 := n10_; clear n0_ n1_ n2_ n3_ n4_ n5_ n6_ n7_ n8_ n9_ n10_; clear hb hbox hg; have hnb10 := NB177_172.out; have hnc10 := NB172_177.out; have hnb11 := NB177_0.out; have hnc11 := NB0_177.out; have hcz12_0 : w9.cell? ⟨gb177, 0, none⟩ = some (.int .i64 0) := (blk_cell BK177.out 0).trans rfl; have hcz12_1 : w9.cell? ⟨gb177, 1, none⟩ = some (.int .i64 0) := (blk_cell BK177.out 1).trans rfl; have hcz12_2 : w9.cell? ⟨gb177, 2, none⟩ = some (.int .i64 0) := (blk_cell BK177.out 2).trans rfl; have hfz12_0 := blk_frozen BK177.out 0; have hfz12_1 := blk_frozen BK177.out 1; have hfz12_2 := blk_frozen BK177.out 2))
 (try simp only [Act.put, List.setIfInBounds_toArray, List.set_cons_zero, List.set_cons_succ])
 go_cut [14] (fun v14 wc => ∃ (kq : Nat) (x14_4 : Bool), v14 = .bool x14_4 ∧ Aside0 (spec_l15Op.j0 kq a1 (wrap64 (1 + t173)) x14_4 s0_0 t176 (wrap64 (1 + t173)) t175 0 = some (r1, r2, r3, r4)) ∧ Aside0 (kq ≤ k) ∧ Aside0 (wc.heap[gb172]? = some (.cells #[.int .i64 0, .int .i64 0, .int .i64 0] 53 (0, 0))) ∧ Aside0 (wc.heap[gb177]? = some (.cells #[.int .i64 (wrap64 (1 + t173)), .int .i64 t175, .int .i64 0] 53 (0, 0))) ∧ Aside0 (IsS72 w0 wc g s0_0 t176) ∧ Aside0 (KeepBut w wc g none) ∧ Aside0 (Below w0.heap.size w0 wc))
 case first =>
  have H := HC5.out
  clear HC5
  by_cases c13 : (wrap64 (1 + t173)) = 1
  ·rw [if_pos c13] at H
   have c13b0 : ((wrap64 (1 + t173)) == 1) = true := beq_iff_eq.mpr c13
   have c13b1 : ((wrap64 (1 + t173)) != 1) = false := bne_eq_false_iff_eq.mpr c13
   clear c13
   (first | rw [c13b0] | (simp only [i64_w, i32_w]; rw [c13b0]) | skip)
   have H' := Aside0.mk H
   clear H
   go_wp2
   go_meet
   case rel => exact ⟨_, (((wrap64 (1 + t173)) == 1)), (by first | rfl | (simp; done) | (simp [*]; done)), H', ⟨by first | omega | exact Nat.le_refl _⟩, ⟨by (with_reducible repeat (first | refine blk_drewN ?_ _ | refine blk_drew ?_ | refine blk_alloc ?_ _)); refine blk_far ?_ NB172_177.out _; (with_reducible repeat (first | refine blk_drewN ?_ _ | refine blk_drew ?_ | refine blk_alloc ?_ _)); refine blk_far ?_ NB172_177.out _; (with_reducible repeat (first | refine blk_drewN ?_ _ | refine blk_drew ?_ | refine blk_alloc ?_ _)); refine blk_far ?_ NB172_177.out _; (with_reducible repeat (first | refine blk_drewN ?_ _ | refine blk_drew ?_ | refine blk_alloc ?_ _)); exact BK172.out⟩, ⟨by (with_reducible repeat (first | refine blk_drewN ?_ _ | refine blk_drew ?_ | refine blk_alloc ?_ _)); refine blk_put (cs := #[.int .i64 (wrap64 (1 + t173)), .int .i64 t175, .int .i64 0]) ?_ 2 _ rfl; (with_reducible repeat (first | refine blk_drewN ?_ _ | refine blk_drew ?_ | refine blk_alloc ?_ _)); refine blk_put (cs := #[.int .i64 (wrap64 (1 + t173)), .int .i64 0, .int .i64 0]) ?_ 1 _ rfl; (with_reducible repeat (first | refine blk_drewN ?_ _ | refine blk_drew ?_ | refine blk_alloc ?_ _)); refine blk_put (cs := #[.int .i64 0, .int .i64 0, .int .i64 0]) ?_ 0 _ rfl; (with_reducible repeat (first | refine blk_drewN ?_ _ | refine blk_drew ?_ | refine blk_alloc ?_ _)); exact BK177.out⟩, ⟨by repeat (first | (with_reducible first | exact HI0.out | apply IsS72.alloc | apply IsS72.drewN | apply IsS72.drew | apply IsS72.set_1 | refine IsS72.far ?_ NB0_172.out _ | refine IsS72.far ?_ NB0_177.out _) | exact HI0.out)⟩, ⟨by repeat (first | (with_reducible first | exact HK.out | apply KeepBut.set_ | apply keep_drewN | apply keep_drew | apply keep_alloc | refine keep_far ?_ GW172.out _ | refine keep_far ?_ GW177.out _) | exact HK.out)⟩, ⟨by repeat (first | (with_reducible first | exact HB.out | apply below_alloc | apply pw_below_drewN | apply below_drew1 | refine below_set ?_ (IsS72.ge HI0.out) | refine below_set ?_ GE172.out | refine below_set ?_ GE177.out) | exact HB.out)⟩⟩
  ·rw [if_neg c13] at H
   have c13b0 : ((wrap64 (1 + t173)) == 1) = false := beq_eq_false_iff_ne.mpr c13
   have c13b1 : ((wrap64 (1 + t173)) != 1) = true := bne_iff_ne.mpr c13
   (first | rw [c13b0] | (simp only [i64_w, i32_w]; rw [c13b0]) | skip)
   have H' := Aside0.mk H
   clear H
   go_wp2
   go_meet
   case rel => exact ⟨_, (((wrap64 (1 + t173)) == 3)), (by first | rfl | (simp; done) | (simp [*]; done)), H', ⟨by first | omega | exact Nat.le_refl _⟩, ⟨by (with_reducible repeat (first | refine blk_drewN ?_ _ | refine blk_drew ?_ | refine blk_alloc ?_ _)); refine blk_far ?_ NB172_177.out _; (with_reducible repeat (first | refine blk_drewN ?_ _ | refine blk_drew ?_ | refine blk_alloc ?_ _)); refine blk_far ?_ NB172_177.out _; (with_reducible repeat (first | refine blk_drewN ?_ _ | refine blk_drew ?_ | refine blk_alloc ?_ _)); refine blk_far ?_ NB172_177.out _; (with_reducible repeat (first | refine blk_drewN ?_ _ | refine blk_drew ?_ | refine blk_alloc ?_ _)); exact BK172.out⟩, ⟨by (with_reducible repeat (first | refine blk_drewN ?_ _ | refine blk_drew ?_ | refine blk_alloc ?_ _)); refine blk_put (cs := #[.int .i64 (wrap64 (1 + t173)), .int .i64 t175, .int .i64 0]) ?_ 2 _ rfl; (with_reducible repeat (first | refine blk_drewN ?_ _ | refine blk_drew ?_ | refine blk_alloc ?_ _)); refine blk_put (cs := #[.int .i64 (wrap64 (1 + t173)), .int .i64 0, .int .i64 0]) ?_ 1 _ rfl; (with_reducible repeat (first | refine blk_drewN ?_ _ | refine blk_drew ?_ | refine blk_alloc ?_ _)); refine blk_put (cs := #[.int .i64 0, .int .i64 0, .int .i64 0]) ?_ 0 _ rfl; (with_reducible repeat (first | refine blk_drewN ?_ _ | refine blk_drew ?_ | refine blk_alloc ?_ _)); exact BK177.out⟩, ⟨by repeat (first | (with_reducible first | exact HI0.out | apply IsS72.alloc | apply IsS72.drewN | apply IsS72.drew | apply IsS72.set_1 | refine IsS72.far ?_ NB0_172.out _ | refine IsS72.far ?_ NB0_177.out _) | exact HI0.out)⟩, ⟨by repeat (first | (with_reducible first | exact HK.out | apply KeepBut.set_ | apply keep_drewN | apply keep_drew | apply keep_alloc | refine keep_far ?_ GW172.out _ | refine keep_far ?_ GW177.out _) | exact HK.out)⟩, ⟨by repeat (first | (with_reducible first | exact HB.out | apply below_alloc | apply pw_below_drewN | apply below_drew1 | refine below_set ?_ (IsS72.ge HI0.out) | refine below_set ?_ GE172.out | refine below_set ?_ GE177.out) | exact HB.out)⟩⟩
 case rest =>
  clear HC5
  try clear c1
  try clear p2
  try clear c5
  try clear p6
  try clear c10
  try clear c11
  try clear c13
  try clear c13b0
  try clear c13b1
  try clear hcz12_0
  try clear hcz12_1
  try clear hcz12_2
  try clear hfz12_0
  try clear hfz12_1
  try clear hfz12_2
  obtain ⟨kq, x14_4, rfl, HA, HJ4, BK172, BK177, HI0, HK, HB⟩ := hcut
  cases kq with
  | zero => exact absurd HA.out (by simp [spec_l15Op.j0])
  | succ kj4 =>
   have H := HA.out
   clear HA
   simp only [spec_l15Op.j0] at H
   by_cases c14 : x14_4 = true
   ·subst c14
    have H1 : ((spec_l1Rd_pick.f kj4 s0_0 t176 20).bind fun bt178 => ((spec_l1Rd_one.f kj4 s0_0 bt178.2 (([bt178.1, 9999, 1] : List Int))).bind fun bt183 => (some ((wrap64 (1 + t173)), t175, bt183.1, bt183.2)))) = some (r1, r2, r3, r4) := by rw [if_pos rfl] at H; exact H
    clear H
    have H := H1
    clear H1
    replace H := Option.bind_eq_some_iff.mp H
    obtain ⟨⟨t178, t179⟩, A150, H⟩ := H
    replace H : ((spec_l1Rd_one.f kj4 s0_0 t179 (([t178, 9999, 1] : List Int))).bind fun bt183 => (some ((wrap64 (1 + t173)), t175, bt183.1, bt183.2))) = some (r1, r2, r3, r4) := H
    have A15 := Aside0.mk A150
    clear A150
    obtain ⟨y180, hy180⟩ : ∃ y_ : List Int, y_ = (([t178, 9999, 1] : List Int)) := ⟨_, rfl⟩
    replace H : ((spec_l1Rd_one.f kj4 s0_0 t179 y180).bind fun bt183 => (some ((wrap64 (1 + t173)), t175, bt183.1, bt183.2))) = some (r1, r2, r3, r4) := by first | (rw [hy180]; with_reducible exact H) | (have H2_ := (Option.bind_some _ _).symm.trans H; rw [hy180]; with_reducible exact H2_) | (have H2_ := (Option.bind_some _ _).symm.trans H; with_reducible exact H2_) | with_reducible exact H | (rw [hy180]; exact H) | exact H
    have Ny180 := Aside0.mk hy180
    clear hy180
    replace H := Option.bind_eq_some_iff.mp H
    obtain ⟨⟨t183, t184⟩, A160, H⟩ := H
    replace H : (some ((wrap64 (1 + t173)), t175, t183, t184)) = some (r1, r2, r3, r4) := H
    have A16 := Aside0.mk A160
    clear A160
    simp only [Option.some.injEq, Prod.mk.injEq] at H
    obtain ⟨rfl, rfl, rfl, rfl⟩ := H
    go_wp2_with (first | ((with_reducible refine gate_callee (f := 50) rfl ?_); refine goesL_ (some 19) rfl rfl Try.func50 (by kernel_rfl) rfl #[.pointer (some ⟨g, 0, none⟩), .int .i64 20] rfl gl_ ?_; (with_reducible refine (spec_l1Rd_pick.calls kj4 g s0_0 t176 20 t178 t179 w0 _ ?side1 ?side2 A15.out).mono ?_); (case side1 => repeat (first | (with_reducible first | exact HI0.out | apply IsS72.alloc | apply IsS72.drewN | apply IsS72.drew | apply IsS72.set_1 | refine IsS72.far ?_ NB0_172.out _ | refine IsS72.far ?_ NB0_177.out _) | exact HI0.out)); (case side2 => repeat (first | (with_reducible first | exact HB.out | apply below_alloc | apply pw_below_drewN | apply below_drew1 | refine below_set ?_ (IsS72.ge HI0.out) | refine below_set ?_ GE172.out | refine below_set ?_ GE177.out) | exact HB.out)); rintro e w17 ⟨rfl, hi, hb, hk⟩; refine ⟨_, rfl, ?_⟩; have n0_ := m_ (KeepBut.blk hk (g' := gb172) (o := .cells #[.int .i64 0, .int .i64 0, .int .i64 0] 53 (0, 0)) (kN BK172.out) NB172_0.out (by simp)); have n1_ := m_ (KeepBut.blk hk (g' := gb177) (o := .cells #[.int .i64 (wrap64 (1 + t173)), .int .i64 t175, .int .i64 0] 53 (0, 0)) (kN BK177.out) NB177_0.out (by simp)); have n2_ := m_ (KeepBut.trans (by repeat (first | (with_reducible first | exact HK.out | apply KeepBut.set_ | apply keep_drewN | apply keep_drew | apply keep_alloc | refine keep_far ?_ GW172.out _ | refine keep_far ?_ GW177.out _) | exact HK.out)) hk (.inl rfl)); have n3_ := m_ (hb); have n4_ := m_ (hi); clear BK172; clear BK177; clear HK; clear HB; clear HI0; have BK172 := n0_; have BK177 := n1_; have HK := n2_; have HB := n3_; have HI0 := n4_; clear n0_ n1_ n2_ n3_ n4_; (try clear hb); (try clear hb2); (try clear hk); (try clear hi)) | ((with_reducible refine gate_dst (N := 20) rfl ?_); refine Kd.R_lit (Kd.int .i64) _ 3 ?hg (N := 20) ?hd (xs := ([t178, 9999, 1] : List Int)) (inner := [.int .i64 t178, .int .i64 9999, .int .i64 1]) (ok := fun _ => True) (okp := fun _ => True) ?hr ?hp (fun _ hk => hk) trivial (Below.refl _ _) (Nat.le_refl _) (by simp) ?_; (case hd => rfl); (case hg => rfl); (case hr => first | (go_simp; done) | (go_simp; rfl)); (case hp => exact (Reps.one (show Kd.M (Kd.int .i64) _ _ _ t178 [.int .i64 t178] from rfl) (Reps.one (show Kd.M (Kd.int .i64) _ _ _ 9999 [.int .i64 9999] from rfl) (Reps.one (show Kd.M (Kd.int .i64) _ _ _ 1 [.int .i64 1] from rfl) (Reps.none _ _))))); intro v181 w18 ho19 hb hg_ hnew_; clear hg_ hnew_; (first | rw [← Ny180.out] at ho19 | (simp only [Int.reduceToNat] at ho19; rw [← Ny180.out] at ho19)); have n0_ := m_ (Kd.R_lower ho19 (keep_size (w := w) (g := g) (row := none) (by repeat (first | (with_reducible first | exact HK.out | apply KeepBut.set_ | apply keep_drewN | apply keep_drew | apply keep_alloc | refine keep_far ?_ GW172.out _ | refine keep_far ?_ GW177.out _) | exact HK.out)))); have n1_ := m_ (blk_below (kN BK172.out) hb); have n2_ := m_ (blk_below (kN BK177.out) hb); have n3_ := m_ (IsS72.below (by repeat (first | (with_reducible first | exact HI0.out | apply IsS72.alloc | apply IsS72.drewN | apply IsS72.drew | apply IsS72.set_1 | refine IsS72.far ?_ NB0_172.out _ | refine IsS72.far ?_ NB0_177.out _) | exact HI0.out)) hb); have n4_ := m_ (KeepBut.trans (by repeat (first | (with_reducible first | exact HK.out | apply KeepBut.set_ | apply keep_drewN | apply keep_drew | apply keep_alloc | refine keep_far ?_ GW172.out _ | refine keep_far ?_ GW177.out _) | exact HK.out)) (KeepBut.of_below hb g none) (.inl rfl)); have n5_ := m_ (below_step (by repeat (first | (with_reducible first | exact HB.out | apply below_alloc | apply pw_below_drewN | apply below_drew1 | refine below_set ?_ (IsS72.ge HI0.out) | refine below_set ?_ GE172.out | refine below_set ?_ GE177.out) | exact HB.out)) hb); clear BK172; clear BK177; clear HI0; clear HK; clear HB; have HO182 := n0_; have BK172 := n1_; have BK177 := n2_; have HI0 := n3_; have HK := n4_; have HB := n5_; clear n0_ n1_ n2_ n3_ n4_ n5_; clear hb ho19; obtain ⟨Ao20, co20, eo20⟩ := Kd.R_slice HO182.out; subst eo20) | ((with_reducible refine gate_callee (f := 49) rfl ?_); refine goesL_ (some 21) rfl rfl Try.func49 (by kernel_rfl) rfl #[.pointer (some ⟨g, 0, none⟩), .slice Ao20 y180.length co20] rfl gl_ ?_; (with_reducible refine (spec_l1Rd_one.calls kj4 g s0_0 t179 _ _ y180 t183 t184 w0 _ ?side1 ?side2 ?side3 ?side4 ?side5 A16.out).mono ?_); (case side1 => repeat (first | (with_reducible first | exact HI0.out | apply IsS72.alloc | apply IsS72.drewN | apply IsS72.drew | apply IsS72.set_1 | refine IsS72.far ?_ NB0_172.out _ | refine IsS72.far ?_ NB0_177.out _) | exact HI0.out)); (case side2 => repeat (first | (with_reducible first | exact HB.out | apply below_alloc | apply pw_below_drewN | apply below_drew1 | refine below_set ?_ (IsS72.ge HI0.out) | refine below_set ?_ GE172.out | refine below_set ?_ GE177.out) | exact HB.out)); (case side3 => exact cN (Kd.R_reads' HO182.out).2.2); (case side4 => exact (Kd.R_reads' HO182.out).2.1); (case side5 => exact far_slice (IsS72.own_ne HI0.out HO182.out (by decide))); rintro e w21 ⟨rfl, hi, hb, hk⟩; refine ⟨_, rfl, ?_⟩; have n0_ := m_ (KeepBut.blk hk (g' := gb172) (o := .cells #[.int .i64 0, .int .i64 0, .int .i64 0] 53 (0, 0)) (kN BK172.out) NB172_0.out (by simp)); have n1_ := m_ (KeepBut.blk hk (g' := gb177) (o := .cells #[.int .i64 (wrap64 (1 + t173)), .int .i64 t175, .int .i64 0] 53 (0, 0)) (kN BK177.out) NB177_0.out (by simp)); have n2_ := m_ (Kd.R_mono (Kd.R_keep (IsS72.apart (show IsS72 w0 _ g s0_0 t179 from by repeat (first | (with_reducible first | exact HI0.out | apply IsS72.alloc | apply IsS72.drewN | apply IsS72.drew | apply IsS72.set_1 | refine IsS72.far ?_ NB0_172.out _ | refine IsS72.far ?_ NB0_177.out _) | exact HI0.out)) (rN HO182.out) (by decide)) hk (fun _ h => h.2)) (fun _ h => h.1)); have n3_ := m_ (KeepBut.trans (by repeat (first | (with_reducible first | exact HK.out | apply KeepBut.set_ | apply keep_drewN | apply keep_drew | apply keep_alloc | refine keep_far ?_ GW172.out _ | refine keep_far ?_ GW177.out _) | exact HK.out)) hk (.inl rfl)); have n4_ := m_ (hb); have n5_ := m_ (hi); clear BK172; clear BK177; clear HO182; clear HK; clear HB; clear HI0; have BK172 := n0_; have BK177 := n1_; have HO182 := n2_; have HK := n3_; have HB := n4_; have HI0 := n5_; clear n0_ n1_ n2_ n3_ n4_ n5_; (try clear hb); (try clear hb2); (try clear hk); (try clear hi); have hnb22 := NB177_172.out; have hnc22 := NB172_177.out; have hnb23 := NB177_0.out; have hnc23 := NB0_177.out; have hcz24_0 : w21.cell? ⟨gb177, 0, none⟩ = some (.int .i64 (wrap64 (1 + t173))) := (blk_cell BK177.out 0).trans rfl; have hcz24_1 : w21.cell? ⟨gb177, 1, none⟩ = some (.int .i64 t175) := (blk_cell BK177.out 1).trans rfl; have hcz24_2 : w21.cell? ⟨gb177, 2, none⟩ = some (.int .i64 0) := (blk_cell BK177.out 2).trans rfl; have hfz24_0 := blk_frozen BK177.out 0; have hfz24_1 := blk_frozen BK177.out 1; have hfz24_2 := blk_frozen BK177.out 2; have hnb25 := NB172_0.out; have hnc25 := NB0_172.out; have hcz26_0 : w21.cell? ⟨gb172, 0, none⟩ = some (.int .i64 0) := (blk_cell BK172.out 0).trans rfl; have hcz26_1 : w21.cell? ⟨gb172, 1, none⟩ = some (.int .i64 0) := (blk_cell BK172.out 1).trans rfl; have hcz26_2 : w21.cell? ⟨gb172, 2, none⟩ = some (.int .i64 0) := (blk_cell BK172.out 2).trans rfl; have hfz26_0 := blk_frozen BK172.out 0; have hfz26_1 := blk_frozen BK172.out 1; have hfz26_2 := blk_frozen BK172.out 2))
    refine bodyPost_ret (results_cell_row rfl _ _ gb172 53 #[.int .i64 (wrap64 (1 + t173)), .int .i64 t175, .int .i64 t183] (0, 0) _ rfl (by (with_reducible repeat (first | refine blk_drewN ?_ _ | refine blk_drew ?_ | refine blk_alloc ?_ _)); refine blk_put (cs := #[.int .i64 (wrap64 (1 + t173)), .int .i64 t175, .int .i64 0]) ?_ 2 _ rfl; (with_reducible repeat (first | refine blk_drewN ?_ _ | refine blk_drew ?_ | refine blk_alloc ?_ _)); refine blk_put (cs := #[.int .i64 (wrap64 (1 + t173)), .int .i64 0, .int .i64 0]) ?_ 1 _ rfl; (with_reducible repeat (first | refine blk_drewN ?_ _ | refine blk_drew ?_ | refine blk_alloc ?_ _)); refine blk_put (cs := #[.int .i64 0, .int .i64 0, .int .i64 0]) ?_ 0 _ rfl; (with_reducible repeat (first | refine blk_drewN ?_ _ | refine blk_drew ?_ | refine blk_alloc ?_ _)); refine blk_far ?_ NB172_177.out _; (with_reducible repeat (first | refine blk_drewN ?_ _ | refine blk_drew ?_ | refine blk_alloc ?_ _)); exact BK172.out) Try.underlying53 rfl (by kernel_rfl)) rfl ?_
    exact ⟨by first | rfl | (simp [errW_none, errW_some] <;> rfl) | (simp [*, errW_none, errW_some] <;> rfl), by repeat (first | (with_reducible first | exact HI0.out | apply IsS72.alloc | apply IsS72.drewN | apply IsS72.drew | apply IsS72.set_1 | refine IsS72.far ?_ NB0_172.out _ | refine IsS72.far ?_ NB0_177.out _) | exact HI0.out), by repeat (first | (with_reducible first | exact HB.out | apply below_alloc | apply pw_below_drewN | apply below_drew1 | refine below_set ?_ (IsS72.ge HI0.out) | refine below_set ?_ GE172.out | refine below_set ?_ GE177.out) | exact HB.out), by repeat (first | (with_reducible first | exact HK.out | apply KeepBut.set_ | apply keep_drewN | apply keep_drew | apply keep_alloc | refine keep_far ?_ GW172.out _ | refine keep_far ?_ GW177.out _) | exact HK.out)⟩
   ·replace c14 := Bool.eq_false_iff.mpr c14
    subst c14
    have H1 : (if (wrap64 (1 + t173)) = 2 then (spec_l15Op.j1 kj4 a1 (wrap64 (1 + t173)) ((wrap64 (1 + t173)) == 2) s0_0 t176 (wrap64 (1 + t173)) t175 0) else (spec_l15Op.j1 kj4 a1 (wrap64 (1 + t173)) ((wrap64 (1 + t173)) == 13) s0_0 t176 (wrap64 (1 + t173)) t175 0)) = some (r1, r2, r3, r4) := by rw [if_neg (show ¬ (false = true) by decide)] at H; exact H
    clear H
    have H := H1
    clear H1
    have HC27 := Aside0.mk H
    clear H
    go_upto_if 23 with (fail)
    go_cut [23] (fun v23 wc => ∃ (kq : Nat) (x23_26 : Bool), v23 = .bool x23_26 ∧ Aside0 (spec_l15Op.j1 kq a1 (wrap64 (1 + t173)) x23_26 s0_0 t176 (wrap64 (1 + t173)) t175 0 = some (r1, r2, r3, r4)) ∧ Aside0 (kq ≤ kj4) ∧ Aside0 (wc.heap[gb172]? = some (.cells #[.int .i64 0, .int .i64 0, .int .i64 0] 53 (0, 0))) ∧ Aside0 (wc.heap[gb177]? = some (.cells #[.int .i64 (wrap64 (1 + t173)), .int .i64 t175, .int .i64 0] 53 (0, 0))) ∧ Aside0 (IsS72 w0 wc g s0_0 t176) ∧ Aside0 (KeepBut w wc g none) ∧ Aside0 (Below w0.heap.size w0 wc))
    case first =>
     have H := HC27.out
     clear HC27
     by_cases c28 : (wrap64 (1 + t173)) = 2
     ·rw [if_pos c28] at H
      have c28b0 : ((wrap64 (1 + t173)) == 2) = true := beq_iff_eq.mpr c28
      have c28b1 : ((wrap64 (1 + t173)) != 2) = false := bne_eq_false_iff_eq.mpr c28
      clear c28
      (first | rw [c28b0] | (simp only [i64_w, i32_w]; rw [c28b0]) | skip)
      have H' := Aside0.mk H
      clear H
      go_wp2
      go_meet
      case rel => exact ⟨_, (((wrap64 (1 + t173)) == 2)), (by first | rfl | (simp; done) | (simp [*]; done)), H', ⟨by have := HJ4.out; first | omega | exact Nat.le_refl _⟩, ⟨by (with_reducible repeat (first | refine blk_drewN ?_ _ | refine blk_drew ?_ | refine blk_alloc ?_ _)); exact BK172.out⟩, ⟨by (with_reducible repeat (first | refine blk_drewN ?_ _ | refine blk_drew ?_ | refine blk_alloc ?_ _)); exact BK177.out⟩, ⟨by repeat (first | (with_reducible first | exact HI0.out | apply IsS72.alloc | apply IsS72.drewN | apply IsS72.drew | apply IsS72.set_1 | refine IsS72.far ?_ NB0_172.out _ | refine IsS72.far ?_ NB0_177.out _) | exact HI0.out)⟩, ⟨by repeat (first | (with_reducible first | exact HK.out | apply KeepBut.set_ | apply keep_drewN | apply keep_drew | apply keep_alloc | refine keep_far ?_ GW172.out _ | refine keep_far ?_ GW177.out _) | exact HK.out)⟩, ⟨by repeat (first | (with_reducible first | exact HB.out | apply below_alloc | apply pw_below_drewN | apply below_drew1 | refine below_set ?_ (IsS72.ge HI0.out) | refine below_set ?_ GE172.out | refine below_set ?_ GE177.out) | exact HB.out)⟩⟩
     ·rw [if_neg c28] at H
      have c28b0 : ((wrap64 (1 + t173)) == 2) = false := beq_eq_false_iff_ne.mpr c28
      have c28b1 : ((wrap64 (1 + t173)) != 2) = true := bne_iff_ne.mpr c28
      (first | rw [c28b0] | (simp only [i64_w, i32_w]; rw [c28b0]) | skip)
      have H' := Aside0.mk H
      clear H
      go_wp2
      go_meet
      case rel => exact ⟨_, (((wrap64 (1 + t173)) == 13)), (by first | rfl | (simp; done) | (simp [*]; done)), H', ⟨by have := HJ4.out; first | omega | exact Nat.le_refl _⟩, ⟨by (with_reducible repeat (first | refine blk_drewN ?_ _ | refine blk_drew ?_ | refine blk_alloc ?_ _)); exact BK172.out⟩, ⟨by (with_reducible repeat (first | refine blk_drewN ?_ _ | refine blk_drew ?_ | refine blk_alloc ?_ _)); exact BK177.out⟩, ⟨by repeat (first | (with_reducible first | exact HI0.out | apply IsS72.alloc | apply IsS72.drewN | apply IsS72.drew | apply IsS72.set_1 | refine IsS72.far ?_ NB0_172.out _ | refine IsS72.far ?_ NB0_177.out _) | exact HI0.out)⟩, ⟨by repeat (first | (with_reducible first | exact HK.out | apply KeepBut.set_ | apply keep_drewN | apply keep_drew | apply keep_alloc | refine keep_far ?_ GW172.out _ | refine keep_far ?_ GW177.out _) | exact HK.out)⟩, ⟨by repeat (first | (with_reducible first | exact HB.out | apply below_alloc | apply pw_below_drewN | apply below_drew1 | refine below_set ?_ (IsS72.ge HI0.out) | refine below_set ?_ GE172.out | refine below_set ?_ GE177.out) | exact HB.out)⟩⟩
    case rest =>
     clear HC27
     try clear c1
     try clear c2
     try clear p2
     try clear c4
     try clear c5
     try clear p6
     try clear c10
     try clear c11
     try clear c13
     try clear c13b0
     try clear c13b1
     try clear c14
     try clear c22
     try clear c23
     try clear c25
     try clear c28
     try clear c28b0
     try clear c28b1
     try clear hcz12_0
     try clear hcz12_1
     try clear hcz12_2
     try clear hcz24_0
     try clear hcz24_1
     try clear hcz24_2
     try clear hcz26_0
     try clear hcz26_1
     try clear hcz26_2
     try clear hfz12_0
     try clear hfz12_1
     try clear hfz12_2
     try clear hfz24_0
     try clear hfz24_1
     try clear hfz24_2
     try clear hfz26_0
     try clear hfz26_1
     try clear hfz26_2
     try clear p2
     try clear p6
     obtain ⟨kq, x23_26, rfl, HA, HJ26, BK172, BK177, HI0, HK, HB⟩ := hcut
     cases kq with
     | zero => exact absurd HA.out (by simp [spec_l15Op.j1])
     | succ kj26 =>
      have H := HA.out
      clear HA
      simp only [spec_l15Op.j1] at H
      by_cases c29 : x23_26 = true
      ·subst c29
       have H1 : ((spec_l1Rd_pick.f kj26 s0_0 t176 8).bind fun bt185 => (some ((wrap64 (1 + t173)), t175, bt185.1, bt185.2))) = some (r1, r2, r3, r4) := by rw [if_pos rfl] at H; exact H
       clear H
       have H := H1
       clear H1
       replace H := Option.bind_eq_some_iff.mp H
       obtain ⟨⟨t185, t186⟩, A300, H⟩ := H
       replace H : (some ((wrap64 (1 + t173)), t175, t185, t186)) = some (r1, r2, r3, r4) := H
       have A30 := Aside0.mk A300
       clear A300
       simp only [Option.some.injEq, Prod.mk.injEq] at H
       obtain ⟨rfl, rfl, rfl, rfl⟩ := H
       go_wp2_with (first | ((with_reducible refine gate_callee (f := 50) rfl ?_); refine goesL_ (some 27) rfl rfl Try.func50 (by kernel_rfl) rfl #[.pointer (some ⟨g, 0, none⟩), .int .i64 8] rfl gl_ ?_; (with_reducible refine (spec_l1Rd_pick.calls kj26 g s0_0 t176 8 t185 t186 w0 _ ?side1 ?side2 A30.out).mono ?_); (case side1 => repeat (first | (with_reducible first | exact HI0.out | apply IsS72.alloc | apply IsS72.drewN | apply IsS72.drew | apply IsS72.set_1 | refine IsS72.far ?_ NB0_172.out _ | refine IsS72.far ?_ NB0_177.out _) | exact HI0.out)); (case side2 => repeat (first | (with_reducible first | exact HB.out | apply below_alloc | apply pw_below_drewN | apply below_drew1 | refine below_set ?_ (IsS72.ge HI0.out) | refine below_set ?_ GE172.out | refine below_set ?_ GE177.out) | exact HB.out)); rintro e w31 ⟨rfl, hi, hb, hk⟩; refine ⟨_, rfl, ?_⟩; have n0_ := m_ (KeepBut.blk hk (g' := gb172) (o := .cells #[.int .i64 0, .int .i64 0, .int .i64 0] 53 (0, 0)) (kN BK172.out) NB172_0.out (by simp)); have n1_ := m_ (KeepBut.blk hk (g' := gb177) (o := .cells #[.int .i64 (wrap64 (1 + t173)), .int .i64 t175, .int .i64 0] 53 (0, 0)) (kN BK177.out) NB177_0.out (by simp)); have n2_ := m_ (KeepBut.trans (by repeat (first | (with_reducible first | exact HK.out | apply KeepBut.set_ | apply keep_drewN | apply keep_drew | apply keep_alloc | refine keep_far ?_ GW172.out _ | refine keep_far ?_ GW177.out _) | exact HK.out)) hk (.inl rfl)); have n3_ := m_ (hb); have n4_ := m_ (hi); clear BK172; clear BK177; clear HK; clear HB; clear HI0; have BK172 := n0_; have BK177 := n1_; have HK := n2_; have HB := n3_; have HI0 := n4_; clear n0_ n1_ n2_ n3_ n4_; (try clear hb); (try clear hb2); (try clear hk); (try clear hi); have hnb32 := NB177_172.out; have hnc32 := NB172_177.out; have hnb33 := NB177_0.out; have hnc33 := NB0_177.out; have hcz34_0 : w31.cell? ⟨gb177, 0, none⟩ = some (.int .i64 (wrap64 (1 + t173))) := (blk_cell BK177.out 0).trans rfl; have hcz34_1 : w31.cell? ⟨gb177, 1, none⟩ = some (.int .i64 t175) := (blk_cell BK177.out 1).trans rfl; have hcz34_2 : w31.cell? ⟨gb177, 2, none⟩ = some (.int .i64 0) := (blk_cell BK177.out 2).trans rfl; have hfz34_0 := blk_frozen BK177.out 0; have hfz34_1 := blk_frozen BK177.out 1; have hfz34_2 := blk_frozen BK177.out 2; have hnb35 := NB172_0.out; have hnc35 := NB0_172.out; have hcz36_0 : w31.cell? ⟨gb172, 0, none⟩ = some (.int .i64 0) := (blk_cell BK172.out 0).trans rfl; have hcz36_1 : w31.cell? ⟨gb172, 1, none⟩ = some (.int .i64 0) := (blk_cell BK172.out 1).trans rfl; have hcz36_2 : w31.cell? ⟨gb172, 2, none⟩ = some (.int .i64 0) := (blk_cell BK172.out 2).trans rfl; have hfz36_0 := blk_frozen BK172.out 0; have hfz36_1 := blk_frozen BK172.out 1; have hfz36_2 := blk_frozen BK172.out 2))
       refine bodyPost_ret (results_cell_row rfl _ _ gb172 53 #[.int .i64 (wrap64 (1 + t173)), .int .i64 t175, .int .i64 t185] (0, 0) _ rfl (by (with_reducible repeat (first | refine blk_drewN ?_ _ | refine blk_drew ?_ | refine blk_alloc ?_ _)); refine blk_put (cs := #[.int .i64 (wrap64 (1 + t173)), .int .i64 t175, .int .i64 0]) ?_ 2 _ rfl; (with_reducible repeat (first | refine blk_drewN ?_ _ | refine blk_drew ?_ | refine blk_alloc ?_ _)); refine blk_put (cs := #[.int .i64 (wrap64 (1 + t173)), .int .i64 0, .int .i64 0]) ?_ 1 _ rfl; (with_reducible repeat (first | refine blk_drewN ?_ _ | refine blk_drew ?_ | refine blk_alloc ?_ _)); refine blk_put (cs := #[.int .i64 0, .int .i64 0, .int .i64 0]) ?_ 0 _ rfl; (with_reducible repeat (first | refine blk_drewN ?_ _ | refine blk_drew ?_ | refine blk_alloc ?_ _)); refine blk_far ?_ NB172_177.out _; (with_reducible repeat (first | refine blk_drewN ?_ _ | refine blk_drew ?_ | refine blk_alloc ?_ _)); exact BK172.out) Try.underlying53 rfl (by kernel_rfl)) rfl ?_
       exact ⟨by first | rfl | (simp [errW_none, errW_some] <;> rfl) | (simp [*, errW_none, errW_some] <;> rfl), by repeat (first | (with_reducible first | exact HI0.out | apply IsS72.alloc | apply IsS72.drewN | apply IsS72.drew | apply IsS72.set_1 | refine IsS72.far ?_ NB0_172.out _ | refine IsS72.far ?_ NB0_177.out _) | exact HI0.out), by repeat (first | (with_reducible first | exact HB.out | apply below_alloc | apply pw_below_drewN | apply below_drew1 | refine below_set ?_ (IsS72.ge HI0.out) | refine below_set ?_ GE172.out | refine below_set ?_ GE177.out) | exact HB.out), by repeat (first | (with_reducible first | exact HK.out | apply KeepBut.set_ | apply keep_drewN | apply keep_drew | apply keep_alloc | refine keep_far ?_ GW172.out _ | refine keep_far ?_ GW177.out _) | exact HK.out)⟩
      ·replace c29 := Bool.eq_false_iff.mpr c29
       subst c29
       have H1 : (if (wrap64 (1 + t173)) = 5 then ((spec_l1Rd_pick.f kj26 s0_0 t176 a1).bind fun bt187 => (some ((wrap64 (1 + t173)), t175, bt187.1, bt187.2))) else (if (wrap64 (1 + t173)) = 9 then (spec_l15Op.j2 kj26 (wrap64 (1 + t173)) ((wrap64 (1 + t173)) == 9) s0_0 t176 (wrap64 (1 + t173)) t175 0) else (spec_l15Op.j2 kj26 (wrap64 (1 + t173)) ((wrap64 (1 + t173)) == 10) s0_0 t176 (wrap64 (1 + t173)) t175 0))) = some (r1, r2, r3, r4) := by rw [if_neg (show ¬ (false = true) by decide)] at H; exact H
       clear H
       have H := H1
       clear H1
       by_cases c37 : (wrap64 (1 + t173)) = 5
       ·rw [if_pos c37] at H
        have c37b0 : ((wrap64 (1 + t173)) == 5) = true := beq_iff_eq.mpr c37
        have c37b1 : ((wrap64 (1 + t173)) != 5) = false := bne_eq_false_iff_eq.mpr c37
        clear c37
        replace H := Option.bind_eq_some_iff.mp H
        obtain ⟨⟨t187, t188⟩, A380, H⟩ := H
        replace H : (some ((wrap64 (1 + t173)), t175, t187, t188)) = some (r1, r2, r3, r4) := H
        have A38 := Aside0.mk A380
        clear A380
        simp only [Option.some.injEq, Prod.mk.injEq] at H
        obtain ⟨rfl, rfl, rfl, rfl⟩ := H
        go_wp2_with (first | ((with_reducible refine gate_callee (f := 50) rfl ?_); refine goesL_ (some 33) rfl rfl Try.func50 (by kernel_rfl) rfl #[.pointer (some ⟨g, 0, none⟩), .int .i64 a1] rfl gl_ ?_; (with_reducible refine (spec_l1Rd_pick.calls kj26 g s0_0 t176 a1 t187 t188 w0 _ ?side1 ?side2 A38.out).mono ?_); (case side1 => repeat (first | (with_reducible first | exact HI0.out | apply IsS72.alloc | apply IsS72.drewN | apply IsS72.drew | apply IsS72.set_1 | refine IsS72.far ?_ NB0_172.out _ | refine IsS72.far ?_ NB0_177.out _) | exact HI0.out)); (case side2 => repeat (first | (with_reducible first | exact HB.out | apply below_alloc | apply pw_below_drewN | apply below_drew1 | refine below_set ?_ (IsS72.ge HI0.out) | refine below_set ?_ GE172.out | refine below_set ?_ GE177.out) | exact HB.out)); rintro e w39 ⟨rfl, hi, hb, hk⟩; refine ⟨_, rfl, ?_⟩; have n0_ := m_ (KeepBut.blk hk (g' := gb172) (o := .cells #[.int .i64 0, .int .i64 0, .int .i64 0] 53 (0, 0)) (kN BK172.out) NB172_0.out (by simp)); have n1_ := m_ (KeepBut.blk hk (g' := gb177) (o := .cells #[.int .i64 (wrap64 (1 + t173)), .int .i64 t175, .int .i64 0] 53 (0, 0)) (kN BK177.out) NB177_0.out (by simp)); have n2_ := m_ (KeepBut.trans (by repeat (first | (with_reducible first | exact HK.out | apply KeepBut.set_ | apply keep_drewN | apply keep_drew | apply keep_alloc | refine keep_far ?_ GW172.out _ | refine keep_far ?_ GW177.out _) | exact HK.out)) hk (.inl rfl)); have n3_ := m_ (hb); have n4_ := m_ (hi); clear BK172; clear BK177; clear HK; clear HB; clear HI0; have BK172 := n0_; have BK177 := n1_; have HK := n2_; have HB := n3_; have HI0 := n4_; clear n0_ n1_ n2_ n3_ n4_; (try clear hb); (try clear hb2); (try clear hk); (try clear hi); have hnb40 := NB177_172.out; have hnc40 := NB172_177.out; have hnb41 := NB177_0.out; have hnc41 := NB0_177.out; have hcz42_0 : w39.cell? ⟨gb177, 0, none⟩ = some (.int .i64 (wrap64 (1 + t173))) := (blk_cell BK177.out 0).trans rfl; have hcz42_1 : w39.cell? ⟨gb177, 1, none⟩ = some (.int .i64 t175) := (blk_cell BK177.out 1).trans rfl; have hcz42_2 : w39.cell? ⟨gb177, 2, none⟩ = some (.int .i64 0) := (blk_cell BK177.out 2).trans rfl; have hfz42_0 := blk_frozen BK177.out 0; have hfz42_1 := blk_frozen BK177.out 1; have hfz42_2 := blk_frozen BK177.out 2; have hnb43 := NB172_0.out; have hnc43 := NB0_172.out; have hcz44_0 : w39.cell? ⟨gb172, 0, none⟩ = some (.int .i64 0) := (blk_cell BK172.out 0).trans rfl; have hcz44_1 : w39.cell? ⟨gb172, 1, none⟩ = some (.int .i64 0) := (blk_cell BK172.out 1).trans rfl; have hcz44_2 : w39.cell? ⟨gb172, 2, none⟩ = some (.int .i64 0) := (blk_cell BK172.out 2).trans rfl; have hfz44_0 := blk_frozen BK172.out 0; have hfz44_1 := blk_frozen BK172.out 1; have hfz44_2 := blk_frozen BK172.out 2))
        refine bodyPost_ret (results_cell_row rfl _ _ gb172 53 #[.int .i64 (wrap64 (1 + t173)), .int .i64 t175, .int .i64 t187] (0, 0) _ rfl (by (with_reducible repeat (first | refine blk_drewN ?_ _ | refine blk_drew ?_ | refine blk_alloc ?_ _)); refine blk_put (cs := #[.int .i64 (wrap64 (1 + t173)), .int .i64 t175, .int .i64 0]) ?_ 2 _ rfl; (with_reducible repeat (first | refine blk_drewN ?_ _ | refine blk_drew ?_ | refine blk_alloc ?_ _)); refine blk_put (cs := #[.int .i64 (wrap64 (1 + t173)), .int .i64 0, .int .i64 0]) ?_ 1 _ rfl; (with_reducible repeat (first | refine blk_drewN ?_ _ | refine blk_drew ?_ | refine blk_alloc ?_ _)); refine blk_put (cs := #[.int .i64 0, .int .i64 0, .int .i64 0]) ?_ 0 _ rfl; (with_reducible repeat (first | refine blk_drewN ?_ _ | refine blk_drew ?_ | refine blk_alloc ?_ _)); refine blk_far ?_ NB172_177.out _; (with_reducible repeat (first | refine blk_drewN ?_ _ | refine blk_drew ?_ | refine blk_alloc ?_ _)); exact BK172.out) Try.underlying53 rfl (by kernel_rfl)) rfl ?_
        exact ⟨by first | rfl | (simp [errW_none, errW_some] <;> rfl) | (simp [*, errW_none, errW_some] <;> rfl), by repeat (first | (with_reducible first | exact HI0.out | apply IsS72.alloc | apply IsS72.drewN | apply IsS72.drew | apply IsS72.set_1 | refine IsS72.far ?_ NB0_172.out _ | refine IsS72.far ?_ NB0_177.out _) | exact HI0.out), by repeat (first | (with_reducible first | exact HB.out | apply below_alloc | apply pw_below_drewN | apply below_drew1 | refine below_set ?_ (IsS72.ge HI0.out) | refine below_set ?_ GE172.out | refine below_set ?_ GE177.out) | exact HB.out), by repeat (first | (with_reducible first | exact HK.out | apply KeepBut.set_ | apply keep_drewN | apply keep_drew | apply keep_alloc | refine keep_far ?_ GW172.out _ | refine keep_far ?_ GW177.out _) | exact HK.out)⟩
       ·rw [if_neg c37] at H
        have c37b0 : ((wrap64 (1 + t173)) == 5) = false := beq_eq_false_iff_ne.mpr c37
        have c37b1 : ((wrap64 (1 + t173)) != 5) = true := bne_iff_ne.mpr c37
        have HC45 := Aside0.mk H
        clear H
        go_upto_if 35 with (fail)
        go_cut [35] (fun v35 wc => ∃ (kq : Nat) (x35_44 : Bool), v35 = .bool x35_44 ∧ Aside0 (spec_l15Op.j2 kq (wrap64 (1 + t173)) x35_44 s0_0 t176 (wrap64 (1 + t173)) t175 0 = some (r1, r2, r3, r4)) ∧ Aside0 (kq ≤ kj26) ∧ Aside0 (wc.heap[gb172]? = some (.cells #[.int .i64 0, .int .i64 0, .int .i64 0] 53 (0, 0))) ∧ Aside0 (wc.heap[gb177]? = some (.cells #[.int .i64 (wrap64 (1 + t173)), .int .i64 t175, .int .i64 0] 53 (0, 0))) ∧ Aside0 (IsS72 w0 wc g s0_0 t176) ∧ Aside0 (KeepBut w wc g none) ∧ Aside0 (Below w0.heap.size w0 wc))
        case first =>
         have H := HC45.out
         clear HC45
         by_cases c46 : (wrap64 (1 + t173)) = 9
         ·rw [if_pos c46] at H
          have c46b0 : ((wrap64 (1 + t173)) == 9) = true := beq_iff_eq.mpr c46
          have c46b1 : ((wrap64 (1 + t173)) != 9) = false := bne_eq_false_iff_eq.mpr c46
          clear c46
          (first | rw [c46b0] | (simp only [i64_w, i32_w]; rw [c46b0]) | skip)
          have H' := Aside0.mk H
          clear H
          go_wp2
          go_meet
          case rel => exact ⟨_, (((wrap64 (1 + t173)) == 9)), (by first | rfl | (simp; done) | (simp [*]; done)), H', ⟨by have := HJ4.out; have := HJ26.out; first | omega | exact Nat.le_refl _⟩, ⟨by (with_reducible repeat (first | refine blk_drewN ?_ _ | refine blk_drew ?_ | refine blk_alloc ?_ _)); exact BK172.out⟩, ⟨by (with_reducible repeat (first | refine blk_drewN ?_ _ | refine blk_drew ?_ | refine blk_alloc ?_ _)); exact BK177.out⟩, ⟨by repeat (first | (with_reducible first | exact HI0.out | apply IsS72.alloc | apply IsS72.drewN | apply IsS72.drew | apply IsS72.set_1 | refine IsS72.far ?_ NB0_172.out _ | refine IsS72.far ?_ NB0_177.out _) | exact HI0.out)⟩, ⟨by repeat (first | (with_reducible first | exact HK.out | apply KeepBut.set_ | apply keep_drewN | apply keep_drew | apply keep_alloc | refine keep_far ?_ GW172.out _ | refine keep_far ?_ GW177.out _) | exact HK.out)⟩, ⟨by repeat (first | (with_reducible first | exact HB.out | apply below_alloc | apply pw_below_drewN | apply below_drew1 | refine below_set ?_ (IsS72.ge HI0.out) | refine below_set ?_ GE172.out | refine below_set ?_ GE177.out) | exact HB.out)⟩⟩
         ·rw [if_neg c46] at H
          have c46b0 : ((wrap64 (1 + t173)) == 9) = false := beq_eq_false_iff_ne.mpr c46
          have c46b1 : ((wrap64 (1 + t173)) != 9) = true := bne_iff_ne.mpr c46
          (first | rw [c46b0] | (simp only [i64_w, i32_w]; rw [c46b0]) | skip)
          have H' := Aside0.mk H
          clear H
          go_wp2
          go_meet
          case rel => exact ⟨_, (((wrap64 (1 + t173)) == 10)), (by first | rfl | (simp; done) | (simp [*]; done)), H', ⟨by have := HJ4.out; have := HJ26.out; first | omega | exact Nat.le_refl _⟩, ⟨by (with_reducible repeat (first | refine blk_drewN ?_ _ | refine blk_drew ?_ | refine blk_alloc ?_ _)); exact BK172.out⟩, ⟨by (with_reducible repeat (first | refine blk_drewN ?_ _ | refine blk_drew ?_ | refine blk_alloc ?_ _)); exact BK177.out⟩, ⟨by repeat (first | (with_reducible first | exact HI0.out | apply IsS72.alloc | apply IsS72.drewN | apply IsS72.drew | apply IsS72.set_1 | refine IsS72.far ?_ NB0_172.out _ | refine IsS72.far ?_ NB0_177.out _) | exact HI0.out)⟩, ⟨by repeat (first | (with_reducible first | exact HK.out | apply KeepBut.set_ | apply keep_drewN | apply keep_drew | apply keep_alloc | refine keep_far ?_ GW172.out _ | refine keep_far ?_ GW177.out _) | exact HK.out)⟩, ⟨by repeat (first | (with_reducible first | exact HB.out | apply below_alloc | apply pw_below_drewN | apply below_drew1 | refine below_set ?_ (IsS72.ge HI0.out) | refine below_set ?_ GE172.out | refine below_set ?_ GE177.out) | exact HB.out)⟩⟩
        case rest =>
         clear HC45
         try clear c1
         try clear c2
         try clear p2
         try clear c3
         try clear c4
         try clear c5
         try clear p6
         try clear c10
         try clear c11
         try clear c13
         try clear c13b0
         try clear c13b1
         try clear c14
         try clear c22
         try clear c23
         try clear c25
         try clear c28
         try clear c28b0
         try clear c28b1
         try clear c29
         try clear c32
         try clear c33
         try clear c35
         try clear c37
         try clear c37b0
         try clear c37b1
         try clear c40
         try clear c41
         try clear c43
         try clear c46
         try clear c46b0
         try clear c46b1
         try clear hcz12_0
         try clear hcz12_1
         try clear hcz12_2
         try clear hcz24_0
         try clear hcz24_1
         try clear hcz24_2
         try clear hcz26_0
         try clear hcz26_1
         try clear hcz26_2
         try clear hcz34_0
         try clear hcz34_1
         try clear hcz34_2
         try clear hcz36_0
         try clear hcz36_1
         try clear hcz36_2
         try clear hcz42_0
         try clear hcz42_1
         try clear hcz42_2
         try clear hcz44_0
         try clear hcz44_1
         try clear hcz44_2
         try clear hfz12_0
         try clear hfz12_1
         try clear hfz12_2
         try clear hfz24_0
         try clear hfz24_1
         try clear hfz24_2
         try clear hfz26_0
         try clear hfz26_1
         try clear hfz26_2
         try clear hfz34_0
         try clear hfz34_1
         try clear hfz34_2
         try clear hfz36_0
         try clear hfz36_1
         try clear hfz36_2
         try clear hfz42_0
         try clear hfz42_1
         try clear hfz42_2
         try clear hfz44_0
         try clear hfz44_1
         try clear hfz44_2
         try clear p2
         try clear p6
         obtain ⟨kq, x35_44, rfl, HA, HJ44, BK172, BK177, HI0, HK, HB⟩ := hcut
         cases kq with
         | zero => exact absurd HA.out (by simp [spec_l15Op.j2])
         | succ kj44 =>
          have H := HA.out
          clear HA
          simp only [spec_l15Op.j2] at H
          by_cases c47 : x35_44 = true
          ·subst c47
           have H1 : ((spec_l1Rd_pick.f kj44 s0_0 t176 4).bind fun bt189 => (some ((wrap64 (1 + t173)), t175, bt189.1, bt189.2))) = some (r1, r2, r3, r4) := by rw [if_pos rfl] at H; exact H
           clear H
           have H := H1
           clear H1
           replace H := Option.bind_eq_some_iff.mp H
           obtain ⟨⟨t189, t190⟩, A480, H⟩ := H
           replace H : (some ((wrap64 (1 + t173)), t175, t189, t190)) = some (r1, r2, r3, r4) := H
           have A48 := Aside0.mk A480
           clear A480
           simp only [Option.some.injEq, Prod.mk.injEq] at H
           obtain ⟨rfl, rfl, rfl, rfl⟩ := H
           go_wp2_with (first | ((with_reducible refine gate_callee (f := 50) rfl ?_); refine goesL_ (some 39) rfl rfl Try.func50 (by kernel_rfl) rfl #[.pointer (some ⟨g, 0, none⟩), .int .i64 4] rfl gl_ ?_; (with_reducible refine (spec_l1Rd_pick.calls kj44 g s0_0 t176 4 t189 t190 w0 _ ?side1 ?side2 A48.out).mono ?_); (case side1 => repeat (first | (with_reducible first | exact HI0.out | apply IsS72.alloc | apply IsS72.drewN | apply IsS72.drew | apply IsS72.set_1 | refine IsS72.far ?_ NB0_172.out _ | refine IsS72.far ?_ NB0_177.out _) | exact HI0.out)); (case side2 => repeat (first | (with_reducible first | exact HB.out | apply below_alloc | apply pw_below_drewN | apply below_drew1 | refine below_set ?_ (IsS72.ge HI0.out) | refine below_set ?_ GE172.out | refine below_set ?_ GE177.out) | exact HB.out)); rintro e w49 ⟨rfl, hi, hb, hk⟩; refine ⟨_, rfl, ?_⟩; have n0_ := m_ (KeepBut.blk hk (g' := gb172) (o := .cells #[.int .i64 0, .int .i64 0, .int .i64 0] 53 (0, 0)) (kN BK172.out) NB172_0.out (by simp)); have n1_ := m_ (KeepBut.blk hk (g' := gb177) (o := .cells #[.int .i64 (wrap64 (1 + t173)), .int .i64 t175, .int .i64 0] 53 (0, 0)) (kN BK177.out) NB177_0.out (by simp)); have n2_ := m_ (KeepBut.trans (by repeat (first | (with_reducible first | exact HK.out | apply KeepBut.set_ | apply keep_drewN | apply keep_drew | apply keep_alloc | refine keep_far ?_ GW172.out _ | refine keep_far ?_ GW177.out _) | exact HK.out)) hk (.inl rfl)); have n3_ := m_ (hb); have n4_ := m_ (hi); clear BK172; clear BK177; clear HK; clear HB; clear HI0; have BK172 := n0_; have BK177 := n1_; have HK := n2_; have HB := n3_; have HI0 := n4_; clear n0_ n1_ n2_ n3_ n4_; (try clear hb); (try clear hb2); (try clear hk); (try clear hi); have hnb50 := NB177_172.out; have hnc50 := NB172_177.out; have hnb51 := NB177_0.out; have hnc51 := NB0_177.out; have hcz52_0 : w49.cell? ⟨gb177, 0, none⟩ = some (.int .i64 (wrap64 (1 + t173))) := (blk_cell BK177.out 0).trans rfl; have hcz52_1 : w49.cell? ⟨gb177, 1, none⟩ = some (.int .i64 t175) := (blk_cell BK177.out 1).trans rfl; have hcz52_2 : w49.cell? ⟨gb177, 2, none⟩ = some (.int .i64 0) := (blk_cell BK177.out 2).trans rfl; have hfz52_0 := blk_frozen BK177.out 0; have hfz52_1 := blk_frozen BK177.out 1; have hfz52_2 := blk_frozen BK177.out 2; have hnb53 := NB172_0.out; have hnc53 := NB0_172.out; have hcz54_0 : w49.cell? ⟨gb172, 0, none⟩ = some (.int .i64 0) := (blk_cell BK172.out 0).trans rfl; have hcz54_1 : w49.cell? ⟨gb172, 1, none⟩ = some (.int .i64 0) := (blk_cell BK172.out 1).trans rfl; have hcz54_2 : w49.cell? ⟨gb172, 2, none⟩ = some (.int .i64 0) := (blk_cell BK172.out 2).trans rfl; have hfz54_0 := blk_frozen BK172.out 0; have hfz54_1 := blk_frozen BK172.out 1; have hfz54_2 := blk_frozen BK172.out 2))
           refine bodyPost_ret (results_cell_row rfl _ _ gb172 53 #[.int .i64 (wrap64 (1 + t173)), .int .i64 t175, .int .i64 t189] (0, 0) _ rfl (by (with_reducible repeat (first | refine blk_drewN ?_ _ | refine blk_drew ?_ | refine blk_alloc ?_ _)); refine blk_put (cs := #[.int .i64 (wrap64 (1 + t173)), .int .i64 t175, .int .i64 0]) ?_ 2 _ rfl; (with_reducible repeat (first | refine blk_drewN ?_ _ | refine blk_drew ?_ | refine blk_alloc ?_ _)); refine blk_put (cs := #[.int .i64 (wrap64 (1 + t173)), .int .i64 0, .int .i64 0]) ?_ 1 _ rfl; (with_reducible repeat (first | refine blk_drewN ?_ _ | refine blk_drew ?_ | refine blk_alloc ?_ _)); refine blk_put (cs := #[.int .i64 0, .int .i64 0, .int .i64 0]) ?_ 0 _ rfl; (with_reducible repeat (first | refine blk_drewN ?_ _ | refine blk_drew ?_ | refine blk_alloc ?_ _)); refine blk_far ?_ NB172_177.out _; (with_reducible repeat (first | refine blk_drewN ?_ _ | refine blk_drew ?_ | refine blk_alloc ?_ _)); exact BK172.out) Try.underlying53 rfl (by kernel_rfl)) rfl ?_
           exact ⟨by first | rfl | (simp [errW_none, errW_some] <;> rfl) | (simp [*, errW_none, errW_some] <;> rfl), by repeat (first | (with_reducible first | exact HI0.out | apply IsS72.alloc | apply IsS72.drewN | apply IsS72.drew | apply IsS72.set_1 | refine IsS72.far ?_ NB0_172.out _ | refine IsS72.far ?_ NB0_177.out _) | exact HI0.out), by repeat (first | (with_reducible first | exact HB.out | apply below_alloc | apply pw_below_drewN | apply below_drew1 | refine below_set ?_ (IsS72.ge HI0.out) | refine below_set ?_ GE172.out | refine below_set ?_ GE177.out) | exact HB.out), by repeat (first | (with_reducible first | exact HK.out | apply KeepBut.set_ | apply keep_drewN | apply keep_drew | apply keep_alloc | refine keep_far ?_ GW172.out _ | refine keep_far ?_ GW177.out _) | exact HK.out)⟩
          ·replace c47 := Bool.eq_false_iff.mpr c47
           subst c47
           have H1 : (if (wrap64 (1 + t173)) = 11 then (some ((wrap64 (1 + t173)), 0, 0, t176)) else (some ((wrap64 (1 + t173)), t175, 0, t176))) = some (r1, r2, r3, r4) := by rw [if_neg (show ¬ (false = true) by decide)] at H; exact H
           clear H
           have H := H1
           clear H1
           by_cases c55 : (wrap64 (1 + t173)) = 11
           ·rw [if_pos c55] at H
            have c55b0 : ((wrap64 (1 + t173)) == 11) = true := beq_iff_eq.mpr c55
            have c55b1 : ((wrap64 (1 + t173)) != 11) = false := bne_eq_false_iff_eq.mpr c55
            clear c55
            simp only [Option.some.injEq, Prod.mk.injEq] at H
            obtain ⟨rfl, rfl, rfl, rfl⟩ := H
            have hnb56 := NB177_172.out
            have hnc56 := NB172_177.out
            have hnb57 := NB177_0.out
            have hnc57 := NB0_177.out
            have hcz58_0 : wc.cell? ⟨gb177, 0, none⟩ = some (.int .i64 (wrap64 (1 + t173))) := (blk_cell BK177.out 0).trans rfl
            have hcz58_1 : wc.cell? ⟨gb177, 1, none⟩ = some (.int .i64 t175) := (blk_cell BK177.out 1).trans rfl
            have hcz58_2 : wc.cell? ⟨gb177, 2, none⟩ = some (.int .i64 0) := (blk_cell BK177.out 2).trans rfl
            have hfz58_0 := blk_frozen BK177.out 0
            have hfz58_1 := blk_frozen BK177.out 1
            have hfz58_2 := blk_frozen BK177.out 2
            have hnb59 := NB172_0.out
            have hnc59 := NB0_172.out
            have hcz60_0 : wc.cell? ⟨gb172, 0, none⟩ = some (.int .i64 0) := (blk_cell BK172.out 0).trans rfl
            have hcz60_1 : wc.cell? ⟨gb172, 1, none⟩ = some (.int .i64 0) := (blk_cell BK172.out 1).trans rfl
            have hcz60_2 : wc.cell? ⟨gb172, 2, none⟩ = some (.int .i64 0) := (blk_cell BK172.out 2).trans rfl
            have hfz60_0 := blk_frozen BK172.out 0
            have hfz60_1 := blk_frozen BK172.out 1
            have hfz60_2 := blk_frozen BK172.out 2
            go_wp2
            refine bodyPost_ret (results_cell_row rfl _ _ gb172 53 #[.int .i64 (wrap64 (1 + t173)), .int .i64 0, .int .i64 0] (0, 0) _ rfl (by (with_reducible repeat (first | refine blk_drewN ?_ _ | refine blk_drew ?_ | refine blk_alloc ?_ _)); refine blk_put (cs := #[.int .i64 (wrap64 (1 + t173)), .int .i64 0, .int .i64 0]) ?_ 2 _ rfl; (with_reducible repeat (first | refine blk_drewN ?_ _ | refine blk_drew ?_ | refine blk_alloc ?_ _)); refine blk_put (cs := #[.int .i64 (wrap64 (1 + t173)), .int .i64 0, .int .i64 0]) ?_ 1 _ rfl; (with_reducible repeat (first | refine blk_drewN ?_ _ | refine blk_drew ?_ | refine blk_alloc ?_ _)); refine blk_put (cs := #[.int .i64 0, .int .i64 0, .int .i64 0]) ?_ 0 _ rfl; (with_reducible repeat (first | refine blk_drewN ?_ _ | refine blk_drew ?_ | refine blk_alloc ?_ _)); refine blk_far ?_ NB172_177.out _; (with_reducible repeat (first | refine blk_drewN ?_ _ | refine blk_drew ?_ | refine blk_alloc ?_ _)); exact BK172.out) Try.underlying53 rfl (by kernel_rfl)) rfl ?_
            exact ⟨by first | rfl | (simp [errW_none, errW_some] <;> rfl) | (simp [*, errW_none, errW_some] <;> rfl), by repeat (first | (with_reducible first | exact HI0.out | apply IsS72.alloc | apply IsS72.drewN | apply IsS72.drew | apply IsS72.set_1 | refine IsS72.far ?_ NB0_172.out _ | refine IsS72.far ?_ NB0_177.out _) | exact HI0.out), by repeat (first | (with_reducible first | exact HB.out | apply below_alloc | apply pw_below_drewN | apply below_drew1 | refine below_set ?_ (IsS72.ge HI0.out) | refine below_set ?_ GE172.out | refine below_set ?_ GE177.out) | exact HB.out), by repeat (first | (with_reducible first | exact HK.out | apply KeepBut.set_ | apply keep_drewN | apply keep_drew | apply keep_alloc | refine keep_far ?_ GW172.out _ | refine keep_far ?_ GW177.out _) | exact HK.out)⟩
           ·rw [if_neg c55] at H
            have c55b0 : ((wrap64 (1 + t173)) == 11) = false := beq_eq_false_iff_ne.mpr c55
            have c55b1 : ((wrap64 (1 + t173)) != 11) = true := bne_iff_ne.mpr c55
            simp only [Option.some.injEq, Prod.mk.injEq] at H
            obtain ⟨rfl, rfl, rfl, rfl⟩ := H
            have hnb61 := NB177_172.out
            have hnc61 := NB172_177.out
            have hnb62 := NB177_0.out
            have hnc62 := NB0_177.out
            have hcz63_0 : wc.cell? ⟨gb177, 0, none⟩ = some (.int .i64 (wrap64 (1 + t173))) := (blk_cell BK177.out 0).trans rfl
            have hcz63_1 : wc.cell? ⟨gb177, 1, none⟩ = some (.int .i64 t175) := (blk_cell BK177.out 1).trans rfl
            have hcz63_2 : wc.cell? ⟨gb177, 2, none⟩ = some (.int .i64 0) := (blk_cell BK177.out 2).trans rfl
            have hfz63_0 := blk_frozen BK177.out 0
            have hfz63_1 := blk_frozen BK177.out 1
            have hfz63_2 := blk_frozen BK177.out 2
            have hnb64 := NB172_0.out
            have hnc64 := NB0_172.out
            have hcz65_0 : wc.cell? ⟨gb172, 0, none⟩ = some (.int .i64 0) := (blk_cell BK172.out 0).trans rfl
            have hcz65_1 : wc.cell? ⟨gb172, 1, none⟩ = some (.int .i64 0) := (blk_cell BK172.out 1).trans rfl
            have hcz65_2 : wc.cell? ⟨gb172, 2, none⟩ = some (.int .i64 0) := (blk_cell BK172.out 2).trans rfl
            have hfz65_0 := blk_frozen BK172.out 0
            have hfz65_1 := blk_frozen BK172.out 1
            have hfz65_2 := blk_frozen BK172.out 2
            go_wp2
            refine bodyPost_ret (results_cell_row rfl _ _ gb172 53 #[.int .i64 (wrap64 (1 + t173)), .int .i64 t175, .int .i64 0] (0, 0) _ rfl (by (with_reducible repeat (first | refine blk_drewN ?_ _ | refine blk_drew ?_ | refine blk_alloc ?_ _)); refine blk_put (cs := #[.int .i64 (wrap64 (1 + t173)), .int .i64 t175, .int .i64 0]) ?_ 2 _ rfl; (with_reducible repeat (first | refine blk_drewN ?_ _ | refine blk_drew ?_ | refine blk_alloc ?_ _)); refine blk_put (cs := #[.int .i64 (wrap64 (1 + t173)), .int .i64 0, .int .i64 0]) ?_ 1 _ rfl; (with_reducible repeat (first | refine blk_drewN ?_ _ | refine blk_drew ?_ | refine blk_alloc ?_ _)); refine blk_put (cs := #[.int .i64 0, .int .i64 0, .int .i64 0]) ?_ 0 _ rfl; (with_reducible repeat (first | refine blk_drewN ?_ _ | refine blk_drew ?_ | refine blk_alloc ?_ _)); exact BK172.out) Try.underlying53 rfl (by kernel_rfl)) rfl ?_
            exact ⟨by first | rfl | (simp [errW_none, errW_some] <;> rfl) | (simp [*, errW_none, errW_some] <;> rfl), by repeat (first | (with_reducible first | exact HI0.out | apply IsS72.alloc | apply IsS72.drewN | apply IsS72.drew | apply IsS72.set_1 | refine IsS72.far ?_ NB0_172.out _ | refine IsS72.far ?_ NB0_177.out _) | exact HI0.out), by repeat (first | (with_reducible first | exact HB.out | apply below_alloc | apply pw_below_drewN | apply below_drew1 | refine below_set ?_ (IsS72.ge HI0.out) | refine below_set ?_ GE172.out | refine below_set ?_ GE177.out) | exact HB.out), by repeat (first | (with_reducible first | exact HK.out | apply KeepBut.set_ | apply keep_drewN | apply keep_drew | apply keep_alloc | refine keep_far ?_ GW172.out _ | refine keep_far ?_ GW177.out _) | exact HK.out)⟩

end Go.Proofs.Ytmhdphohhheoaaa.P
