/- The machine side of these statements, function by function: what each Go function answers (as a Lean function), and that it does. Written by a program (mp.py) for this claim. -/
import Derived.Test.YtmhdphohhheoaaaPx0
import Derived.Test.YtmhdphohhheoaaaPx6
import Derived.Test.YtmhdphohhheoaaaPx8
namespace Go.Proofs.Ytmhdphohhheoaaa.P
open Go.RowKit Go.Proofs.YtmhdphohhheoaaaW.PrintWords Go.Proofs.YtmhdphohhheoaaaW.PrintLast Go.Proofs.YtmhdphohhheoaaaW.PrintMore
attribute [local go_sem] max2_int min2_int max_two min_two max_three min_three max_four min_four   -- for this text's walks alone
set_option linter.unusedVariables false
set_option linter.unusedSimpArgs false

/-! ### impl_PartNew: function 15 -/
def impl_PartNew.f (k : Nat) (l0 : List (S53)) : Option ((List (S53)) × List Int × Int × Bool × List Int) := (impl_ProgOk.f k l0).bind fun t245 => (if t245 = true then ((impl_Op.f l0).bind fun t246 => (if 8 ≤ 35184372088832 then (some (t246, (List.replicate 8 0), 0, false, ([] : List Int))) else (none))) else (some (([] : List (S53)), ([] : List Int), 0, false, ([] : List Int))))
theorem impl_PartNew.mono : ∀ a0 k, LeO (impl_PartNew.f k a0) (impl_PartNew.f (k + 1) a0) := by
 intro a0 k
 unfold impl_PartNew.f
 repeat' first
   | (with_reducible exact impl_ProgOk.mono _ _)
   | (with_reducible exact LeO.refl _)
   | (with_reducible exact LeO.none _)
   | (with_reducible refine LeO.ite ?_ ?_)
   | (with_reducible refine LeO.bind ?_ (fun _ => ?_))
   | exact impl_ProgOk.mono _ _
   | exact LeO.none _
   | refine LeO.ite ?_ ?_
   | refine LeO.bind ?_ (fun _ => ?_)
set_option maxHeartbeats 8000000 in
set_option maxRecDepth 100000 in
theorem impl_PartNew.calls (k : Nat) (A0 : Option Addr) (c0 : Nat) (l0 : List (S53)) (r1 : List (S53)) (r2 : List Int) (r3 : Int) (r4 : Bool) (r5 : List Int) (w : World) (hr0 : Kd.C k53 w A0 l0.length l0) (hc0 : l0.length ≤ c0) (h : impl_PartNew.f k l0 = some (r1, r2, r3, r4, r5)) :
  Calls Try.prog 15 #[.slice A0 l0.length c0] w fun e w' => ∃ v0_ v1_ v4_ : Value, e = .returned (.agg #[v0_, v1_, .int .i64 r3, .bool r4, v4_]) ∧ Kd.R k53 53 w' w.heap.size (fun _ => True) v0_ r1 ∧ Kd.R (Kd.int .i64) 3 w' w.heap.size (fun k_ => some k_ ≠ (v4_ : Value).ownBlock) v1_ r2 ∧ Kd.R (Kd.int .i64) 3 w' w.heap.size (fun k_ => some k_ ≠ (v1_ : Value).ownBlock) v4_ r5 ∧ Below w.heap.size w w' := by
 have hu33 := Try.underlying33
 have HR0 := Aside0.mk hr0
 have HC0 := Aside0.mk hc0
 clear hr0 hc0
 have HB := m_ (Below.refl w.heap.size w)
 have H : ((impl_ProgOk.f k l0).bind fun t245 => (if t245 = true then ((impl_Op.f l0).bind fun t246 => (if 8 ≤ 35184372088832 then (some (t246, (List.replicate 8 0), 0, false, ([] : List Int))) else (none))) else (some (([] : List (S53)), ([] : List Int), 0, false, ([] : List Int))))) = some (r1, r2, r3, r4, r5) := h
 clear h
 replace H := Option.bind_eq_some_iff.mp H
 obtain ⟨t245, A20, H⟩ := H
 replace H : (if t245 = true then ((impl_Op.f l0).bind fun t246 => (if 8 ≤ 35184372088832 then (some (t246, (List.replicate 8 0), 0, false, ([] : List Int))) else (none))) else (some (([] : List (S53)), ([] : List Int), 0, false, ([] : List Int)))) = some (r1, r2, r3, r4, r5) := H
 have A2 := Aside0.mk A20
 clear A20
 by_cases c3 : t245 = true
 ·subst c3
  have H1 : ((impl_Op.f l0).bind fun t246 => (if 8 ≤ 35184372088832 then (some (t246, (List.replicate 8 0), 0, false, ([] : List Int))) else (none))) = some (r1, r2, r3, r4, r5) := by rw [if_pos rfl] at H; exact H
  clear H
  have H := H1
  clear H1
  replace H := Option.bind_eq_some_iff.mp H
  obtain ⟨t246, A40, H⟩ := H
  replace H : (if 8 ≤ 35184372088832 then (some (t246, (List.replicate 8 0), 0, false, ([] : List Int))) else (none)) = some (r1, r2, r3, r4, r5) := H
  have A4 := Aside0.mk A40
  clear A40
  by_cases c5 : 8 ≤ 35184372088832
  ·rw [if_pos c5] at H
   have c5b0 := eq_true c5
   have c5b1 : decide (8 ≤ 35184372088832) = true := decide_eq_true c5
   clear c5
   obtain ⟨y249, hy249⟩ : ∃ y_ : List Int, y_ = (List.replicate 8 0) := ⟨_, rfl⟩
   replace H : (some (t246, y249, 0, false, ([] : List Int))) = some (r1, r2, r3, r4, r5) := by first | (rw [hy249]; with_reducible exact H) | (have H2_ := (Option.bind_some _ _).symm.trans H; rw [hy249]; with_reducible exact H2_) | (have H2_ := (Option.bind_some _ _).symm.trans H; with_reducible exact H2_) | with_reducible exact H | (rw [hy249]; exact H) | exact H
   have Ny249 := Aside0.mk hy249
   clear hy249
   simp only [Option.some.injEq, Prod.mk.injEq] at H
   obtain ⟨rfl, rfl, rfl, rfl, rfl⟩ := H
   go_enter Try.func15, Try.ntmps15
   try go_wp2_with (first | ((with_reducible refine gate_dst (N := 2) rfl ?_); refine box_event ?hg (N := 2) ?hd (cs := #[.slice none 0 0, .slice none 0 0, .int .i64 0, .bool false, .slice none 0 0]) (t := 33) ?hr ?_; (case hd => rfl); (case hg => rfl); (case hr => first | (go_simp; done) | (go_simp; rfl)); intro gb244 hg w6 hbox hb; have n0_ := m_ (below_step (bN HB.out) hb); have n1_ := m_ (hbox); have n2_ := m_ ((by rw [hg]; exact (below_size (bN HB.out)) : w.heap.size ≤ gb244)); have n3_ := m_ ((by rw [hg]; exact (below_size (bN HB.out)) : w.heap.size ≤ gb244)); clear HB; have HB := n0_; have BK244 := n1_; have GW244 := n2_; have GE244 := n3_; clear n0_ n1_ n2_ n3_; clear hb hbox hg) | ((with_reducible refine gate_callee (f := 12) rfl ?_); refine goesL_ (some 4) rfl rfl Try.func12 (by kernel_rfl) rfl #[.slice A0 l0.length c0] rfl gl_ ?_; (with_reducible refine (impl_ProgOk.calls k _ _ l0 true _ ?side1 ?side2 A2.out).mono ?_); (case side1 => exact cN (Kd.C_below HR0.out HB.out)); (case side2 => exact HC0.out); rintro e w7 ⟨rfl, hb⟩; refine ⟨_, rfl, ?_⟩; have n0_ := m_ (blk_below (kN BK244.out) hb); have n1_ := m_ (below_step (bN HB.out) hb); clear BK244; clear HB; have BK244 := n0_; have HB := n1_; clear n0_ n1_; (try clear hb); (try clear hb2); (try clear hk); (try clear hi)))
   have n0_ := m_ (blk_drew BK244.out)
   have n1_ := m_ (below_drew1 HB.out)
   clear BK244
   clear HB
   have BK244 := n0_
   have HB := n1_
   clear n0_ n1_
   refine start_ (n := 5) (S := fun w' => True) (ds := []) #[false, false, false, false, false] (by kernel_rfl) rfl rfl trivial (fun hHeld => ?_)
   generalize w7.drew = w8 at BK244 HB hHeld ⊢
   refine pure_ (i := 0) (N := some 7) (v := ?_) (a' := ?_) #[true, false, false, false, false] rfl rfl (by kernel_rfl) (fun _ _ _ h => h) (Or.inl ⟨by rfl, ?_⟩) ?_ ?_
   rotate_left
   ·intro w'
    go_simp
    with_reducible rfl
   rotate_left
   ·simp only [Act.put, List.setIfInBounds_toArray, List.set_cons_zero, List.set_cons_succ, i64_w, i32_w]
    rfl
   refine join_ (σ := Value × Value) 2 #[true, true, true, false, false] (fun s_ => [(8, s_.1), (9, s_.2)]) (fun s_ w' => (Kd.R k53 53 w' w.heap.size (fun _ => True) s_.1 t246) ∧ (Kd.R (Kd.int .i64) 3 w' w.heap.size (fun _ => True) s_.2 y249) ∧ (w'.heap[gb244]? = some (.cells #[.slice none 0 0, .slice none 0 0, .int .i64 0, .bool false, .slice none 0 0] 33 (0, 0))) ∧ (Below w.heap.size w w')) ?_ ?_
   rotate_left
   ·intro hCont
    refine two_ (i := 1) (j := 2) (Ni := some 8) (Nj := some 9) #[true, true, false, false, false] #[true, false, true, false, false] rfl rfl rfl rfl (by kernel_rfl) (by decide) (by decide) (fun K hK => ?_) (fun K hK => ?_)
    ·skip
     refine goes_ Try.func36 (by kernel_rfl) rfl #[.slice A0 l0.length c0] (by rfl) rfl rfl gl_ ?_
     with_reducible refine (impl_Op.calls _ _ l0 t246 _ ?side1 ?side2 A4.out).mono ?_
     (case side1 => exact cN (Kd.C_below HR0.out HB.out))
     (case side2 => exact HC0.out)
     rintro e w9 ⟨v247, rfl, ho0, hb⟩
     refine ⟨_, rfl, ?_⟩
     have n0_ := m_ (Kd.R_lower ho0 (below_size (bN HB.out)))
     have n1_ := m_ (blk_below (kN BK244.out) hb)
     have n2_ := m_ (below_step (bN HB.out) hb)
     clear BK244
     clear HB
     have HO248 := n0_
     have BK244 := n1_
     have HB := n2_
     clear n0_ n1_ n2_
     (try clear hb)
     (try clear hb2)
     (try clear hk)
     (try clear hi)
     (try clear ho0)
     refine hK.out _ _ trivial (fun hHeld => ?_)
     clear hK K
     refine norm_ (a' := ?_) ?_ ?_
     rotate_left
     ·show Act.put _ (some 8) _ = _
      simp only [Act.put, List.setIfInBounds_toArray, List.set_cons_zero, List.set_cons_succ, i64_w, i32_w]
      rfl
     refine one_ (i := 2) (N := some 9) #[true, true, true, false, false] rfl rfl (by kernel_rfl) (by decide) (fun K hK => ?_)
     refine Kd.R_make_step (Kd.int .i64) _ 3 (by rfl) (N := 9) rfl 31 _ _ rfl 8 rfl rfl Try.underlying31 (.int .i64 0) 8 info3 rfl (by decide) (by omega) 0 (ok := fun _ => True) (okp := fun _ => True) rfl (fun _ hk => hk) trivial (by omega) (by omega) (Below.refl _ _) (Nat.le_refl _) ?_
     intro v250 w10 ho11 hb hg_ hnew_
     clear hg_ hnew_
     (first | rw [← Ny249.out] at ho11 | (simp only [Int.reduceToNat] at ho11; rw [← Ny249.out] at ho11))
     have n0_ := m_ (Kd.R_below (rN HO248.out) hb)
     have n1_ := m_ (Kd.R_lower ho11 (below_size (bN HB.out)))
     have n2_ := m_ (blk_below (kN BK244.out) hb)
     have n3_ := m_ (below_step (bN HB.out) hb)
     clear HO248
     clear BK244
     clear HB
     have HO248 := n0_
     have HO251 := n1_
     have BK244 := n2_
     have HB := n3_
     clear n0_ n1_ n2_ n3_
     clear hb ho11
     obtain ⟨Ao12, co12, eo12⟩ := Kd.R_slice HO251.out
     (first | subst eo12 | (injection eo12 with f1_ f2_ f3_; have f4_ := f1_.symm; have f5_ := f3_.symm; clear f1_ f2_ f3_; subst f4_; subst f5_))
     obtain ⟨Ao13, co13, eo13⟩ := Kd.R_slice HO248.out
     (first | subst eo13 | (injection eo13 with f1_ f2_ f3_; have f4_ := f1_.symm; have f5_ := f3_.symm; clear f1_ f2_ f3_; subst f4_; subst f5_))
     refine hK.out _ _ trivial (fun hHeld => ?_)
     clear hK K
     refine norm_ (a' := ?_) ?_ ?_
     rotate_left
     ·show Act.put _ (some 9) _ = _
      simp only [Act.put, List.setIfInBounds_toArray, List.set_cons_zero, List.set_cons_succ, i64_w, i32_w]
      rfl
     exact norm_ (by simp only [putAll, Act.put, List.setIfInBounds_toArray, List.set_cons_zero, List.set_cons_succ]) (hCont (.slice Ao13 t246.length co13, .slice Ao12 y249.length co12) _ ⟨(rN HO248.out), (rN HO251.out), (kN BK244.out), (bN HB.out)⟩)
    ·skip
     refine Kd.R_make_step (Kd.int .i64) _ 3 (by rfl) (N := 9) rfl 31 _ _ rfl 8 rfl rfl Try.underlying31 (.int .i64 0) 8 info3 rfl (by decide) (by omega) 0 (ok := fun _ => True) (okp := fun _ => True) rfl (fun _ hk => hk) trivial (by omega) (by omega) (Below.refl _ _) (Nat.le_refl _) ?_
     intro v250 w9 ho10 hb hg_ hnew_
     clear hg_ hnew_
     (first | rw [← Ny249.out] at ho10 | (simp only [Int.reduceToNat] at ho10; rw [← Ny249.out] at ho10))
     have n0_ := m_ (Kd.R_lower ho10 (below_size (bN HB.out)))
     have n1_ := m_ (blk_below (kN BK244.out) hb)
     have n2_ := m_ (below_step (bN HB.out) hb)
     clear BK244
     clear HB
     have HO251 := n0_
     have BK244 := n1_
     have HB := n2_
     clear n0_ n1_ n2_
     clear hb ho10
     refine hK.out _ _ trivial (fun hHeld => ?_)
     clear hK K
     refine norm_ (a' := ?_) ?_ ?_
     rotate_left
     ·show Act.put _ (some 9) _ = _
      simp only [Act.put, List.setIfInBounds_toArray, List.set_cons_zero, List.set_cons_succ, i64_w, i32_w]
      rfl
     refine one_ (i := 1) (N := some 8) #[true, true, true, false, false] rfl rfl (by kernel_rfl) (by decide) (fun K hK => ?_)
     refine goes_ Try.func36 (by kernel_rfl) rfl #[.slice A0 l0.length c0] (by rfl) rfl rfl gl_ ?_
     with_reducible refine (impl_Op.calls _ _ l0 t246 _ ?side1 ?side2 A4.out).mono ?_
     (case side1 => exact cN (Kd.C_below HR0.out HB.out))
     (case side2 => exact HC0.out)
     rintro e w11 ⟨v247, rfl, ho0, hb⟩
     refine ⟨_, rfl, ?_⟩
     have n0_ := m_ (Kd.R_below (rN HO251.out) hb)
     have n1_ := m_ (Kd.R_lower ho0 (below_size (bN HB.out)))
     have n2_ := m_ (blk_below (kN BK244.out) hb)
     have n3_ := m_ (below_step (bN HB.out) hb)
     clear HO251
     clear BK244
     clear HB
     have HO251 := n0_
     have HO248 := n1_
     have BK244 := n2_
     have HB := n3_
     clear n0_ n1_ n2_ n3_
     (try clear hb)
     (try clear hb2)
     (try clear hk)
     (try clear hi)
     (try clear ho0)
     obtain ⟨Ao12, co12, eo12⟩ := Kd.R_slice HO251.out
     (first | subst eo12 | (injection eo12 with f1_ f2_ f3_; have f4_ := f1_.symm; have f5_ := f3_.symm; clear f1_ f2_ f3_; subst f4_; subst f5_))
     obtain ⟨Ao13, co13, eo13⟩ := Kd.R_slice HO248.out
     (first | subst eo13 | (injection eo13 with f1_ f2_ f3_; have f4_ := f1_.symm; have f5_ := f3_.symm; clear f1_ f2_ f3_; subst f4_; subst f5_))
     refine hK.out _ _ trivial (fun hHeld => ?_)
     clear hK K
     refine norm_ (a' := ?_) ?_ ?_
     rotate_left
     ·show Act.put _ (some 8) _ = _
      simp only [Act.put, List.setIfInBounds_toArray, List.set_cons_zero, List.set_cons_succ, i64_w, i32_w]
      rfl
     exact norm_ (by simp only [putAll, Act.put, List.setIfInBounds_toArray, List.set_cons_zero, List.set_cons_succ]) (hCont (.slice Ao13 t246.length co13, .slice Ao12 y249.length co12) _ ⟨(rN HO248.out), (rN HO251.out), (kN BK244.out), (bN HB.out)⟩)
   rintro ⟨v247, v250⟩ w14 ⟨h0_, h1_, h2_, h3_⟩
   have n0_ : Aside0 (Kd.R k53 53 w14 w.heap.size (fun _ => True) v247 t246) := ⟨h0_⟩
   have n1_ : Aside0 (Kd.R (Kd.int .i64) 3 w14 w.heap.size (fun _ => True) v250 y249) := ⟨h1_⟩
   have n2_ : Aside0 (w14.heap[gb244]? = some (.cells #[.slice none 0 0, .slice none 0 0, .int .i64 0, .bool false, .slice none 0 0] 33 (0, 0))) := ⟨h2_⟩
   have n3_ : Aside0 (Below w.heap.size w w14) := ⟨h3_⟩
   clear BK244
   clear HB
   clear h0_ h1_ h2_ h3_
   have HO248 := n0_
   have HO251 := n1_
   have BK244 := n2_
   have HB := n3_
   clear n0_ n1_ n2_ n3_
   have hHeld := trivial
   obtain ⟨Ao15, co15, eo15⟩ := Kd.R_slice HO251.out
   (first | subst eo15 | (injection eo15 with f1_ f2_ f3_; have f4_ := f1_.symm; have f5_ := f3_.symm; clear f1_ f2_ f3_; subst f4_; subst f5_))
   obtain ⟨Ao16, co16, eo16⟩ := Kd.R_slice HO248.out
   (first | subst eo16 | (injection eo16 with f1_ f2_ f3_; have f4_ := f1_.symm; have f5_ := f3_.symm; clear f1_ f2_ f3_; subst f4_; subst f5_))
   refine norm_ (a' := ?_) ?_ ?_
   rotate_left
   ·simp only [putAll, Act.put, List.setIfInBounds_toArray, List.set_cons_zero, List.set_cons_succ]
    rfl
   refine pure_ (i := 3) (N := some 10) (v := ?_) (a' := ?_) #[true, true, true, true, false] rfl rfl (by kernel_rfl) (fun _ _ _ h => h) (Or.inl ⟨by rfl, ?_⟩) ?_ ?_
   rotate_left
   ·intro w'
    go_simp
    with_reducible rfl
   rotate_left
   ·simp only [Act.put, List.setIfInBounds_toArray, List.set_cons_zero, List.set_cons_succ, i64_w, i32_w]
    rfl
   refine one_ (i := 4) (N := none) #[true, true, true, true, true] rfl rfl (by kernel_rfl) (by decide) (fun K hK => ?_)
   have hs17 : w14.cell? ⟨gb244, 0, none⟩ = some (.slice none 0 0) := (blk_cell BK244.out 0).trans rfl
   have hfs17 := blk_frozen BK244.out 0
   have hs18 : w14.cell? ⟨gb244, 1, none⟩ = some (.slice none 0 0) := (blk_cell BK244.out 1).trans rfl
   have hfs18 := blk_frozen BK244.out 1
   have hs19 : w14.cell? ⟨gb244, 2, none⟩ = some (.int .i64 0) := (blk_cell BK244.out 2).trans rfl
   have hfs19 := blk_frozen BK244.out 2
   have hs20 : w14.cell? ⟨gb244, 3, none⟩ = some (.bool false) := (blk_cell BK244.out 3).trans rfl
   have hfs20 := blk_frozen BK244.out 3
   have hs21 : w14.cell? ⟨gb244, 4, none⟩ = some (.slice none 0 0) := (blk_cell BK244.out 4).trans rfl
   have hfs21 := blk_frozen BK244.out 4
   refine skip_ (w1 := ?_) (by rfl) rfl ?_ ?_
   rotate_left
   ·go_simp
    rfl
   refine hK.out _ _ trivial (fun hHeld => ?_)
   clear hK K
   refine done_ (by kernel_rfl) ?_
   try go_wp2
   refine bodyPost_ret (results_cell_row rfl _ _ gb244 33 #[.slice Ao16 t246.length co16, .slice Ao15 y249.length co15, .int .i64 0, .bool false, .slice none 0 0] (0, 0) _ rfl (by (with_reducible repeat (first | refine blk_drewN ?_ _ | refine blk_drew ?_ | refine blk_alloc ?_ _)); refine blk_put (cs := #[.slice Ao16 t246.length co16, .slice Ao15 y249.length co15, .int .i64 0, .bool false, .slice none 0 0]) ?_ 4 _ rfl; (with_reducible repeat (first | refine blk_drewN ?_ _ | refine blk_drew ?_ | refine blk_alloc ?_ _)); refine blk_put (cs := #[.slice Ao16 t246.length co16, .slice Ao15 y249.length co15, .int .i64 0, .bool false, .slice none 0 0]) ?_ 3 _ rfl; (with_reducible repeat (first | refine blk_drewN ?_ _ | refine blk_drew ?_ | refine blk_alloc ?_ _)); refine blk_put (cs := #[.slice Ao16 t246.length co16, .slice Ao15 y249.length co15, .int .i64 0, .bool false, .slice none 0 0]) ?_ 2 _ rfl; (with_reducible repeat (first | refine blk_drewN ?_ _ | refine blk_drew ?_ | refine blk_alloc ?_ _)); refine blk_put (cs := #[.slice Ao16 t246.length co16, .slice none 0 0, .int .i64 0, .bool false, .slice none 0 0]) ?_ 1 _ rfl; (with_reducible repeat (first | refine blk_drewN ?_ _ | refine blk_drew ?_ | refine blk_alloc ?_ _)); refine blk_put (cs := #[.slice none 0 0, .slice none 0 0, .int .i64 0, .bool false, .slice none 0 0]) ?_ 0 _ rfl; (with_reducible repeat (first | refine blk_drewN ?_ _ | refine blk_drew ?_ | refine blk_alloc ?_ _)); exact BK244.out) Try.underlying33 rfl (by kernel_rfl)) rfl ?_
   exact ⟨_, _, _, by first | rfl | (simp [errW_none, errW_some] <;> rfl) | (simp [*, errW_none, errW_some] <;> rfl), by (with_reducible repeat (first | apply Kd.R_alloc | apply Kd.R_drewN | apply Kd.R_drew)); exact frM (Kd.R_types HO248.out BK244.out (by decide)), by (with_reducible repeat (first | apply Kd.R_alloc | apply Kd.R_drewN | apply Kd.R_drew)); exact Kd.R_mono (Kd.R_far (p := ⟨gb244, 4, none⟩) (Kd.R_far (p := ⟨gb244, 3, none⟩) (Kd.R_far (p := ⟨gb244, 2, none⟩) (Kd.R_far (p := ⟨gb244, 1, none⟩) (Kd.R_far (p := ⟨gb244, 0, none⟩) (Kd.R_types HO251.out BK244.out (by decide)) (fun _ hk => hk.2) (.slice Ao16 t246.length co16)) (fun _ hk => hk.2) (.slice Ao15 y249.length co15)) (fun _ hk => hk.2) (.int .i64 0)) (fun _ hk => hk.2) (.bool false)) (fun _ hk => hk.2) (.slice none 0 0)) (fun _ hk => (by simp [Value.ownBlock])), by first | exact Kd.R_nil _ _ _ _ _ | exact Kd.N_nil _ _ _ _ _ | exact Kd.V_nil _ _ _ _ _ | exact Kd.Q_nil _ _ _ _ _ | exact Kd.S_nil _ _ _ _ _, by repeat (first | (with_reducible first | exact HB.out | apply below_alloc | apply pw_below_drewN | apply below_drew1 | refine below_set ?_ GE244.out) | exact HB.out)⟩
  ·rw [if_neg c5] at H
   exact absurd H (by simp)
 ·replace c3 := Bool.eq_false_iff.mpr c3
  subst c3
  have H1 : (some (([] : List (S53)), ([] : List Int), 0, false, ([] : List Int))) = some (r1, r2, r3, r4, r5) := by rw [if_neg (show ¬ (false = true) by decide)] at H; exact H
  clear H
  have H := H1
  clear H1
  simp only [Option.some.injEq, Prod.mk.injEq] at H
  obtain ⟨rfl, rfl, rfl, rfl, rfl⟩ := H
  go_enter Try.func15, Try.ntmps15
  go_wp2_with (first | ((with_reducible refine gate_dst (N := 2) rfl ?_); refine box_event ?hg (N := 2) ?hd (cs := #[.slice none 0 0, .slice none 0 0, .int .i64 0, .bool false, .slice none 0 0]) (t := 33) ?hr ?_; (case hd => rfl); (case hg => rfl); (case hr => first | (go_simp; done) | (go_simp; rfl)); intro gb244 hg w22 hbox hb; have n0_ := m_ (below_step (bN HB.out) hb); have n1_ := m_ (hbox); have n2_ := m_ ((by rw [hg]; exact (below_size (bN HB.out)) : w.heap.size ≤ gb244)); have n3_ := m_ ((by rw [hg]; exact (below_size (bN HB.out)) : w.heap.size ≤ gb244)); clear HB; have HB := n0_; have BK244 := n1_; have GW244 := n2_; have GE244 := n3_; clear n0_ n1_ n2_ n3_; clear hb hbox hg) | ((with_reducible refine gate_callee (f := 12) rfl ?_); refine goesL_ (some 4) rfl rfl Try.func12 (by kernel_rfl) rfl #[.slice A0 l0.length c0] rfl gl_ ?_; (with_reducible refine (impl_ProgOk.calls k _ _ l0 false _ ?side1 ?side2 A2.out).mono ?_); (case side1 => exact cN (Kd.C_below HR0.out HB.out)); (case side2 => exact HC0.out); rintro e w23 ⟨rfl, hb⟩; refine ⟨_, rfl, ?_⟩; have n0_ := m_ (blk_below (kN BK244.out) hb); have n1_ := m_ (below_step (bN HB.out) hb); clear BK244; clear HB; have BK244 := n0_; have HB := n1_; clear n0_ n1_; (try clear hb); (try clear hb2); (try clear hk); (try clear hi); have hcz24_0 : w23.cell? ⟨gb244, 0, none⟩ = some (.slice none 0 0) := (blk_cell BK244.out 0).trans rfl; have hcz24_1 : w23.cell? ⟨gb244, 1, none⟩ = some (.slice none 0 0) := (blk_cell BK244.out 1).trans rfl; have hcz24_2 : w23.cell? ⟨gb244, 2, none⟩ = some (.int .i64 0) := (blk_cell BK244.out 2).trans rfl; have hcz24_3 : w23.cell? ⟨gb244, 3, none⟩ = some (.bool false) := (blk_cell BK244.out 3).trans rfl; have hcz24_4 : w23.cell? ⟨gb244, 4, none⟩ = some (.slice none 0 0) := (blk_cell BK244.out 4).trans rfl; have hfz24_0 := blk_frozen BK244.out 0; have hfz24_1 := blk_frozen BK244.out 1; have hfz24_2 := blk_frozen BK244.out 2; have hfz24_3 := blk_frozen BK244.out 3; have hfz24_4 := blk_frozen BK244.out 4))
  refine bodyPost_ret (results_cell_row rfl _ _ gb244 33 #[.slice none 0 0, .slice none 0 0, .int .i64 0, .bool false, .slice none 0 0] (0, 0) _ rfl (by (with_reducible repeat (first | refine blk_drewN ?_ _ | refine blk_drew ?_ | refine blk_alloc ?_ _)); refine blk_put (cs := #[.slice none 0 0, .slice none 0 0, .int .i64 0, .bool false, .slice none 0 0]) ?_ 4 _ rfl; (with_reducible repeat (first | refine blk_drewN ?_ _ | refine blk_drew ?_ | refine blk_alloc ?_ _)); refine blk_put (cs := #[.slice none 0 0, .slice none 0 0, .int .i64 0, .bool false, .slice none 0 0]) ?_ 3 _ rfl; (with_reducible repeat (first | refine blk_drewN ?_ _ | refine blk_drew ?_ | refine blk_alloc ?_ _)); refine blk_put (cs := #[.slice none 0 0, .slice none 0 0, .int .i64 0, .bool false, .slice none 0 0]) ?_ 2 _ rfl; (with_reducible repeat (first | refine blk_drewN ?_ _ | refine blk_drew ?_ | refine blk_alloc ?_ _)); refine blk_put (cs := #[.slice none 0 0, .slice none 0 0, .int .i64 0, .bool false, .slice none 0 0]) ?_ 1 _ rfl; (with_reducible repeat (first | refine blk_drewN ?_ _ | refine blk_drew ?_ | refine blk_alloc ?_ _)); refine blk_put (cs := #[.slice none 0 0, .slice none 0 0, .int .i64 0, .bool false, .slice none 0 0]) ?_ 0 _ rfl; (with_reducible repeat (first | refine blk_drewN ?_ _ | refine blk_drew ?_ | refine blk_alloc ?_ _)); exact BK244.out) Try.underlying33 rfl (by kernel_rfl)) rfl ?_
  exact ⟨_, _, _, by first | rfl | (simp [errW_none, errW_some] <;> rfl) | (simp [*, errW_none, errW_some] <;> rfl), by first | exact Kd.R_nil _ _ _ _ _ | exact Kd.N_nil _ _ _ _ _ | exact Kd.V_nil _ _ _ _ _ | exact Kd.Q_nil _ _ _ _ _ | exact Kd.S_nil _ _ _ _ _, by first | exact Kd.R_nil _ _ _ _ _ | exact Kd.N_nil _ _ _ _ _ | exact Kd.V_nil _ _ _ _ _ | exact Kd.Q_nil _ _ _ _ _ | exact Kd.S_nil _ _ _ _ _, by first | exact Kd.R_nil _ _ _ _ _ | exact Kd.N_nil _ _ _ _ _ | exact Kd.V_nil _ _ _ _ _ | exact Kd.Q_nil _ _ _ _ _ | exact Kd.S_nil _ _ _ _ _, by repeat (first | (with_reducible first | exact HB.out | apply below_alloc | apply pw_below_drewN | apply below_drew1 | refine below_set ?_ GE244.out) | exact HB.out)⟩

end Go.Proofs.Ytmhdphohhheoaaa.P
