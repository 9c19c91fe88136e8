/- The machine side of these statements, function by function: what each Go function answers (as a Lean function), and that it does. Written by a program (mp.py) for this claim. -/
import Derived.Test.YtokpagopokkjfaaDoorPx0
import Derived.Test.YtokpagopokkjfaaDoorPx1
namespace Go.Proofs.YtokpagopokkjfaaDoor.P
open Go.RowKit Go.Proofs.YtokpagopokkjfaaDoorW.PrintWords Go.Proofs.YtokpagopokkjfaaDoorW.PrintLast Go.Proofs.YtokpagopokkjfaaDoorW.PrintMore
attribute [local go_sem] max2_int min2_int max_two min_two max_three min_three max_four min_four   -- for this text's walks alone
set_option linter.unusedVariables false
set_option linter.unusedSimpArgs false

/-! ### spec_l12Copy: function 35 -/
def spec_l12Copy.f (l0_0 : List ByteArray) (a0_1 : Int) : Option (List ByteArray × Int) := (some (([] : List ByteArray) : List ByteArray)).bind fun y234 => (if y234.length + l0_0.length < 8796093022208 then (some ((y234 ++ l0_0), a0_1)) else (none))
set_option maxHeartbeats 8000000 in
set_option maxRecDepth 100000 in
theorem spec_l12Copy.calls (A0_0 : Option Addr) (c0_0 : Nat) (l0_0 : List ByteArray) (a0_1 : Int) (r1 : List ByteArray) (r2 : Int) (w : World) (hr0_0 : Kd.C Kd.string w A0_0 l0_0.length l0_0) (hc0_0 : l0_0.length ≤ c0_0) (h : spec_l12Copy.f l0_0 a0_1 = some (r1, r2)) :
  Calls Tryd.prog 35 #[.agg #[.slice A0_0 l0_0.length c0_0, .int .i64 a0_1]] w fun e w' => ∃ v0_ : Value, e = .returned (.agg #[v0_, .int .i64 r2]) ∧ Kd.R Kd.string 9 w' w.heap.size (fun _ => True) v0_ r1 ∧ Below w.heap.size w w' := by
 have hu27 := Tryd.underlying27
 have HR0_0 := Aside0.mk hr0_0
 have HC0_0 := Aside0.mk hc0_0
 clear hr0_0 hc0_0
 have HB := m_ (Below.refl w.heap.size w)
 have H : ((some (([] : List ByteArray) : List ByteArray)).bind fun y234 => (if y234.length + l0_0.length < 8796093022208 then (some ((y234 ++ l0_0), a0_1)) else (none))) = some (r1, r2) := h
 clear h
 obtain ⟨y234, hy234⟩ : ∃ y_ : List ByteArray, y_ = (([] : List ByteArray)) := ⟨_, rfl⟩
 replace H : (if y234.length + l0_0.length < 8796093022208 then (some ((y234 ++ l0_0), a0_1)) else (none)) = some (r1, r2) := by first | (rw [hy234]; with_reducible exact H) | (have H2_ := (Option.bind_some _ _).symm.trans H; rw [hy234]; with_reducible exact H2_) | (have H2_ := (Option.bind_some _ _).symm.trans H; with_reducible exact H2_) | with_reducible exact H | (rw [hy234]; exact H) | exact H
 have Ny234 := Aside0.mk hy234
 clear hy234
 by_cases c2 : y234.length + l0_0.length < 8796093022208
 ·rw [if_pos c2] at H
  have LMc2 := Aside0.mk c2
  clear c2
  obtain ⟨y237, hy237⟩ : ∃ y_ : List ByteArray, y_ = (y234 ++ l0_0) := ⟨_, rfl⟩
  replace H : (some (y237, a0_1)) = some (r1, r2) := by first | (rw [hy237]; with_reducible exact H) | (have H2_ := (Option.bind_some _ _).symm.trans H; rw [hy237]; with_reducible exact H2_) | (have H2_ := (Option.bind_some _ _).symm.trans H; with_reducible exact H2_) | with_reducible exact H | (rw [hy237]; exact H) | exact H
  have Ny237 := Aside0.mk hy237
  clear hy237
  simp only [Option.some.injEq, Prod.mk.injEq] at H
  obtain ⟨rfl, rfl⟩ := H
  go_enter Tryd.func35, Tryd.ntmps35
  go_wp2_with (first | ((with_reducible refine gate_dst (N := 1) rfl ?_); refine box_event ?hg (N := 1) ?hd (cs := #[.slice A0_0 l0_0.length c0_0, .int .i64 a0_1]) (t := 27) ?hr ?_; (case hd => rfl); (case hg => rfl); (case hr => first | (go_simp; done) | (go_simp; rfl)); intro gb232 hg w3 hbox hb; have n0_ := m_ (below_step (bN HB.out) hb); have n1_ := m_ (hbox); have n2_ := m_ ((by rw [hg]; exact (below_size (bN HB.out)) : w.heap.size ≤ gb232)); have n3_ := m_ ((by rw [hg]; exact (below_size (bN HB.out)) : w.heap.size ≤ gb232)); clear HB; have HB := n0_; have BK232 := n1_; have GW232 := n2_; have GE232 := n3_; clear n0_ n1_ n2_ n3_; clear hb hbox hg) | ((with_reducible refine gate_dst (N := 2) rfl ?_); refine box_event ?hg (N := 2) ?hd (cs := #[.slice none 0 0, .int .i64 0]) (t := 27) ?hr ?_; (case hd => rfl); (case hg => rfl); (case hr => first | (go_simp; done) | (go_simp; rfl)); intro gb233 hg w4 hbox hb; have n0_ := m_ (blk_below (kN BK232.out) hb); have n1_ := m_ (below_step (bN HB.out) hb); have n2_ := m_ (hbox); have n3_ := m_ ((by rw [hg]; exact (below_size (bN HB.out)) : w.heap.size ≤ gb233)); have n4_ := m_ ((by rw [hg]; exact (below_size (bN HB.out)) : w.heap.size ≤ gb233)); have n5_ := m_ (nL hg BK232.out); have n6_ := m_ (nG hg BK232.out); clear BK232; clear HB; have BK232 := n0_; have HB := n1_; have BK233 := n2_; have GW233 := n3_; have GE233 := n4_; have NB232_233 := n5_; have NB233_232 := n6_; clear n0_ n1_ n2_ n3_ n4_ n5_ n6_; clear hb hbox hg) | ((with_reducible refine gate_dst (N := 3) rfl ?_); refine Kd.R_lit Kd.string _ 9 ?hg (N := 3) ?hd (xs := ([] : List ByteArray)) (inner := []) (ok := fun _ => True) (okp := fun _ => True) ?hr ?hp (fun _ hk => hk) trivial (Below.refl _ _) (Nat.le_refl _) (by simp) ?_; (case hd => rfl); (case hg => rfl); (case hr => first | (go_simp; done) | (go_simp; rfl)); (case hp => exact (Reps.none _ _)); intro v235 w5 ho6 hb hg_ hnew_; clear hg_ hnew_; (first | rw [← Ny234.out] at ho6 | (simp only [Int.reduceToNat] at ho6; rw [← Ny234.out] at ho6)); have n0_ := m_ (Kd.R_lower ho6 (below_size (bN HB.out))); have n1_ := m_ (blk_below (kN BK232.out) hb); have n2_ := m_ (blk_below (kN BK233.out) hb); have n3_ := m_ (below_step (bN HB.out) hb); clear BK232; clear BK233; clear HB; have HO236 := n0_; have BK232 := n1_; have BK233 := n2_; have HB := n3_; clear n0_ n1_ n2_ n3_; clear hb ho6; have hnb7 := NB232_233.out; have hnc7 := NB233_232.out; have hcz8_0 : w5.cell? ⟨gb232, 0, none⟩ = some (.slice A0_0 l0_0.length c0_0) := bc BK232 0; have hcz8_1 : w5.cell? ⟨gb232, 1, none⟩ = some (.int .i64 a0_1) := bc BK232 1; have hfz8_0 := blk_frozen BK232.out 0; have hfz8_1 := blk_frozen BK232.out 1) | ((with_reducible refine gate_builtin (b := .append) (xs := #[.tmp 3, .tmp 5]) rfl ?_); at_builtin; refine Kd.R_append_rows Kd.string (w0 := w) w.heap.size rfl (.tmp 3) (.tmp 5) 22 9 (.string ⟨#[]⟩) 16 rfl Tryd.underlying22 info9 rfl (by decide) (by omega) v235 y234 l0_0 _ _ _ (fun _ => True) (fun _ => False) rfl rfl ?aO ?aR (fun _ _ h => h) (fun _ h => h.elim) ?aF ?aB ?aS ?aL ?_; (case aR => exact cN (Kd.C_below HR0_0.out HB.out)); (case aB => exact (bN HB.out)); (case aF => exact (fun _ _ => trivial)); (case aO => exact (rN HO236.out)); (case aS => exact (below_size (bN HB.out))); (case aL => have := LMc2.out; omega); intro v238 w9 ho hb hg hat; rw [← Ny237.out] at ho; have n0_ := m_ (blk_grown (g := gb232) (o := .cells #[.slice A0_0 l0_0.length c0_0, .int .i64 a0_1] 27 (0, 0)) (kN BK232.out) hg (Kd.R_ne HO236.out BK232.out (by decide))); have n1_ := m_ (blk_grown (g := gb233) (o := .cells #[.slice none 0 0, .int .i64 0] 27 (0, 0)) (kN BK233.out) hg (Kd.R_ne HO236.out BK233.out (by decide))); have n2_ := m_ (hb); have n3_ := m_ (ho); clear BK232; clear BK233; clear HB; clear HO236; have BK232 := n0_; have BK233 := n1_; have HB := n2_; have HO239 := n3_; clear n0_ n1_ n2_ n3_; clear ho hb hg hat; obtain ⟨Ao10, co10, eo10⟩ := Kd.R_slice HO239.out; subst eo10; have hcz11_0 : w9.cell? ⟨gb232, 0, none⟩ = some (.slice A0_0 l0_0.length c0_0) := bc BK232 0; have hcz11_1 : w9.cell? ⟨gb232, 1, none⟩ = some (.int .i64 a0_1) := bc BK232 1; have hfz11_0 := blk_frozen BK232.out 0; have hfz11_1 := blk_frozen BK232.out 1; have hcz12_0 : w9.cell? ⟨gb233, 0, none⟩ = some (.slice none 0 0) := bc BK233 0; have hcz12_1 : w9.cell? ⟨gb233, 1, none⟩ = some (.int .i64 0) := bc BK233 1; have hfz12_0 := blk_frozen BK233.out 0; have hfz12_1 := blk_frozen BK233.out 1))
  refine bodyPost_ret (results_cell_row rfl _ _ gb233 27 #[.slice Ao10 y237.length co10, .int .i64 a0_1] (0, 0) _ rfl (kR BK233.out NB233_232.out) Tryd.underlying27 rfl (by kernel_rfl)) rfl ?_
  exact ⟨_, by first | rfl | (simp [errW_none, errW_some] <;> rfl) | (simp [*, errW_none, errW_some] <;> rfl), by (with_reducible repeat (first | apply Kd.R_alloc | apply Kd.R_drewN | apply Kd.R_drew)); exact frM (Kd.R_types (Kd.R_types HO239.out BK232.out (by decide)) BK233.out (by decide)), by repeat (first | (with_reducible first | exact HB.out | apply below_alloc | apply pw_below_drewN | apply below_drew1 | refine below_set ?_ GE232.out | refine below_set ?_ GE233.out) | exact HB.out)⟩
 ·rw [if_neg c2] at H
  exact absurd H (by simp)

/-! ### slices_Clone_string_string: function 66 -/
def slices_Clone_string_string.f (l0 : List ByteArray) : Option (List ByteArray) := (some (([] : List ByteArray) : List ByteArray)).bind fun y252 => (if y252.length + l0.length < 8796093022208 then (some (y252 ++ l0)) else (none))
set_option maxHeartbeats 8000000 in
set_option maxRecDepth 100000 in
theorem slices_Clone_string_string.calls_some (ad : Addr) (c0 : Nat) (l0 : List ByteArray) (r : List ByteArray) (w : World) (hr0 : Kd.C Kd.string w (some ad) l0.length l0) (hc0 : l0.length ≤ c0) (h : slices_Clone_string_string.f l0 = some r) :
  Calls Tryd.prog 66 #[.slice (some ad) l0.length c0] w fun e w' => ∃ v0_ : Value, e = .returned (v0_) ∧ Kd.R Kd.string 9 w' w.heap.size (fun _ => True) v0_ r ∧ Below w.heap.size w w' := by
 have HR0 := Aside0.mk hr0
 have HC0 := Aside0.mk hc0
 clear hr0 hc0
 have HB := m_ (Below.refl w.heap.size w)
 have H : ((some (([] : List ByteArray) : List ByteArray)).bind fun y252 => (if y252.length + l0.length < 8796093022208 then (some (y252 ++ l0)) else (none))) = some r := h
 clear h
 obtain ⟨y252, hy252⟩ : ∃ y_ : List ByteArray, y_ = (([] : List ByteArray)) := ⟨_, rfl⟩
 replace H : (if y252.length + l0.length < 8796093022208 then (some (y252 ++ l0)) else (none)) = some r := by first | (rw [hy252]; with_reducible exact H) | (have H2_ := (Option.bind_some _ _).symm.trans H; rw [hy252]; with_reducible exact H2_) | (have H2_ := (Option.bind_some _ _).symm.trans H; with_reducible exact H2_) | with_reducible exact H | (rw [hy252]; exact H) | exact H
 have Ny252 := Aside0.mk hy252
 clear hy252
 by_cases c2 : y252.length + l0.length < 8796093022208
 ·rw [if_pos c2] at H
  have LMc2 := Aside0.mk c2
  clear c2
  obtain ⟨y255, hy255⟩ : ∃ y_ : List ByteArray, y_ = (y252 ++ l0) := ⟨_, rfl⟩
  replace H : (some y255) = some r := by first | (rw [hy255]; with_reducible exact H) | (have H2_ := (Option.bind_some _ _).symm.trans H; rw [hy255]; with_reducible exact H2_) | (have H2_ := (Option.bind_some _ _).symm.trans H; with_reducible exact H2_) | with_reducible exact H | (rw [hy255]; exact H) | exact H
  have Ny255 := Aside0.mk hy255
  clear hy255
  obtain rfl := Option.some.inj H
  have hnil_ : ∀ w_ : World, (binOp .eql 22 (.slice (some ad) l0.length c0) (.slice none 0 0)).run Tryd.prog w_ = .ok (.bool false) w_ := fun w_ => Lib.run_eql_slice_nil w_ _ _ _ _ _ _ _ Tryd.underlying22
  go_enter Tryd.func66, Tryd.ntmps66
  go_wp2_with (first | ((with_reducible refine gate_dst (N := 5) rfl ?_); refine Kd.R_lit Kd.string _ 9 ?hg (N := 5) ?hd (xs := ([] : List ByteArray)) (inner := []) (ok := fun _ => True) (okp := fun _ => True) ?hr ?hp (fun _ hk => hk) trivial (Below.refl _ _) (Nat.le_refl _) (by simp) ?_; (case hd => rfl); (case hg => rfl); (case hr => first | (go_simp; done) | (go_simp; rfl)); (case hp => exact (Reps.none _ _)); intro v253 w3 ho4 hb hg_ hnew_; clear hg_ hnew_; (first | rw [← Ny252.out] at ho4 | (simp only [Int.reduceToNat] at ho4; rw [← Ny252.out] at ho4)); have n0_ := m_ (Kd.R_lower ho4 (below_size (bN HB.out))); have n1_ := m_ (below_step (bN HB.out) hb); clear HB; have HO254 := n0_; have HB := n1_; clear n0_ n1_; clear hb ho4) | ((with_reducible refine gate_builtin (b := .append) (xs := #[.tmp 5, .tmp 6]) rfl ?_); at_builtin; refine Kd.R_append_rows Kd.string (w0 := w) w.heap.size rfl (.tmp 5) (.tmp 6) 22 9 (.string ⟨#[]⟩) 16 rfl Tryd.underlying22 info9 rfl (by decide) (by omega) v253 y252 l0 _ _ _ (fun _ => True) (fun _ => False) rfl rfl ?aO ?aR (fun _ _ h => h) (fun _ h => h.elim) ?aF ?aB ?aS ?aL ?_; (case aR => exact cN (Kd.C_below HR0.out HB.out)); (case aB => exact (bN HB.out)); (case aF => exact (fun _ _ => trivial)); (case aO => exact (rN HO254.out)); (case aS => exact (below_size (bN HB.out))); (case aL => have := LMc2.out; omega); intro v256 w5 ho hb hg hat; rw [← Ny255.out] at ho; have n0_ := m_ (hb); have n1_ := m_ (ho); clear HB; clear HO254; have HB := n0_; have HO257 := n1_; clear n0_ n1_; clear ho hb hg hat))
  go_ret
  exact ⟨_, by first | rfl | (simp [errW_none, errW_some] <;> rfl) | (simp [*, errW_none, errW_some] <;> rfl), by (with_reducible repeat (first | apply Kd.R_alloc | apply Kd.R_drewN | apply Kd.R_drew)); exact HO257.out, by repeat (first | (with_reducible first | exact HB.out | apply below_alloc | apply pw_below_drewN | apply below_drew1) | exact HB.out)⟩
 ·rw [if_neg c2] at H
  exact absurd H (by simp)
set_option maxHeartbeats 8000000 in
set_option maxRecDepth 100000 in
theorem slices_Clone_string_string.calls (A0 : Option Addr) (c0 : Nat) (l0 : List ByteArray) (r : List ByteArray) (w : World) (hr0 : Kd.C Kd.string w A0 l0.length l0) (hc0 : l0.length ≤ c0) (h : slices_Clone_string_string.f l0 = some r) :
  Calls Tryd.prog 66 #[.slice A0 l0.length c0] w fun e w' => ∃ v0_ : Value, e = .returned (v0_) ∧ Kd.R Kd.string 9 w' w.heap.size (fun _ => True) v0_ r ∧ Below w.heap.size w w' := by
  cases A0 with
  | some ad => exact slices_Clone_string_string.calls_some ad c0 l0 r w hr0 hc0 h
  | none =>
    obtain rfl : l0 = [] := by
      rcases Nat.eq_zero_or_pos l0.length with h0_ | h0_
      · exact List.eq_nil_of_length_eq_zero h0_
      · obtain ⟨ad, e, _⟩ := hr0.2.2 h0_
        cases e
    obtain rfl : r = [] := by
      simpa [slices_Clone_string_string.f] using h.symm
    have hnil_ : ∀ (w_ : World), (binOp .eql 22 (.slice none 0 c0) (.slice none 0 0)).run Tryd.prog w_ = .ok (.bool true) w_ := fun w_ => Lib.run_eql_slice_nil w_ _ _ _ _ _ _ _ Tryd.underlying22
    clear hr0 hc0 h
    show Calls Tryd.prog 66 #[.slice none 0 c0] w _
    go_enter Tryd.func66, Tryd.ntmps66
    go_wp2
    go_ret
    exact ⟨_, rfl, Kd.R_nil _ _ _ _ _, Below.refl _ _⟩
/-! what waits in a row, by hand -/
/-- What waits in a row, at a block: its cell holds a slice of these texts. -/
def LineAt (W : World) (g base : Nat) (l : List ByteArray) : Prop := ∃ (A : Option Addr) (c : Nat), W.heap[g]? = some (.cells #[.slice A l.length c] 99 (0, 0)) ∧ Kd.R Kd.string 9 W base (fun _ => True) (.slice A l.length c) l
theorem LineAt.below {W W1 : World} {g base : Nat} {l : List ByteArray} (h : LineAt W g base l) (hb : Below W.heap.size W W1) : LineAt W1 g base l := by
  obtain ⟨A, c, h1, h2⟩ := h
  exact ⟨A, c, blk_below h1 hb, Kd.R_below h2 hb⟩
theorem LineAt.alloc {W : World} {g base : Nat} {l : List ByteArray} (h : LineAt W g base l) (o : Obj) : LineAt (W.alloc o) g base l := h.below ((Below.refl _ _).alloc (Nat.le_refl _) _)
theorem LineAt.drewN {W : World} {g base : Nat} {l : List ByteArray} (h : LineAt W g base l) (n : Nat) : LineAt (W.drewN n) g base l := h.below (pw_below_drewN (Below.refl _ _) _)
theorem LineAt.lt {W : World} {g base : Nat} {l : List ByteArray} (h : LineAt W g base l) : g < W.heap.size := by
  obtain ⟨A, c, h1, h2⟩ := h
  exact blk_lt h1
theorem clone_at (l : List ByteArray) (h : l.length ≤ 1000000) : slices_Clone_string_string.f l = some l := by
  unfold slices_Clone_string_string.f
  simp only [Option.bind_some, List.length_nil, List.nil_append, Nat.zero_add]
  rw [if_pos (by omega)]
set_option maxHeartbeats 8000000 in
set_option maxRecDepth 100000 in
theorem line_of (A : Option Addr) (c : Nat) (l : List ByteArray) (w : World) (hr : Kd.C Kd.string w A l.length l) (hc : l.length ≤ c) (hl : l.length ≤ 1000000) :
    Calls Tryd.prog 36 #[.slice A l.length c] w fun e w' => ∃ g : Nat, e = .returned (.pointer (some ⟨g, 0, none⟩)) ∧ LineAt w' g w.heap.size l ∧ w.heap.size ≤ g ∧ Below w.heap.size w w' := by
  go_enter Tryd.func36, Tryd.ntmps36
  go_wp2_with fail
  refine (slices_Clone_string_string.calls A c l l w hr hc (clone_at l hl)).mono ?_
  rintro e w1 ⟨v, rfl, O, B⟩
  obtain ⟨A1, c1, rfl⟩ := Kd.R_slice O
  have hz := B.size
  go_wp2_with fail
  go_ret
  exact ⟨_, rfl, ⟨A1, c1, heap_alloc_new _ _, Kd.R_alloc O _⟩, hz, B.alloc hz _⟩
set_option maxHeartbeats 8000000 in
set_option maxRecDepth 100000 in
theorem line_size (g base : Nat) (l : List ByteArray) (W : World) (h : LineAt W g base l) :
    Calls Tryd.prog 37 #[.pointer (some ⟨g, 0, none⟩)] W fun e w' => e = .returned (.int .i64 (l.length : Int)) ∧ w' = W := by
  obtain ⟨A, c, h1, h2⟩ := h
  have c0 : W.cell? ⟨g, 0, none⟩ = some (.slice A l.length c) := (cell_of_row _ _ _ _ _ _ h1).trans rfl
  go_enter Tryd.func37, Tryd.ntmps37
  go_wp2_with fail
  go_ret
  exact ⟨rfl, rfl⟩
set_option maxHeartbeats 8000000 in
set_option maxRecDepth 100000 in
theorem line_push (g base : Nat) (l : List ByteArray) (x : ByteArray) (W : World) (h : LineAt W g base l) (hg : base ≤ g) (hl : l.length ≤ 1000000) :
    Calls Tryd.prog 39 #[.pointer (some ⟨g, 0, none⟩), .string x] W fun e w' => e = .returned (.tuple #[]) ∧ LineAt w' g base (l ++ [x]) ∧ Below base W w' := by
  obtain ⟨A, c, h1, h2⟩ := h
  have hlt := blk_lt h1
  have c0 : W.cell? ⟨g, 0, none⟩ = some (.slice A l.length c) := (cell_of_row _ _ _ _ _ _ h1).trans rfl
  have hz : base ≤ W.heap.size := by omega
  have H1 := Aside0.mk h1
  have H2 := Aside0.mk h2
  have HZ := Aside0.mk hz
  have HL := Aside0.mk hl
  clear h1 h2 hl
  go_enter Tryd.func39, Tryd.ntmps39
  go_wp2_with (first | ((with_reducible refine gate_builtin (b := .append) (xs := #[.tmp 8, .tmp 10]) rfl ?_); at_builtin; refine Kd.R_append Kd.string (w0 := W) base rfl (.tmp 8) (.tmp 10) 22 9 (.string ⟨#[]⟩) 16 rfl Tryd.underlying22 info9 rfl (by decide) (by omega) (.slice A l.length c) l x [.string x] (fun _ => True) (fun _ => False) rfl rfl ?aP (fun _ hk => hk.elim) ?aF ?aO ?aB ?aS ?aL ?_; (case aP => exact rfl); (case aB => exact Below.refl _ _); (case aF => exact (fun _ _ => trivial)); (case aO => exact H2.out); (case aS => exact HZ.out); (case aL => have := HL.out; omega); intro v2 w2 ho hb hg2 hat; obtain ⟨A2, c2, rfl⟩ := Kd.R_slice ho; have K2 := Aside0.mk (blk_grown H1.out hg2 (Kd.R_ne H2.out H1.out (by decide))); have HB := Aside0.mk hb; have HO := Aside0.mk ho; clear ho hb hg2 hat; have k0 : w2.cell? ⟨g, 0, none⟩ = some (.slice A l.length c) := (cell_of_row _ _ _ _ _ _ K2.out).trans rfl; have k1 : w2.frozen? ⟨g, 0, none⟩ = false := frozen_of_row _ _ _ _ _ K2.out))
  first | go_end0 | ((try simp only [Exit.inBlock, Exit.then]); refine bodyPost_ret (results_none rfl _ _ _) rfl ?_)
  refine ⟨rfl, ⟨A2, c2, ?_, ?_⟩, HB.out.setCell hg _⟩
  · exact (blk_set K2.out 0 _).trans (by simp)
  · simp only [List.length_append, List.length_cons, List.length_nil, Nat.zero_add] at HO ⊢
    exact Kd.R_mono (Kd.R_far (Kd.R_types HO.out K2.out (by decide)) (fun _ hk => hk.2) _) (fun _ _ => trivial)
set_option maxHeartbeats 8000000 in
set_option maxRecDepth 100000 in
theorem line_list (g base : Nat) (l : List ByteArray) (W : World) (h : LineAt W g base l) (hl : l.length ≤ 1000000) :
    Calls Tryd.prog 40 #[.pointer (some ⟨g, 0, none⟩)] W fun e w' => ∃ v : Value, e = .returned v ∧ Kd.R Kd.string 9 w' W.heap.size (fun _ => True) v l ∧ Below W.heap.size W w' := by
  obtain ⟨A, c, h1, h2⟩ := h
  have c0 : W.cell? ⟨g, 0, none⟩ = some (.slice A l.length c) := (cell_of_row _ _ _ _ _ _ h1).trans rfl
  obtain ⟨_, hc, hr⟩ := Kd.R_reads' h2
  go_enter Tryd.func40, Tryd.ntmps40
  go_wp2_with fail
  refine (slices_Clone_string_string.calls A c l l W hr hc (clone_at l hl)).mono ?_
  rintro e w1 ⟨v, rfl, O, B⟩
  go_wp2_with fail
  go_ret
  exact ⟨_, rfl, O, B⟩

/-! ### impl_line_string_size: function 37 -/
def impl_line_string_size.f (s0_0 : List ByteArray) : Option (Int) := some (s0_0.length : Int)
set_option maxHeartbeats 8000000 in
set_option maxRecDepth 100000 in
theorem impl_line_string_size.calls (g : Nat) (s0_0 : List ByteArray) (r : Int) (w0 w : World) (hI : IsS99 w0 w g s0_0) (hB : Below w0.heap.size w0 w) (h : impl_line_string_size.f s0_0 = some r) :
  Calls Tryd.prog 37 #[.pointer (some ⟨g, 0, none⟩)] w fun e w' => e = .returned (.int .i64 r) ∧ IsS99 w0 w' g s0_0 ∧ Below w0.heap.size w0 w' ∧ KeepBut w w' g none := by
 have HI0 := Aside0.mk hI
 have HK := m_ (KeepBut.refl w g none)
 have HL := Aside0.mk hB.size
 clear hI
 have HW0 := Aside0.mk hB.size
 have HB := Aside0.mk hB
 clear hB
 have H : (some (s0_0.length : Int)) = some r := h
 clear h
 obtain rfl := Option.some.inj H
 obtain ⟨ASz2_0, cSz2_0, HGz2, hgz2, HSz2_0⟩ := HI0.out
 have hcz2_0 := cellS99_0 HGz2
 clear HGz2 hgz2
 go_enter Tryd.func37, Tryd.ntmps37
 go_wp2
 go_ret
 exact ⟨by first | rfl | (simp [errW_none, errW_some] <;> rfl) | (simp [*, errW_none, errW_some] <;> rfl), by repeat (first | (with_reducible first | exact HI0.out | apply IsS99.alloc | apply IsS99.drewN | apply IsS99.drew) | exact HI0.out), by repeat (first | (with_reducible first | exact HB.out | apply below_alloc | apply pw_below_drewN | apply below_drew1 | refine below_set ?_ (IsS99.ge HI0.out)) | exact HB.out), by repeat (first | (with_reducible first | exact HK.out | apply KeepBut.set_ | apply keep_drewN | apply keep_drew | apply keep_alloc) | exact HK.out)⟩

end Go.Proofs.YtokpagopokkjfaaDoor.P
