/- The machine side of these statements, function by function: what each Go function answers (as a Lean function), and that it does. Written by a program (mp.py) for this claim. -/
import Derived.Test.YtcenmlpfbpogoaaDoorPx0
import Derived.Test.YtcenmlpfbpogoaaDoorPx1
import Derived.Test.YtcenmlpfbpogoaaDoorPx6
namespace Go.Proofs.YtcenmlpfbpogoaaDoor.P
open Go.RowKit Go.Proofs.YtcenmlpfbpogoaaDoorW.PrintWords Go.Proofs.YtcenmlpfbpogoaaDoorW.PrintLast Go.Proofs.YtcenmlpfbpogoaaDoorW.PrintMore
attribute [local go_sem] max2_int min2_int max_two min_two max_three min_three max_four min_four   -- for this text's walks alone
set_option linter.unusedVariables false
set_option linter.unusedSimpArgs false

/-! ### spec_l15Prog: function 67 -/
mutual
def spec_l15Prog.j0 : Nat → Int → List Int → Int → Option ((List (S107)) × Int)
 | 0, _, _, _ => none
 | k + 1, x3, x1000, x1001 => spec_l15Prog.l0 k x3 (([] : List (S107))) 0 x1000 x1001
def spec_l15Prog.l0 : Nat → Int → List (S107) → Int → List Int → Int → Option ((List (S107)) × Int)
 | 0, _, _, _, _, _ => none
 | k + 1, x3, x4, x5, x1000, x1001 => if x5 < x3 then ((spec_l15Op.f k x1000 x1001 x3).bind fun bt179 => (if x4.length < 5864062014805 then (spec_l15Prog.l0 k x3 (x4 ++ [(⟨bt179.1, bt179.2.1, bt179.2.2.1⟩ : S107)]) (wrap64 (x5 + 1)) x1000 bt179.2.2.2) else (none))) else (some (x4, x1001))
end
def spec_l15Prog.f (k : Nat) (s0_0 : List Int) (s0_1 : Int) : Option ((List (S107)) × Int) := (spec_l1Rd_pick.f k s0_0 s0_1 8).bind fun bt172 => ((spec_l1Rd_pick.f k s0_0 bt172.2 10).bind fun bt174 => (if bt174.1 = 0 then (spec_l15Prog.j0 k 16 s0_0 bt174.2) else (spec_l15Prog.j0 k (wrap64 (1 + bt172.1)) s0_0 bt174.2)))
theorem spec_l15Prog.mono_l : ∀ k, (∀ y0 y1 y2, LeO (spec_l15Prog.j0 k y0 y1 y2) (spec_l15Prog.j0 (k + 1) y0 y1 y2)) ∧ (∀ y0 y1 y2 y3 y4, LeO (spec_l15Prog.l0 k y0 y1 y2 y3 y4) (spec_l15Prog.l0 (k + 1) y0 y1 y2 y3 y4))
 | 0 => ⟨fun _ _ _ r h => by simp [spec_l15Prog.j0] at h, fun _ _ _ _ _ r h => by simp [spec_l15Prog.l0] at h⟩
 | k + 1 => by
  obtain ⟨ih0, ih1⟩ := spec_l15Prog.mono_l k
  refine ⟨?_, ?_⟩
  ·intro y0 y1 y2
   unfold spec_l15Prog.j0
   repeat' first
   | (with_reducible exact ih0 _ _ _)
   | (with_reducible exact ih1 _ _ _ _ _)
   | (with_reducible exact spec_l15Op.mono _ _ _ _)
   | (with_reducible exact spec_l1Rd_pick.mono _ _ _ _)
   | (with_reducible exact LeO.refl _)
   | (with_reducible exact LeO.none _)
   | (with_reducible refine LeO.ite ?_ ?_)
   | (with_reducible refine LeO.bind ?_ (fun _ => ?_))
   | exact ih0 _ _ _
   | exact ih1 _ _ _ _ _
   | exact spec_l15Op.mono _ _ _ _
   | exact spec_l1Rd_pick.mono _ _ _ _
   | exact LeO.none _
   | refine LeO.ite ?_ ?_
   | refine LeO.bind ?_ (fun _ => ?_)
  ·intro y0 y1 y2 y3 y4
   unfold spec_l15Prog.l0
   repeat' first
   | (with_reducible exact ih0 _ _ _)
   | (with_reducible exact ih1 _ _ _ _ _)
   | (with_reducible exact spec_l15Op.mono _ _ _ _)
   | (with_reducible exact spec_l1Rd_pick.mono _ _ _ _)
   | (with_reducible exact LeO.refl _)
   | (with_reducible exact LeO.none _)
   | (with_reducible refine LeO.ite ?_ ?_)
   | (with_reducible refine LeO.bind ?_ (fun _ => ?_))
   | exact ih0 _ _ _
   | exact ih1 _ _ _ _ _
   | exact spec_l15Op.mono _ _ _ _
   | exact spec_l1Rd_pick.mono _ _ _ _
   | exact LeO.none _
   | refine LeO.ite ?_ ?_
   | refine LeO.bind ?_ (fun _ => ?_)
theorem spec_l15Prog.mono : ∀ a0 a1 k, LeO (spec_l15Prog.f k a0 a1) (spec_l15Prog.f (k + 1) a0 a1) := by
 intro a0 a1 k
 obtain ⟨ih0, ih1⟩ := spec_l15Prog.mono_l k
 unfold spec_l15Prog.f
 repeat' first
   | (with_reducible exact ih0 _ _ _)
   | (with_reducible exact ih1 _ _ _ _ _)
   | (with_reducible exact spec_l15Op.mono _ _ _ _)
   | (with_reducible exact spec_l1Rd_pick.mono _ _ _ _)
   | (with_reducible exact LeO.refl _)
   | (with_reducible exact LeO.none _)
   | (with_reducible refine LeO.ite ?_ ?_)
   | (with_reducible refine LeO.bind ?_ (fun _ => ?_))
   | exact ih0 _ _ _
   | exact ih1 _ _ _ _ _
   | exact spec_l15Op.mono _ _ _ _
   | exact spec_l1Rd_pick.mono _ _ _ _
   | exact LeO.none _
   | refine LeO.ite ?_ ?_
   | refine LeO.bind ?_ (fun _ => ?_)
set_option maxHeartbeats 8000000 in
set_option maxRecDepth 100000 in
theorem spec_l15Prog.calls (k : Nat) (g : Nat) (s0_0 : List Int) (s0_1 : Int) (r1 : List (S107)) (r2 : Int) (w0 w : World) (hI : IsS86 w0 w g s0_0 s0_1) (hB : Below w0.heap.size w0 w) (h : spec_l15Prog.f k s0_0 s0_1 = some (r1, r2)) :
  Calls Tryd.prog 67 #[.pointer (some ⟨g, 0, none⟩)] w fun e w' => ∃ v0_ : Value, e = .returned (v0_) ∧ Kd.R k107 107 w' w.heap.size (fun _ => True) v0_ r1 ∧ IsS86 w0 w' g s0_0 r2 ∧ Below w0.heap.size w0 w' ∧ KeepBut w w' g none := by
 have HI0 := Aside0.mk hI
 have HK := m_ (KeepBut.refl w g none)
 have HL := Aside0.mk hB.size
 clear hI
 have HW0 := Aside0.mk hB.size
 have HB := Aside0.mk hB
 clear hB
 have H : ((spec_l1Rd_pick.f k s0_0 s0_1 8).bind fun bt172 => ((spec_l1Rd_pick.f k s0_0 bt172.2 10).bind fun bt174 => (if bt174.1 = 0 then (spec_l15Prog.j0 k 16 s0_0 bt174.2) else (spec_l15Prog.j0 k (wrap64 (1 + bt172.1)) s0_0 bt174.2)))) = some (r1, r2) := h
 clear h
 replace H := Option.bind_eq_some_iff.mp H
 obtain ⟨⟨t172, t173⟩, A20, H⟩ := H
 replace H : ((spec_l1Rd_pick.f k s0_0 t173 10).bind fun bt174 => (if bt174.1 = 0 then (spec_l15Prog.j0 k 16 s0_0 bt174.2) else (spec_l15Prog.j0 k (wrap64 (1 + t172)) s0_0 bt174.2))) = some (r1, r2) := H
 have A2 := Aside0.mk A20
 clear A20
 replace H := Option.bind_eq_some_iff.mp H
 obtain ⟨⟨t174, t175⟩, A30, H⟩ := H
 replace H : (if t174 = 0 then (spec_l15Prog.j0 k 16 s0_0 t175) else (spec_l15Prog.j0 k (wrap64 (1 + t172)) s0_0 t175)) = some (r1, r2) := H
 have A3 := Aside0.mk A30
 clear A30
 have HC4 := Aside0.mk H
 clear H
 go_enter Tryd.func67, Tryd.ntmps67
 go_upto_if 11 with (first | ((with_reducible refine gate_callee (f := 46) rfl ?_); refine goesL_ (some 7) rfl rfl Tryd.func46 (by kernel_rfl) rfl #[.pointer (some ⟨g, 0, none⟩), .int .i64 8] rfl gl_ ?_; (with_reducible refine (spec_l1Rd_pick.calls k g s0_0 s0_1 8 t172 t173 w0 _ ?side1 ?side2 A2.out).mono ?_); (case side1 => exact hI0 HI0.out); (case side2 => exact hB1 HB.out (IsS86.ge HI0.out)); rintro e w5 ⟨rfl, hi, hb, hk⟩; refine ⟨_, rfl, ?_⟩; have n0_ := m_ (KeepBut.trans (hK0 HK.out) hk (.inl rfl)); have n1_ := m_ (hb); have n2_ := m_ (hi); clear HK HB HI0; have HK := n0_; have HB := n1_; have HI0 := n2_; clear n0_ n1_ n2_; (try clear hb); (try clear hb2); (try clear hk); (try clear hi)) | ((with_reducible refine gate_callee (f := 46) rfl ?_); refine goesL_ (some 10) rfl rfl Tryd.func46 (by kernel_rfl) rfl #[.pointer (some ⟨g, 0, none⟩), .int .i64 10] rfl gl_ ?_; (with_reducible refine (spec_l1Rd_pick.calls k g s0_0 t173 10 t174 t175 w0 _ ?side1 ?side2 A3.out).mono ?_); (case side1 => exact hI0 HI0.out); (case side2 => exact hB1 HB.out (IsS86.ge HI0.out)); rintro e w6 ⟨rfl, hi, hb, hk⟩; refine ⟨_, rfl, ?_⟩; have n0_ := m_ (KeepBut.trans (hK0 HK.out) hk (.inl rfl)); have n1_ := m_ (hb); have n2_ := m_ (hi); clear HK HB HI0; have HK := n0_; have HB := n1_; have HI0 := n2_; clear n0_ n1_ n2_; (try clear hb); (try clear hb2); (try clear hk); (try clear hi)))
 (try simp only [Act.put, List.setIfInBounds_toArray, List.set_cons_zero, List.set_cons_succ])
 go_cut [3] (fun v3 wc => ∃ (kq : Nat) (x3_3 : Int), v3 = .int .i64 x3_3 ∧ Aside0 (spec_l15Prog.j0 kq x3_3 s0_0 t175 = some (r1, r2)) ∧ Aside0 (kq ≤ k) ∧ Aside0 (IsS86 w0 wc g s0_0 t175) ∧ Aside0 (KeepBut w wc g none) ∧ Aside0 (Below w0.heap.size w0 wc))
 case first =>
  have H := HC4.out
  clear HC4
  by_cases c7 : t174 = 0
  ·rw [if_pos c7] at H
   have c7b0 : (t174 == 0) = true := beq_iff_eq.mpr c7
   have c7b1 : (t174 != 0) = false := bne_eq_false_iff_eq.mpr c7
   clear c7
   (first | rw [c7b0] | (simp only [i64_w, i32_w]; rw [c7b0]) | skip)
   have H' := Aside0.mk H
   clear H
   go_wp2
   go_meet
   case rel => exact ⟨_, (16), (by first | rfl | (simp; done) | (simp [*]; done)), H', ⟨by first | omega | exact Nat.le_refl _⟩, ⟨(hI0 HI0.out)⟩, ⟨(hK0 HK.out)⟩, ⟨(hB1 HB.out (IsS86.ge HI0.out))⟩⟩
  ·rw [if_neg c7] at H
   have c7b0 : (t174 == 0) = false := beq_eq_false_iff_ne.mpr c7
   have c7b1 : (t174 != 0) = true := bne_iff_ne.mpr c7
   (first | rw [c7b0] | (simp only [i64_w, i32_w]; rw [c7b0]) | skip)
   have H' := Aside0.mk H
   clear H
   go_wp2
   go_meet
   case rel => exact ⟨_, (wrap64 (1 + t172)), (by first | rfl | (simp; done) | (simp [*]; done)), H', ⟨by first | omega | exact Nat.le_refl _⟩, ⟨(hI0 HI0.out)⟩, ⟨(hK0 HK.out)⟩, ⟨(hB1 HB.out (IsS86.ge HI0.out))⟩⟩
 case rest =>
  clear HC4
  try clear p2
  try clear c4
  try clear c6
  try clear p6
  try clear c7
  try clear c7b0
  try clear c7b1
  obtain ⟨kq, x3_3, rfl, HA, HJ3, HI0, HK, HB⟩ := hcut
  cases kq with
  | zero => exact absurd HA.out (by simp [spec_l15Prog.j0])
  | succ kj3 =>
   have H := HA.out
   clear HA
   simp only [spec_l15Prog.j0] at H
   obtain ⟨y176, hy176⟩ : ∃ y_ : List (S107), y_ = (([] : List (S107))) := ⟨_, rfl⟩
   replace H : (spec_l15Prog.l0 kj3 x3_3 y176 0 s0_0 t175) = some (r1, r2) := by first | (rw [hy176]; with_reducible exact H) | (have H2_ := (Option.bind_some _ _).symm.trans H; rw [hy176]; with_reducible exact H2_) | (have H2_ := (Option.bind_some _ _).symm.trans H; with_reducible exact H2_) | with_reducible exact H | (rw [hy176]; exact H) | exact H
   have Ny176 := Aside0.mk hy176
   clear hy176
   have H' := Aside0.mk H
   clear H
   go_wp2_with (first | ((with_reducible refine gate_dst (N := 12) rfl ?_); refine Kd.R_lit k107 _ 107 ?hg (N := 12) ?hd (xs := ([] : List (S107))) (inner := []) (ok := fun _ => True) (okp := fun _ => True) ?hr ?hp (fun _ hk => hk) trivial (Below.refl _ _) (Nat.le_refl _) (by simp) ?_; (case hd => rfl); (case hg => rfl); (case hr => first | (go_simp; done) | (go_simp; rfl)); (case hp => exact (Reps.none _ _)); intro v177 w8 ho9 hb hg_ hnew_; clear hg_ hnew_; (first | rw [← Ny176.out] at ho9 | (simp only [Int.reduceToNat] at ho9; rw [← Ny176.out] at ho9)); have n0_ := m_ (Kd.R_lower ho9 (keep_size (w := w) (g := g) (row := none) (hK0 HK.out))); have n1_ := m_ (IsS86.below ((hI0 HI0.out)) hb); have n2_ := m_ (KeepBut.trans (hK0 HK.out) (KeepBut.of_below hb g none) (.inl rfl)); have n3_ := m_ (below_step ((hB1 HB.out (IsS86.ge HI0.out))) hb); clear HI0 HK HB; have HO178 := n0_; have HI0 := n1_; have HK := n2_; have HB := n3_; clear n0_ n1_ n2_ n3_ hb ho9))
   go_loopg [4, 5] kj3 (fun kq v4 v5 w' => ∃ (x4_2 : List (S107)) (x5_2 : Int) (x1001_2 : Int), v5 = .int .i64 x5_2 ∧ Aside0 (spec_l15Prog.l0 kq x3_3 x4_2 x5_2 s0_0 x1001_2 = some (r1, r2)) ∧ Aside0 (kq ≤ kj3) ∧ Aside0 (Kd.R k107 107 w' w.heap.size (fun _ => True) v4 x4_2) ∧ Aside0 (IsS86 w0 w' g s0_0 x1001_2) ∧ Aside0 (KeepBut w w' g none) ∧ Aside0 (Below w0.heap.size w0 w'))
   case atStart => exact ⟨(y176), (0), (t175), (by first | rfl | (simp; done) | (simp [*]; done)), H', ⟨Nat.le_refl _⟩, ⟨rN HO178.out⟩, ⟨(hI0 HI0.out)⟩, ⟨(hK0 HK.out)⟩, ⟨(hB1 HB.out (IsS86.ge HI0.out))⟩⟩
   case round =>
    clear H'
    try clear p2
    try clear c4
    try clear c6
    try clear p6
    try clear c7
    try clear c7b0
    try clear c7b1
    try clear p2
    try clear p6
    obtain ⟨x4_2, x5_2, x1001_2, rfl, HA, HK2, HO_4, HI0, HK, HB⟩ := hrel
    cases gk with
    | zero => exact absurd HA.out (by simp [spec_l15Prog.l0])
    | succ k2 =>
     have H := HA.out
     clear HA
     simp only [spec_l15Prog.l0] at H
     by_cases c10 : x5_2 < x3_3
     ·rw [if_pos c10] at H
      have c10b0 : decide (x5_2 < x3_3) = true := decide_eq_true c10
      clear c10
      replace H := Option.bind_eq_some_iff.mp H
      obtain ⟨⟨t179, t180, t181, t182⟩, A110, H⟩ := H
      replace H : (if x4_2.length < 5864062014805 then (spec_l15Prog.l0 k2 x3_3 (x4_2 ++ [(⟨t179, t180, t181⟩ : S107)]) (wrap64 (x5_2 + 1)) s0_0 t182) else (none)) = some (r1, r2) := H
      have A11 := Aside0.mk A110
      clear A110
      by_cases c12 : x4_2.length < 5864062014805
      ·rw [if_pos c12] at H
       have LMc12 := Aside0.mk c12
       clear c12
       obtain ⟨y183, hy183⟩ : ∃ y_ : List (S107), y_ = (x4_2 ++ [(⟨t179, t180, t181⟩ : S107)]) := ⟨_, rfl⟩
       replace H : (spec_l15Prog.l0 k2 x3_3 y183 (wrap64 (x5_2 + 1)) s0_0 t182) = some (r1, r2) := by first | (rw [hy183]; with_reducible exact H) | (have H2_ := (Option.bind_some _ _).symm.trans H; rw [hy183]; with_reducible exact H2_) | (have H2_ := (Option.bind_some _ _).symm.trans H; with_reducible exact H2_) | with_reducible exact H | (rw [hy183]; exact H) | exact H
       have Ny183 := Aside0.mk hy183
       clear hy183
       have H' := Aside0.mk H
       clear H
       go_wp2_with (first | ((with_reducible refine gate_callee (f := 75) rfl ?_); refine goesL_ (some 21) rfl rfl Tryd.func75 (by kernel_rfl) rfl #[.pointer (some ⟨g, 0, none⟩), .int .i64 x3_3] rfl gl_ ?_; (with_reducible refine (spec_l15Op.calls k2 g s0_0 x1001_2 x3_3 t179 t180 t181 t182 w0 _ ?side1 ?side2 A11.out).mono ?_); (case side1 => exact hI0 HI0.out); (case side2 => exact hB1 HB.out (IsS86.ge HI0.out)); rintro e w13 ⟨rfl, hi, hb, hk⟩; refine ⟨_, rfl, ?_⟩; have n0_ := m_ (rK (show IsS86 w0 _ g s0_0 x1001_2 from (hI0 HI0.out)) (rN HO_4.out) hk); have n1_ := m_ (KeepBut.trans (hK0 HK.out) hk (.inl rfl)); have n2_ := m_ (hb); have n3_ := m_ (hi); clear HO_4 HK HB HI0; have HO_4 := n0_; have HK := n1_; have HB := n2_; have HI0 := n3_; clear n0_ n1_ n2_ n3_; (try clear hb); (try clear hb2); (try clear hk); (try clear hi)) | ((with_reducible refine gate_builtin (b := .append) (xs := #[.tmp 18, .tmp 22]) rfl ?_); at_builtin; refine Kd.R_append k107 w.heap.size rfl (.tmp 18) (.tmp 22) 75 107 (.agg #[(.int .i64 0), (.int .i64 0), (.int .i64 0)]) 24 rfl Tryd.underlying75 info107 rfl (by decide) (by omega) u4 x4_2 (⟨t179, t180, t181⟩ : S107) [.int .i64 t179, .int .i64 t180, .int .i64 t181] (fun _ => True) (fun _ => False) rfl rfl ?aP (fun _ hk => hk.elim) ?aF ?aO (Below.refl _ _) ?aS ?aL ?_; (case aP => exact k107_mkM _ _ _ (⟨t179, t180, t181⟩ : S107)); (case aF => exact (fun _ _ => trivial)); (case aO => exact (rN HO_4.out)); (case aS => exact (keep_size (w := w) (g := g) (row := none) (hK0 HK.out))); (case aL => have := LMc12.out; omega); intro v184 w14 ho hb hg hat; rw [← Ny183.out] at ho; have n0_ := m_ (IsS86.grown ((hI0 HI0.out)) hg (IsS86.own_ne HI0.out HO_4.out (by decide))); have n1_ := m_ (below_weaken ((hB1 HB.out (IsS86.ge HI0.out))) HL.out hb); have n2_ := m_ (KeepBut.trans (hK0 HK.out) (KeepBut.of_grown hg g) (Kd.R_base2 HO_4.out)); have n3_ := m_ (ho); clear HI0 HB HK HO_4; have HI0 := n0_; have HB := n1_; have HK := n2_; have HO185 := n3_; clear n0_ n1_ n2_ n3_ ho hb hg hat))
       go_roundg k2
       case measure => have := HJ3.out; have := HK2.out; omega
       case rel => exact ⟨(y183), (wrap64 (x5_2 + 1)), (t182), (by first | rfl | (simp; done) | (simp [*]; done)), H', ⟨by have := HJ3.out; have := HK2.out; omega⟩, ⟨rN HO185.out⟩, ⟨(hI0 HI0.out)⟩, ⟨(hK0 HK.out)⟩, ⟨(hB1 HB.out (IsS86.ge HI0.out))⟩⟩
      ·rw [if_neg c12] at H
       exact absurd H (by simp)
     ·rw [if_neg c10] at H
      have c10b0 : decide (x5_2 < x3_3) = false := decide_eq_false c10
      clear c10
      simp only [Option.some.injEq, Prod.mk.injEq] at H
      obtain ⟨rfl, rfl⟩ := H
      go_wp2
      go_ret
      exact ⟨_, rf_, rN HO_4.out, (hI0 HI0.out), (hB1 HB.out (IsS86.ge HI0.out)), (hK0 HK.out)⟩

/-! ### spec_l15Rule: function 68 -/
def spec_l15Rule.f (k : Nat) (s0_0 : List Int) (s0_1 : Int) : Option (Int × Int × Int × Int × Bool × Bool × Int) := (spec_l1Rd_one.f k s0_0 s0_1 (([1, 2] : List Int))).bind fun bt190 => ((spec_l1Rd_one.f k s0_0 bt190.2 (([0, 1, 7] : List Int))).bind fun bt195 => ((spec_l1Rd_one.f k s0_0 bt195.2 (([8, 11, 17] : List Int))).bind fun bt200 => ((spec_l1Rd_pick.f k s0_0 bt200.2 5).bind fun bt202 => ((spec_l1Rd_pick.f k s0_0 bt202.2 3).bind fun bt204 => ((spec_l1Rd_pick.f k s0_0 bt204.2 3).bind fun bt206 => (some (bt190.1, bt195.1, bt200.1, wrap64 (1 + bt202.1), decide (bt204.1 > 0), (bt206.1 == 0), bt206.2)))))))
theorem spec_l15Rule.mono : ∀ a0 a1 k, LeO (spec_l15Rule.f k a0 a1) (spec_l15Rule.f (k + 1) a0 a1) := by
 intro a0 a1 k
 unfold spec_l15Rule.f
 repeat' first
   | (with_reducible exact spec_l1Rd_one.mono _ _ _ _)
   | (with_reducible exact spec_l1Rd_pick.mono _ _ _ _)
   | (with_reducible exact LeO.refl _)
   | (with_reducible exact LeO.none _)
   | (with_reducible refine LeO.ite ?_ ?_)
   | (with_reducible refine LeO.bind ?_ (fun _ => ?_))
   | exact spec_l1Rd_one.mono _ _ _ _
   | exact spec_l1Rd_pick.mono _ _ _ _
   | exact LeO.none _
   | refine LeO.ite ?_ ?_
   | refine LeO.bind ?_ (fun _ => ?_)
set_option maxHeartbeats 8000000 in
set_option maxRecDepth 100000 in
theorem spec_l15Rule.calls (k : Nat) (g : Nat) (s0_0 : List Int) (s0_1 : Int) (r1 : Int) (r2 : Int) (r3 : Int) (r4 : Int) (r5 : Bool) (r6 : Bool) (r7 : Int) (w0 w : World) (hI : IsS86 w0 w g s0_0 s0_1) (hB : Below w0.heap.size w0 w) (h : spec_l15Rule.f k s0_0 s0_1 = some (r1, r2, r3, r4, r5, r6, r7)) :
  Calls Tryd.prog 68 #[.pointer (some ⟨g, 0, none⟩)] w fun e w' => e = .returned (.agg #[.int .i64 r1, .int .i64 r2, .int .i64 r3, .int .i64 r4, .bool r5, .bool r6]) ∧ IsS86 w0 w' g s0_0 r7 ∧ Below w0.heap.size w0 w' ∧ KeepBut w w' g none := by
 have hu78 := Tryd.underlying78
 have HI0 := Aside0.mk hI
 have HK := m_ (KeepBut.refl w g none)
 have HL := Aside0.mk hB.size
 clear hI
 have HW0 := Aside0.mk hB.size
 have HB := Aside0.mk hB
 clear hB
 have H : ((spec_l1Rd_one.f k s0_0 s0_1 (([1, 2] : List Int))).bind fun bt190 => ((spec_l1Rd_one.f k s0_0 bt190.2 (([0, 1, 7] : List Int))).bind fun bt195 => ((spec_l1Rd_one.f k s0_0 bt195.2 (([8, 11, 17] : List Int))).bind fun bt200 => ((spec_l1Rd_pick.f k s0_0 bt200.2 5).bind fun bt202 => ((spec_l1Rd_pick.f k s0_0 bt202.2 3).bind fun bt204 => ((spec_l1Rd_pick.f k s0_0 bt204.2 3).bind fun bt206 => (some (bt190.1, bt195.1, bt200.1, wrap64 (1 + bt202.1), decide (bt204.1 > 0), (bt206.1 == 0), bt206.2)))))))) = some (r1, r2, r3, r4, r5, r6, r7) := h
 clear h
 obtain ⟨y187, hy187⟩ : ∃ y_ : List Int, y_ = (([1, 2] : List Int)) := ⟨_, rfl⟩
 replace H : ((spec_l1Rd_one.f k s0_0 s0_1 y187).bind fun bt190 => ((spec_l1Rd_one.f k s0_0 bt190.2 (([0, 1, 7] : List Int))).bind fun bt195 => ((spec_l1Rd_one.f k s0_0 bt195.2 (([8, 11, 17] : List Int))).bind fun bt200 => ((spec_l1Rd_pick.f k s0_0 bt200.2 5).bind fun bt202 => ((spec_l1Rd_pick.f k s0_0 bt202.2 3).bind fun bt204 => ((spec_l1Rd_pick.f k s0_0 bt204.2 3).bind fun bt206 => (some (bt190.1, bt195.1, bt200.1, wrap64 (1 + bt202.1), decide (bt204.1 > 0), (bt206.1 == 0), bt206.2)))))))) = some (r1, r2, r3, r4, r5, r6, r7) := by first | (rw [hy187]; with_reducible exact H) | (have H2_ := (Option.bind_some _ _).symm.trans H; rw [hy187]; with_reducible exact H2_) | (have H2_ := (Option.bind_some _ _).symm.trans H; with_reducible exact H2_) | with_reducible exact H | (rw [hy187]; exact H) | exact H
 have Ny187 := Aside0.mk hy187
 clear hy187
 replace H := Option.bind_eq_some_iff.mp H
 obtain ⟨⟨t190, t191⟩, A20, H⟩ := H
 replace H : ((spec_l1Rd_one.f k s0_0 t191 (([0, 1, 7] : List Int))).bind fun bt195 => ((spec_l1Rd_one.f k s0_0 bt195.2 (([8, 11, 17] : List Int))).bind fun bt200 => ((spec_l1Rd_pick.f k s0_0 bt200.2 5).bind fun bt202 => ((spec_l1Rd_pick.f k s0_0 bt202.2 3).bind fun bt204 => ((spec_l1Rd_pick.f k s0_0 bt204.2 3).bind fun bt206 => (some (t190, bt195.1, bt200.1, wrap64 (1 + bt202.1), decide (bt204.1 > 0), (bt206.1 == 0), bt206.2))))))) = some (r1, r2, r3, r4, r5, r6, r7) := H
 have A2 := Aside0.mk A20
 clear A20
 obtain ⟨y192, hy192⟩ : ∃ y_ : List Int, y_ = (([0, 1, 7] : List Int)) := ⟨_, rfl⟩
 replace H : ((spec_l1Rd_one.f k s0_0 t191 y192).bind fun bt195 => ((spec_l1Rd_one.f k s0_0 bt195.2 (([8, 11, 17] : List Int))).bind fun bt200 => ((spec_l1Rd_pick.f k s0_0 bt200.2 5).bind fun bt202 => ((spec_l1Rd_pick.f k s0_0 bt202.2 3).bind fun bt204 => ((spec_l1Rd_pick.f k s0_0 bt204.2 3).bind fun bt206 => (some (t190, bt195.1, bt200.1, wrap64 (1 + bt202.1), decide (bt204.1 > 0), (bt206.1 == 0), bt206.2))))))) = some (r1, r2, r3, r4, r5, r6, r7) := by first | (rw [hy192]; with_reducible exact H) | (have H2_ := (Option.bind_some _ _).symm.trans H; rw [hy192]; with_reducible exact H2_) | (have H2_ := (Option.bind_some _ _).symm.trans H; with_reducible exact H2_) | with_reducible exact H | (rw [hy192]; exact H) | exact H
 have Ny192 := Aside0.mk hy192
 clear hy192
 replace H := Option.bind_eq_some_iff.mp H
 obtain ⟨⟨t195, t196⟩, A30, H⟩ := H
 replace H : ((spec_l1Rd_one.f k s0_0 t196 (([8, 11, 17] : List Int))).bind fun bt200 => ((spec_l1Rd_pick.f k s0_0 bt200.2 5).bind fun bt202 => ((spec_l1Rd_pick.f k s0_0 bt202.2 3).bind fun bt204 => ((spec_l1Rd_pick.f k s0_0 bt204.2 3).bind fun bt206 => (some (t190, t195, bt200.1, wrap64 (1 + bt202.1), decide (bt204.1 > 0), (bt206.1 == 0), bt206.2)))))) = some (r1, r2, r3, r4, r5, r6, r7) := H
 have A3 := Aside0.mk A30
 clear A30
 obtain ⟨y197, hy197⟩ : ∃ y_ : List Int, y_ = (([8, 11, 17] : List Int)) := ⟨_, rfl⟩
 replace H : ((spec_l1Rd_one.f k s0_0 t196 y197).bind fun bt200 => ((spec_l1Rd_pick.f k s0_0 bt200.2 5).bind fun bt202 => ((spec_l1Rd_pick.f k s0_0 bt202.2 3).bind fun bt204 => ((spec_l1Rd_pick.f k s0_0 bt204.2 3).bind fun bt206 => (some (t190, t195, bt200.1, wrap64 (1 + bt202.1), decide (bt204.1 > 0), (bt206.1 == 0), bt206.2)))))) = some (r1, r2, r3, r4, r5, r6, r7) := by first | (rw [hy197]; with_reducible exact H) | (have H2_ := (Option.bind_some _ _).symm.trans H; rw [hy197]; with_reducible exact H2_) | (have H2_ := (Option.bind_some _ _).symm.trans H; with_reducible exact H2_) | with_reducible exact H | (rw [hy197]; exact H) | exact H
 have Ny197 := Aside0.mk hy197
 clear hy197
 replace H := Option.bind_eq_some_iff.mp H
 obtain ⟨⟨t200, t201⟩, A40, H⟩ := H
 replace H : ((spec_l1Rd_pick.f k s0_0 t201 5).bind fun bt202 => ((spec_l1Rd_pick.f k s0_0 bt202.2 3).bind fun bt204 => ((spec_l1Rd_pick.f k s0_0 bt204.2 3).bind fun bt206 => (some (t190, t195, t200, wrap64 (1 + bt202.1), decide (bt204.1 > 0), (bt206.1 == 0), bt206.2))))) = some (r1, r2, r3, r4, r5, r6, r7) := H
 have A4 := Aside0.mk A40
 clear A40
 replace H := Option.bind_eq_some_iff.mp H
 obtain ⟨⟨t202, t203⟩, A50, H⟩ := H
 replace H : ((spec_l1Rd_pick.f k s0_0 t203 3).bind fun bt204 => ((spec_l1Rd_pick.f k s0_0 bt204.2 3).bind fun bt206 => (some (t190, t195, t200, wrap64 (1 + t202), decide (bt204.1 > 0), (bt206.1 == 0), bt206.2)))) = some (r1, r2, r3, r4, r5, r6, r7) := H
 have A5 := Aside0.mk A50
 clear A50
 replace H := Option.bind_eq_some_iff.mp H
 obtain ⟨⟨t204, t205⟩, A60, H⟩ := H
 replace H : ((spec_l1Rd_pick.f k s0_0 t205 3).bind fun bt206 => (some (t190, t195, t200, wrap64 (1 + t202), decide (t204 > 0), (bt206.1 == 0), bt206.2))) = some (r1, r2, r3, r4, r5, r6, r7) := H
 have A6 := Aside0.mk A60
 clear A60
 replace H := Option.bind_eq_some_iff.mp H
 obtain ⟨⟨t206, t207⟩, A70, H⟩ := H
 replace H : (some (t190, t195, t200, wrap64 (1 + t202), decide (t204 > 0), (t206 == 0), t207)) = some (r1, r2, r3, r4, r5, r6, r7) := H
 have A7 := Aside0.mk A70
 clear A70
 simp only [Option.some.injEq, Prod.mk.injEq] at H
 obtain ⟨rfl, rfl, rfl, rfl, rfl, rfl, rfl⟩ := H
 go_enter Tryd.func68, Tryd.ntmps68
 go_wp2_with (first | ((with_reducible refine gate_dst (N := 2) rfl ?_); refine box_event ?hg (N := 2) ?hd (cs := #[.int .i64 0, .int .i64 0, .int .i64 0, .int .i64 0, .bool false, .bool false]) (t := 78) ?hr ?_; (case hd => rfl); (case hg => rfl); (case hr => first | (go_simp; done) | (go_simp; rfl)); intro gb186 hg w8 hbox hb; have n0_ := m_ (IsS86.below ((hI0 HI0.out)) hb); have n1_ := m_ (KeepBut.trans (hK0 HK.out) (KeepBut.of_below hb g none) (.inl rfl)); have n2_ := m_ (below_step ((hB1 HB.out (IsS86.ge HI0.out))) hb); have n3_ := m_ (hbox); have n4_ := m_ ((by rw [hg]; exact (keep_size (w := w) (g := g) (row := none) (hK0 HK.out)) : w.heap.size ≤ gb186)); have n5_ := m_ ((Nat.le_trans HW0.out (by rw [hg]; exact (keep_size (w := w) (g := g) (row := none) (hK0 HK.out)) : w.heap.size ≤ gb186) : w0.heap.size ≤ gb186)); have n6_ := m_ ((by rw [hg]; exact Nat.ne_of_lt (IsS86.lt (show IsS86 w0 _ g s0_0 s0_1 from (hI0 HI0.out))) : g ≠ gb186)); have n7_ := m_ ((by rw [hg]; exact Nat.ne_of_gt (IsS86.lt (show IsS86 w0 _ g s0_0 s0_1 from (hI0 HI0.out))) : gb186 ≠ g)); clear HI0 HK HB; have HI0 := n0_; have HK := n1_; have HB := n2_; have BK186 := n3_; have GW186 := n4_; have GE186 := n5_; have NB0_186 := n6_; have NB186_0 := n7_; clear n0_ n1_ n2_ n3_ n4_ n5_ n6_ n7_ hb hbox hg) | ((with_reducible refine gate_dst (N := 4) rfl ?_); refine Kd.R_lit (Kd.int .i64) _ 3 ?hg (N := 4) ?hd (xs := ([1, 2] : List Int)) (inner := [.int .i64 1, .int .i64 2]) (ok := fun _ => True) (okp := fun _ => True) ?hr ?hp (fun _ hk => hk) trivial (Below.refl _ _) (Nat.le_refl _) (by simp) ?_; (case hd => rfl); (case hg => rfl); (case hr => first | (go_simp; done) | (go_simp; rfl)); (case hp => exact (Reps.one (show Kd.M (Kd.int .i64) _ _ _ 1 [.int .i64 1] from rfl) (Reps.one (show Kd.M (Kd.int .i64) _ _ _ 2 [.int .i64 2] from rfl) (Reps.none _ _)))); intro v188 w9 ho10 hb hg_ hnew_; clear hg_ hnew_; (first | rw [← Ny187.out] at ho10 | (simp only [Int.reduceToNat] at ho10; rw [← Ny187.out] at ho10)); have n0_ := m_ (Kd.R_lower ho10 (keep_size (w := w) (g := g) (row := none) (hK1 HK.out GW186.out))); have n1_ := m_ (IsS86.below ((hI1 HI0.out NB0_186.out)) hb); have n2_ := m_ (blk_below (kN BK186.out) hb); have n3_ := m_ (KeepBut.trans (hK1 HK.out GW186.out) (KeepBut.of_below hb g none) (.inl rfl)); have n4_ := m_ (below_step ((hB2 HB.out (IsS86.ge HI0.out) GE186.out)) hb); clear HI0 BK186 HK HB; have HO189 := n0_; have HI0 := n1_; have BK186 := n2_; have HK := n3_; have HB := n4_; clear n0_ n1_ n2_ n3_ n4_ hb ho10; obtain ⟨Ao11, co11, eo11⟩ := Kd.R_slice HO189.out; subst eo11) | ((with_reducible refine gate_callee (f := 43) rfl ?_); refine goesL_ (some 5) rfl rfl Tryd.func43 (by kernel_rfl) rfl #[.pointer (some ⟨g, 0, none⟩), .slice Ao11 y187.length co11] rfl gl_ ?_; (with_reducible refine (spec_l1Rd_one.calls k g s0_0 s0_1 _ _ y187 t190 t191 w0 _ ?side1 ?side2 ?side3 ?side4 ?side5 A2.out).mono ?_); (case side1 => exact hI1 HI0.out NB0_186.out); (case side2 => exact hB2 HB.out (IsS86.ge HI0.out) GE186.out); (case side3 => exact cN (Kd.R_reads' HO189.out).2.2); (case side4 => exact (Kd.R_reads' HO189.out).2.1); (case side5 => exact far_slice (IsS86.own_ne HI0.out HO189.out (by decide))); rintro e w12 ⟨rfl, hi, hb, hk⟩; refine ⟨_, rfl, ?_⟩; have n0_ := m_ (KeepBut.blk hk (g' := gb186) (o := .cells #[.int .i64 0, .int .i64 0, .int .i64 0, .int .i64 0, .bool false, .bool false] 78 (0, 0)) (kN BK186.out) NB186_0.out (by simp)); have n1_ := m_ (rK (show IsS86 w0 _ g s0_0 s0_1 from (hI1 HI0.out NB0_186.out)) (rN HO189.out) hk); have n2_ := m_ (KeepBut.trans (hK1 HK.out GW186.out) hk (.inl rfl)); have n3_ := m_ (hb); have n4_ := m_ (hi); clear BK186 HO189 HK HB HI0; have BK186 := n0_; have HO189 := n1_; have HK := n2_; have HB := n3_; have HI0 := n4_; clear n0_ n1_ n2_ n3_ n4_; (try clear hb); (try clear hb2); (try clear hk); (try clear hi)) | ((with_reducible refine gate_dst (N := 7) rfl ?_); refine Kd.R_lit (Kd.int .i64) _ 3 ?hg (N := 7) ?hd (xs := ([0, 1, 7] : List Int)) (inner := [.int .i64 0, .int .i64 1, .int .i64 7]) (ok := fun _ => True) (okp := fun _ => True) ?hr ?hp (fun _ hk => hk) trivial (Below.refl _ _) (Nat.le_refl _) (by simp) ?_; (case hd => rfl); (case hg => rfl); (case hr => first | (go_simp; done) | (go_simp; rfl)); (case hp => exact (Reps.one (show Kd.M (Kd.int .i64) _ _ _ 0 [.int .i64 0] from rfl) (Reps.one (show Kd.M (Kd.int .i64) _ _ _ 1 [.int .i64 1] from rfl) (Reps.one (show Kd.M (Kd.int .i64) _ _ _ 7 [.int .i64 7] from rfl) (Reps.none _ _))))); intro v193 w13 ho14 hb hg_ hnew_; clear hg_ hnew_; (first | rw [← Ny192.out] at ho14 | (simp only [Int.reduceToNat] at ho14; rw [← Ny192.out] at ho14)); have n0_ := m_ (Kd.R_elder' (rN HO189.out) (Kd.R_base ho14) hb); have n1_ := m_ (Kd.R_lower (Kd.R_new' ho14 (Kd.R_lt (rN HO189.out))) (keep_size (w := w) (g := g) (row := none) (hK1 HK.out GW186.out))); have n2_ := m_ (IsS86.below ((hI1 HI0.out NB0_186.out)) hb); have n3_ := m_ (blk_below (kN BK186.out) hb); have n4_ := m_ (KeepBut.trans (hK1 HK.out GW186.out) (KeepBut.of_below hb g none) (.inl rfl)); have n5_ := m_ (below_step ((hB2 HB.out (IsS86.ge HI0.out) GE186.out)) hb); clear HO189 HI0 BK186 HK HB; have HO189 := n0_; have HO194 := n1_; have HI0 := n2_; have BK186 := n3_; have HK := n4_; have HB := n5_; clear n0_ n1_ n2_ n3_ n4_ n5_ hb ho14; obtain ⟨Ao15, co15, eo15⟩ := Kd.R_slice HO194.out; subst eo15) | ((with_reducible refine gate_callee (f := 43) rfl ?_); refine goesL_ (some 8) rfl rfl Tryd.func43 (by kernel_rfl) rfl #[.pointer (some ⟨g, 0, none⟩), .slice Ao15 y192.length co15] rfl gl_ ?_; (with_reducible refine (spec_l1Rd_one.calls k g s0_0 t191 _ _ y192 t195 t196 w0 _ ?side1 ?side2 ?side3 ?side4 ?side5 A3.out).mono ?_); (case side1 => exact hI1 HI0.out NB0_186.out); (case side2 => exact hB2 HB.out (IsS86.ge HI0.out) GE186.out); (case side3 => exact cN (Kd.R_reads' HO194.out).2.2); (case side4 => exact (Kd.R_reads' HO194.out).2.1); (case side5 => exact far_slice (IsS86.own_ne HI0.out HO194.out (by decide))); rintro e w16 ⟨rfl, hi, hb, hk⟩; refine ⟨_, rfl, ?_⟩; have n0_ := m_ (KeepBut.blk hk (g' := gb186) (o := .cells #[.int .i64 0, .int .i64 0, .int .i64 0, .int .i64 0, .bool false, .bool false] 78 (0, 0)) (kN BK186.out) NB186_0.out (by simp)); have n1_ := m_ (rK (show IsS86 w0 _ g s0_0 t191 from (hI1 HI0.out NB0_186.out)) (rN HO189.out) hk); have n2_ := m_ (rK (show IsS86 w0 _ g s0_0 t191 from (hI1 HI0.out NB0_186.out)) (rN HO194.out) hk); have n3_ := m_ (KeepBut.trans (hK1 HK.out GW186.out) hk (.inl rfl)); have n4_ := m_ (hb); have n5_ := m_ (hi); clear BK186 HO189 HO194 HK HB HI0; have BK186 := n0_; have HO189 := n1_; have HO194 := n2_; have HK := n3_; have HB := n4_; have HI0 := n5_; clear n0_ n1_ n2_ n3_ n4_ n5_; (try clear hb); (try clear hb2); (try clear hk); (try clear hi)) | ((with_reducible refine gate_dst (N := 10) rfl ?_); refine Kd.R_lit (Kd.int .i64) _ 3 ?hg (N := 10) ?hd (xs := ([8, 11, 17] : List Int)) (inner := [.int .i64 8, .int .i64 11, .int .i64 17]) (ok := fun _ => True) (okp := fun _ => True) ?hr ?hp (fun _ hk => hk) trivial (Below.refl _ _) (Nat.le_refl _) (by simp) ?_; (case hd => rfl); (case hg => rfl); (case hr => first | (go_simp; done) | (go_simp; rfl)); (case hp => exact (Reps.one (show Kd.M (Kd.int .i64) _ _ _ 8 [.int .i64 8] from rfl) (Reps.one (show Kd.M (Kd.int .i64) _ _ _ 11 [.int .i64 11] from rfl) (Reps.one (show Kd.M (Kd.int .i64) _ _ _ 17 [.int .i64 17] from rfl) (Reps.none _ _))))); intro v198 w17 ho18 hb hg_ hnew_; clear hg_ hnew_; (first | rw [← Ny197.out] at ho18 | (simp only [Int.reduceToNat] at ho18; rw [← Ny197.out] at ho18)); have n0_ := m_ (Kd.R_elder' (rN HO189.out) (Kd.R_base ho18) hb); have n1_ := m_ (Kd.R_elder' (rN HO194.out) (Kd.R_base ho18) hb); have n2_ := m_ (Kd.R_lower (Kd.R_new' (Kd.R_new' ho18 (Kd.R_lt (rN HO189.out))) (Kd.R_lt (rN HO194.out))) (keep_size (w := w) (g := g) (row := none) (hK1 HK.out GW186.out))); have n3_ := m_ (IsS86.below ((hI1 HI0.out NB0_186.out)) hb); have n4_ := m_ (blk_below (kN BK186.out) hb); have n5_ := m_ (KeepBut.trans (hK1 HK.out GW186.out) (KeepBut.of_below hb g none) (.inl rfl)); have n6_ := m_ (below_step ((hB2 HB.out (IsS86.ge HI0.out) GE186.out)) hb); clear HO189 HO194 HI0 BK186 HK HB; have HO189 := n0_; have HO194 := n1_; have HO199 := n2_; have HI0 := n3_; have BK186 := n4_; have HK := n5_; have HB := n6_; clear n0_ n1_ n2_ n3_ n4_ n5_ n6_ hb ho18; obtain ⟨Ao19, co19, eo19⟩ := Kd.R_slice HO199.out; subst eo19) | ((with_reducible refine gate_callee (f := 43) rfl ?_); refine goesL_ (some 11) rfl rfl Tryd.func43 (by kernel_rfl) rfl #[.pointer (some ⟨g, 0, none⟩), .slice Ao19 y197.length co19] rfl gl_ ?_; (with_reducible refine (spec_l1Rd_one.calls k g s0_0 t196 _ _ y197 t200 t201 w0 _ ?side1 ?side2 ?side3 ?side4 ?side5 A4.out).mono ?_); (case side1 => exact hI1 HI0.out NB0_186.out); (case side2 => exact hB2 HB.out (IsS86.ge HI0.out) GE186.out); (case side3 => exact cN (Kd.R_reads' HO199.out).2.2); (case side4 => exact (Kd.R_reads' HO199.out).2.1); (case side5 => exact far_slice (IsS86.own_ne HI0.out HO199.out (by decide))); rintro e w20 ⟨rfl, hi, hb, hk⟩; refine ⟨_, rfl, ?_⟩; have n0_ := m_ (KeepBut.blk hk (g' := gb186) (o := .cells #[.int .i64 0, .int .i64 0, .int .i64 0, .int .i64 0, .bool false, .bool false] 78 (0, 0)) (kN BK186.out) NB186_0.out (by simp)); have n1_ := m_ (rK (show IsS86 w0 _ g s0_0 t196 from (hI1 HI0.out NB0_186.out)) (rN HO189.out) hk); have n2_ := m_ (rK (show IsS86 w0 _ g s0_0 t196 from (hI1 HI0.out NB0_186.out)) (rN HO194.out) hk); have n3_ := m_ (rK (show IsS86 w0 _ g s0_0 t196 from (hI1 HI0.out NB0_186.out)) (rN HO199.out) hk); have n4_ := m_ (KeepBut.trans (hK1 HK.out GW186.out) hk (.inl rfl)); have n5_ := m_ (hb); have n6_ := m_ (hi); clear BK186 HO189 HO194 HO199 HK HB HI0; have BK186 := n0_; have HO189 := n1_; have HO194 := n2_; have HO199 := n3_; have HK := n4_; have HB := n5_; have HI0 := n6_; clear n0_ n1_ n2_ n3_ n4_ n5_ n6_; (try clear hb); (try clear hb2); (try clear hk); (try clear hi)) | ((with_reducible refine gate_callee (f := 46) rfl ?_); refine goesL_ (some 13) rfl rfl Tryd.func46 (by kernel_rfl) rfl #[.pointer (some ⟨g, 0, none⟩), .int .i64 5] rfl gl_ ?_; (with_reducible refine (spec_l1Rd_pick.calls k g s0_0 t201 5 t202 t203 w0 _ ?side1 ?side2 A5.out).mono ?_); (case side1 => exact hI1 HI0.out NB0_186.out); (case side2 => exact hB2 HB.out (IsS86.ge HI0.out) GE186.out); rintro e w21 ⟨rfl, hi, hb, hk⟩; refine ⟨_, rfl, ?_⟩; have n0_ := m_ (KeepBut.blk hk (g' := gb186) (o := .cells #[.int .i64 0, .int .i64 0, .int .i64 0, .int .i64 0, .bool false, .bool false] 78 (0, 0)) (kN BK186.out) NB186_0.out (by simp)); have n1_ := m_ (rK (show IsS86 w0 _ g s0_0 t201 from (hI1 HI0.out NB0_186.out)) (rN HO189.out) hk); have n2_ := m_ (rK (show IsS86 w0 _ g s0_0 t201 from (hI1 HI0.out NB0_186.out)) (rN HO194.out) hk); have n3_ := m_ (rK (show IsS86 w0 _ g s0_0 t201 from (hI1 HI0.out NB0_186.out)) (rN HO199.out) hk); have n4_ := m_ (KeepBut.trans (hK1 HK.out GW186.out) hk (.inl rfl)); have n5_ := m_ (hb); have n6_ := m_ (hi); clear BK186 HO189 HO194 HO199 HK HB HI0; have BK186 := n0_; have HO189 := n1_; have HO194 := n2_; have HO199 := n3_; have HK := n4_; have HB := n5_; have HI0 := n6_; clear n0_ n1_ n2_ n3_ n4_ n5_ n6_; (try clear hb); (try clear hb2); (try clear hk); (try clear hi)) | ((with_reducible refine gate_callee (f := 46) rfl ?_); refine goesL_ (some 16) rfl rfl Tryd.func46 (by kernel_rfl) rfl #[.pointer (some ⟨g, 0, none⟩), .int .i64 3] rfl gl_ ?_; (with_reducible refine (spec_l1Rd_pick.calls k g s0_0 t203 3 t204 t205 w0 _ ?side1 ?side2 A6.out).mono ?_); (case side1 => exact hI1 HI0.out NB0_186.out); (case side2 => exact hB2 HB.out (IsS86.ge HI0.out) GE186.out); rintro e w22 ⟨rfl, hi, hb, hk⟩; refine ⟨_, rfl, ?_⟩; have n0_ := m_ (KeepBut.blk hk (g' := gb186) (o := .cells #[.int .i64 0, .int .i64 0, .int .i64 0, .int .i64 0, .bool false, .bool false] 78 (0, 0)) (kN BK186.out) NB186_0.out (by simp)); have n1_ := m_ (rK (show IsS86 w0 _ g s0_0 t203 from (hI1 HI0.out NB0_186.out)) (rN HO189.out) hk); have n2_ := m_ (rK (show IsS86 w0 _ g s0_0 t203 from (hI1 HI0.out NB0_186.out)) (rN HO194.out) hk); have n3_ := m_ (rK (show IsS86 w0 _ g s0_0 t203 from (hI1 HI0.out NB0_186.out)) (rN HO199.out) hk); have n4_ := m_ (KeepBut.trans (hK1 HK.out GW186.out) hk (.inl rfl)); have n5_ := m_ (hb); have n6_ := m_ (hi); clear BK186 HO189 HO194 HO199 HK HB HI0; have BK186 := n0_; have HO189 := n1_; have HO194 := n2_; have HO199 := n3_; have HK := n4_; have HB := n5_; have HI0 := n6_; clear n0_ n1_ n2_ n3_ n4_ n5_ n6_; (try clear hb); (try clear hb2); (try clear hk); (try clear hi)) | ((with_reducible refine gate_callee (f := 46) rfl ?_); refine goesL_ (some 19) rfl rfl Tryd.func46 (by kernel_rfl) rfl #[.pointer (some ⟨g, 0, none⟩), .int .i64 3] rfl gl_ ?_; (with_reducible refine (spec_l1Rd_pick.calls k g s0_0 t205 3 t206 t207 w0 _ ?side1 ?side2 A7.out).mono ?_); (case side1 => exact hI1 HI0.out NB0_186.out); (case side2 => exact hB2 HB.out (IsS86.ge HI0.out) GE186.out); rintro e w23 ⟨rfl, hi, hb, hk⟩; refine ⟨_, rfl, ?_⟩; have n0_ := m_ (KeepBut.blk hk (g' := gb186) (o := .cells #[.int .i64 0, .int .i64 0, .int .i64 0, .int .i64 0, .bool false, .bool false] 78 (0, 0)) (kN BK186.out) NB186_0.out (by simp)); have n1_ := m_ (rK (show IsS86 w0 _ g s0_0 t205 from (hI1 HI0.out NB0_186.out)) (rN HO189.out) hk); have n2_ := m_ (rK (show IsS86 w0 _ g s0_0 t205 from (hI1 HI0.out NB0_186.out)) (rN HO194.out) hk); have n3_ := m_ (rK (show IsS86 w0 _ g s0_0 t205 from (hI1 HI0.out NB0_186.out)) (rN HO199.out) hk); have n4_ := m_ (KeepBut.trans (hK1 HK.out GW186.out) hk (.inl rfl)); have n5_ := m_ (hb); have n6_ := m_ (hi); clear BK186 HO189 HO194 HO199 HK HB HI0; have BK186 := n0_; have HO189 := n1_; have HO194 := n2_; have HO199 := n3_; have HK := n4_; have HB := n5_; have HI0 := n6_; clear n0_ n1_ n2_ n3_ n4_ n5_ n6_; (try clear hb); (try clear hb2); (try clear hk); (try clear hi); have hnb24 := NB186_0.out; have hnc24 := NB0_186.out; have hcz25_0 : w23.cell? ⟨gb186, 0, none⟩ = some (.int .i64 0) := bc BK186 0; have hcz25_1 : w23.cell? ⟨gb186, 1, none⟩ = some (.int .i64 0) := bc BK186 1; have hcz25_2 : w23.cell? ⟨gb186, 2, none⟩ = some (.int .i64 0) := bc BK186 2; have hcz25_3 : w23.cell? ⟨gb186, 3, none⟩ = some (.int .i64 0) := bc BK186 3; have hcz25_4 : w23.cell? ⟨gb186, 4, none⟩ = some (.bool false) := bc BK186 4; have hcz25_5 : w23.cell? ⟨gb186, 5, none⟩ = some (.bool false) := bc BK186 5; have hfz25_0 := blk_frozen BK186.out 0; have hfz25_1 := blk_frozen BK186.out 1; have hfz25_2 := blk_frozen BK186.out 2; have hfz25_3 := blk_frozen BK186.out 3; have hfz25_4 := blk_frozen BK186.out 4; have hfz25_5 := blk_frozen BK186.out 5))
 refine bodyPost_ret (results_cell_row rfl _ _ gb186 78 #[.int .i64 t190, .int .i64 t195, .int .i64 t200, .int .i64 (wrap64 (1 + t202)), .bool (decide (t204 > 0)), .bool (t206 == 0)] (0, 0) _ rfl (by (with_reducible repeat (first | refine blk_drewN ?_ _ | refine blk_drew ?_ | refine blk_alloc ?_ _)); refine blk_put (cs := #[.int .i64 t190, .int .i64 t195, .int .i64 t200, .int .i64 (wrap64 (1 + t202)), .bool (decide (t204 > 0)), .bool false]) ?_ 5 _ rfl; (with_reducible repeat (first | refine blk_drewN ?_ _ | refine blk_drew ?_ | refine blk_alloc ?_ _)); refine blk_put (cs := #[.int .i64 t190, .int .i64 t195, .int .i64 t200, .int .i64 (wrap64 (1 + t202)), .bool false, .bool false]) ?_ 4 _ rfl; (with_reducible repeat (first | refine blk_drewN ?_ _ | refine blk_drew ?_ | refine blk_alloc ?_ _)); refine blk_put (cs := #[.int .i64 t190, .int .i64 t195, .int .i64 t200, .int .i64 0, .bool false, .bool false]) ?_ 3 _ rfl; (with_reducible repeat (first | refine blk_drewN ?_ _ | refine blk_drew ?_ | refine blk_alloc ?_ _)); refine blk_put (cs := #[.int .i64 t190, .int .i64 t195, .int .i64 0, .int .i64 0, .bool false, .bool false]) ?_ 2 _ rfl; (with_reducible repeat (first | refine blk_drewN ?_ _ | refine blk_drew ?_ | refine blk_alloc ?_ _)); refine blk_put (cs := #[.int .i64 t190, .int .i64 0, .int .i64 0, .int .i64 0, .bool false, .bool false]) ?_ 1 _ rfl; (with_reducible repeat (first | refine blk_drewN ?_ _ | refine blk_drew ?_ | refine blk_alloc ?_ _)); refine blk_put (cs := #[.int .i64 0, .int .i64 0, .int .i64 0, .int .i64 0, .bool false, .bool false]) ?_ 0 _ rfl; (with_reducible repeat (first | refine blk_drewN ?_ _ | refine blk_drew ?_ | refine blk_alloc ?_ _)); exact BK186.out) Tryd.underlying78 rfl (by kernel_rfl)) rfl ?_
 exact ⟨rf_, (hI1 HI0.out NB0_186.out), (hB2 HB.out (IsS86.ge HI0.out) GE186.out), (hK1 HK.out GW186.out)⟩

end Go.Proofs.YtcenmlpfbpogoaaDoor.P
