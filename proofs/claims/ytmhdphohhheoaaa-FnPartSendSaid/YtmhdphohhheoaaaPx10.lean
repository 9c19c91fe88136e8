/- The machine side of these statements, function by function: what each Go function answers (as a Lean function), and that it does. Written by a program (mp.py) for this claim. -/
import Derived.Test.YtmhdphohhheoaaaPx0
import Derived.Test.YtmhdphohhheoaaaPx2
import Derived.Test.YtmhdphohhheoaaaPx7
import Derived.Test.YtmhdphohhheoaaaPx8
import Derived.Test.YtmhdphohhheoaaaPx9
namespace Go.Proofs.Ytmhdphohhheoaaa.P
open Go.RowKit Go.Proofs.YtmhdphohhheoaaaW.PrintWords Go.Proofs.YtmhdphohhheoaaaW.PrintLast Go.Proofs.YtmhdphohhheoaaaW.PrintMore
attribute [local go_sem] max2_int min2_int max_two min_two max_three min_three max_four min_four   -- for this text's walks alone
set_option linter.unusedVariables false
set_option linter.unusedSimpArgs false

/-! ### spec_l15Part: function 55 -/
mutual
def spec_l15Part.l0 : Nat → Int → List Int → Int → List (S53) → List Int → Int → Bool → List Int → Option ((List (S53)) × List Int × Int × Bool × List Int × Int)
 | 0, _, _, _, _, _, _, _, _ => none
 | k + 1, x4, x1000, x1001, x222000, x222001, x222002, x222003, x222004 => if x4 < (x222001.length : Int) then ((spec_l1Rd_pick.f k x1000 x1001 9).bind fun bt222 => ((spec_l1Rd_pick.f k x1000 bt222.2 256).bind fun bt224 => ((spec_l1Rd_one.f k x1000 bt224.2 (([0, bt222.1, 9999, bt224.1] : List Int))).bind fun bt229 => (if 0 ≤ x4 then (spec_l15Part.l0 k (wrap64 (x4 + 1)) x1000 bt229.2 x222000 (x222001.set (x4 : Int).toNat bt229.1) x222002 x222003 x222004) else (none))))) else ((spec_l1Rd_pick.f k x1000 x1001 (x222000.length : Int)).bind fun bt232 => ((spec_l1Rd_pick.f k x1000 bt232.2 12).bind fun bt234 => ((spec_l1Rd_pick.f k x1000 bt234.2 5).bind fun bt236 => (spec_l15Part.l1 k bt236.1 x1000 bt236.2 x222000 x222001 bt232.1 (bt234.1 == 0) x222004))))
def spec_l15Part.l1 : Nat → Int → List Int → Int → List (S53) → List Int → Int → Bool → List Int → Option ((List (S53)) × List Int × Int × Bool × List Int × Int)
 | 0, _, _, _, _, _, _, _, _ => none
 | k + 1, x5, x1000, x1001, x222000, x222001, x222002, x222003, x222004 => if x5 > 0 then ((spec_l1Rd_pick.f k x1000 x1001 256).bind fun bt238 => ((spec_l1Rd_one.f k x1000 bt238.2 (([bt238.1, 9999] : List Int))).bind fun bt243 => (if x222004.length < 17592186044416 then (spec_l15Part.l1 k (wrap64 (x5 - 1)) x1000 bt243.2 x222000 x222001 x222002 x222003 (x222004 ++ [bt243.1])) else (none)))) else (some (x222000, x222001, x222002, x222003, x222004, x1001))
end
def spec_l15Part.f (k : Nat) (s0_0 : List Int) (s0_1 : Int) : Option ((List (S53)) × List Int × Int × Bool × List Int × Int) := (spec_l15Prog.f k s0_0 s0_1).bind fun bt206 => ((spec_PartNew.f k bt206.1).bind fun bt210 => (spec_l15Part.l0 k 0 s0_0 bt206.2 bt210.1 bt210.2.1 bt210.2.2.1 bt210.2.2.2.1 bt210.2.2.2.2))
theorem spec_l15Part.mono_l : ∀ k, (∀ y0 y1 y2 y3 y4 y5 y6 y7, LeO (spec_l15Part.l0 k y0 y1 y2 y3 y4 y5 y6 y7) (spec_l15Part.l0 (k + 1) y0 y1 y2 y3 y4 y5 y6 y7)) ∧ (∀ y0 y1 y2 y3 y4 y5 y6 y7, LeO (spec_l15Part.l1 k y0 y1 y2 y3 y4 y5 y6 y7) (spec_l15Part.l1 (k + 1) y0 y1 y2 y3 y4 y5 y6 y7))
 | 0 => ⟨fun _ _ _ _ _ _ _ _ r h => by simp [spec_l15Part.l0] at h, fun _ _ _ _ _ _ _ _ r h => by simp [spec_l15Part.l1] at h⟩
 | k + 1 => by
  obtain ⟨ih0, ih1⟩ := spec_l15Part.mono_l k
  refine ⟨?_, ?_⟩
  ·intro y0 y1 y2 y3 y4 y5 y6 y7
   unfold spec_l15Part.l0
   repeat' first
   | (with_reducible exact ih0 _ _ _ _ _ _ _ _)
   | (with_reducible exact ih1 _ _ _ _ _ _ _ _)
   | (with_reducible exact spec_PartNew.mono _ _)
   | (with_reducible exact spec_l15Prog.mono _ _ _)
   | (with_reducible exact spec_l1Rd_one.mono _ _ _ _)
   | (with_reducible exact spec_l1Rd_pick.mono _ _ _ _)
   | (with_reducible exact LeO.refl _)
   | (with_reducible exact LeO.none _)
   | (with_reducible refine LeO.ite ?_ ?_)
   | (with_reducible refine LeO.bind ?_ (fun _ => ?_))
   | exact ih0 _ _ _ _ _ _ _ _
   | exact ih1 _ _ _ _ _ _ _ _
   | exact spec_PartNew.mono _ _
   | exact spec_l15Prog.mono _ _ _
   | exact spec_l1Rd_one.mono _ _ _ _
   | exact spec_l1Rd_pick.mono _ _ _ _
   | exact LeO.none _
   | refine LeO.ite ?_ ?_
   | refine LeO.bind ?_ (fun _ => ?_)
  ·intro y0 y1 y2 y3 y4 y5 y6 y7
   unfold spec_l15Part.l1
   repeat' first
   | (with_reducible exact ih0 _ _ _ _ _ _ _ _)
   | (with_reducible exact ih1 _ _ _ _ _ _ _ _)
   | (with_reducible exact spec_PartNew.mono _ _)
   | (with_reducible exact spec_l15Prog.mono _ _ _)
   | (with_reducible exact spec_l1Rd_one.mono _ _ _ _)
   | (with_reducible exact spec_l1Rd_pick.mono _ _ _ _)
   | (with_reducible exact LeO.refl _)
   | (with_reducible exact LeO.none _)
   | (with_reducible refine LeO.ite ?_ ?_)
   | (with_reducible refine LeO.bind ?_ (fun _ => ?_))
   | exact ih0 _ _ _ _ _ _ _ _
   | exact ih1 _ _ _ _ _ _ _ _
   | exact spec_PartNew.mono _ _
   | exact spec_l15Prog.mono _ _ _
   | exact spec_l1Rd_one.mono _ _ _ _
   | exact spec_l1Rd_pick.mono _ _ _ _
   | exact LeO.none _
   | refine LeO.ite ?_ ?_
   | refine LeO.bind ?_ (fun _ => ?_)
theorem spec_l15Part.mono : ∀ a0 a1 k, LeO (spec_l15Part.f k a0 a1) (spec_l15Part.f (k + 1) a0 a1) := by
 intro a0 a1 k
 obtain ⟨ih0, ih1⟩ := spec_l15Part.mono_l k
 unfold spec_l15Part.f
 repeat' first
   | (with_reducible exact ih0 _ _ _ _ _ _ _ _)
   | (with_reducible exact ih1 _ _ _ _ _ _ _ _)
   | (with_reducible exact spec_PartNew.mono _ _)
   | (with_reducible exact spec_l15Prog.mono _ _ _)
   | (with_reducible exact spec_l1Rd_one.mono _ _ _ _)
   | (with_reducible exact spec_l1Rd_pick.mono _ _ _ _)
   | (with_reducible exact LeO.refl _)
   | (with_reducible exact LeO.none _)
   | (with_reducible refine LeO.ite ?_ ?_)
   | (with_reducible refine LeO.bind ?_ (fun _ => ?_))
   | exact ih0 _ _ _ _ _ _ _ _
   | exact ih1 _ _ _ _ _ _ _ _
   | exact spec_PartNew.mono _ _
   | exact spec_l15Prog.mono _ _ _
   | exact spec_l1Rd_one.mono _ _ _ _
   | exact spec_l1Rd_pick.mono _ _ _ _
   | exact LeO.none _
   | refine LeO.ite ?_ ?_
   | refine LeO.bind ?_ (fun _ => ?_)
def spec_l15Part.T5 : Bool × List (List Nat × List Nat) := (true, [([], []), ([0], [0]), ([], []), ([], []), ([], []), ([4], [4]), ([], []), ([6, 5], [6]), ([5, 7], [5, 7]), ([3, 8, 7], [3, 8]), ([1, 2, 0, 1, 2, 3, 4, 5, 6, 7, 8, 9], [1, 2]), ([10, 9, 9, 0, 1, 2, 3, 4, 5, 6, 7, 8, 9], [9, 10])])
def spec_l15Part.B5 : List Nat := [0, 1, 0, 0, 0, 16, 0, 112, 240, 504, 1023, 2047]
theorem spec_l15Part.tab5 : rtab .any (opsOf Try.f55 5) = spec_l15Part.T5 := by kernel_rfl
theorem spec_l15Part.bits5 : waitsOk spec_l15Part.T5.2 spec_l15Part.B5 = true := by kernel_rfl
def spec_l15Part.T11 : Bool × List (List Nat × List Nat) := (true, [([], []), ([0], [0]), ([], []), ([], []), ([3], [3]), ([4], [4]), ([2, 5, 4], [2, 5]), ([6], [6]), ([1, 7, 6], [1, 7]), ([0, 1, 2, 3, 4, 5, 6, 7, 8], []), ([9, 8, 8, 0, 1, 2, 3, 4, 5, 6, 7, 8], [8, 9])])
def spec_l15Part.B11 : List Nat := [0, 1, 0, 0, 8, 24, 60, 124, 255, 511, 1023]
theorem spec_l15Part.tab11 : rtab .any (opsOf Try.f55 11) = spec_l15Part.T11 := by kernel_rfl
theorem spec_l15Part.bits11 : waitsOk spec_l15Part.T11.2 spec_l15Part.B11 = true := by kernel_rfl
set_option maxHeartbeats 8000000 in
set_option maxRecDepth 100000 in
theorem spec_l15Part.calls (k : Nat) (g : Nat) (s0_0 : List Int) (s0_1 : Int) (r1 : List (S53)) (r2 : List Int) (r3 : Int) (r4 : Bool) (r5 : List Int) (r6 : Int) (w0 w : World) (hI : IsS72 w0 w g s0_0 s0_1) (hB : Below w0.heap.size w0 w) (h : spec_l15Part.f k s0_0 s0_1 = some (r1, r2, r3, r4, r5, r6)) :
  Calls Try.prog 55 #[.pointer (some ⟨g, 0, none⟩)] w fun e w' => ∃ v0_ v1_ v4_ : Value, e = .returned (.agg #[v0_, v1_, .int .i64 r3, .bool r4, v4_]) ∧ Kd.R k53 53 w' w.heap.size (fun _ => True) v0_ r1 ∧ Kd.R (Kd.int .i64) 3 w' w.heap.size (fun k_ => some k_ ≠ (v4_ : Value).ownBlock) v1_ r2 ∧ Kd.R (Kd.int .i64) 3 w' w.heap.size (fun k_ => some k_ ≠ (v1_ : Value).ownBlock) v4_ r5 ∧ IsS72 w0 w' g s0_0 r6 ∧ Below w0.heap.size w0 w' ∧ KeepBut w w' g none := by
 have hu33 := Try.underlying33
 have HI0 := Aside0.mk hI
 have HK := m_ (KeepBut.refl w g none)
 have HL := Aside0.mk hB.size
 clear hI
 have HW0 := Aside0.mk hB.size
 have HB := Aside0.mk hB
 clear hB
 have H : ((spec_l15Prog.f k s0_0 s0_1).bind fun bt206 => ((spec_PartNew.f k bt206.1).bind fun bt210 => (spec_l15Part.l0 k 0 s0_0 bt206.2 bt210.1 bt210.2.1 bt210.2.2.1 bt210.2.2.2.1 bt210.2.2.2.2))) = some (r1, r2, r3, r4, r5, r6) := h
 clear h
 replace H := Option.bind_eq_some_iff.mp H
 obtain ⟨⟨t206, t209⟩, A20, H⟩ := H
 replace H : ((spec_PartNew.f k t206).bind fun bt210 => (spec_l15Part.l0 k 0 s0_0 t209 bt210.1 bt210.2.1 bt210.2.2.1 bt210.2.2.2.1 bt210.2.2.2.2)) = some (r1, r2, r3, r4, r5, r6) := H
 have A2 := Aside0.mk A20
 clear A20
 replace H := Option.bind_eq_some_iff.mp H
 obtain ⟨⟨t210, t213, t216, t217, t218⟩, A30, H⟩ := H
 replace H : (spec_l15Part.l0 k 0 s0_0 t209 t210 t213 t216 t217 t218) = some (r1, r2, r3, r4, r5, r6) := H
 have A3 := Aside0.mk A30
 clear A30
 have H' := Aside0.mk H
 clear H
 go_enter Try.func55, Try.ntmps55
 go_wp2_with (first | ((with_reducible refine gate_dst (N := 2) rfl ?_); refine box_event ?hg (N := 2) ?hd (cs := #[.slice none 0 0, .slice none 0 0, .int .i64 0, .bool false, .slice none 0 0]) (t := 33) ?hr ?_; (case hd => rfl); (case hg => rfl); (case hr => first | (go_simp; done) | (go_simp; rfl)); intro gb205 hg w4 hbox hb; have n0_ := m_ (IsS72.below (by repeat (first | (with_reducible first | exact HI0.out | apply IsS72.alloc | apply IsS72.drewN | apply IsS72.drew | apply IsS72.set_1) | exact HI0.out)) hb); have n1_ := m_ (KeepBut.trans (by repeat (first | (with_reducible first | exact HK.out | apply KeepBut.set_ | apply keep_drewN | apply keep_drew | apply keep_alloc) | exact HK.out)) (KeepBut.of_below hb g none) (.inl rfl)); have n2_ := m_ (below_step (by repeat (first | (with_reducible first | exact HB.out | apply below_alloc | apply pw_below_drewN | apply below_drew1 | refine below_set ?_ (IsS72.ge HI0.out)) | exact HB.out)) hb); have n3_ := m_ (hbox); have n4_ := m_ ((by rw [hg]; exact (keep_size (w := w) (g := g) (row := none) (by repeat (first | (with_reducible first | exact HK.out | apply KeepBut.set_ | apply keep_drewN | apply keep_drew | apply keep_alloc) | exact HK.out))) : w.heap.size ≤ gb205)); have n5_ := m_ ((Nat.le_trans HW0.out (by rw [hg]; exact (keep_size (w := w) (g := g) (row := none) (by repeat (first | (with_reducible first | exact HK.out | apply KeepBut.set_ | apply keep_drewN | apply keep_drew | apply keep_alloc) | exact HK.out))) : w.heap.size ≤ gb205) : w0.heap.size ≤ gb205)); have n6_ := m_ ((by rw [hg]; exact Nat.ne_of_lt (IsS72.lt (show IsS72 w0 _ g s0_0 s0_1 from by repeat (first | (with_reducible first | exact HI0.out | apply IsS72.alloc | apply IsS72.drewN | apply IsS72.drew | apply IsS72.set_1) | exact HI0.out))) : g ≠ gb205)); have n7_ := m_ ((by rw [hg]; exact Nat.ne_of_gt (IsS72.lt (show IsS72 w0 _ g s0_0 s0_1 from by repeat (first | (with_reducible first | exact HI0.out | apply IsS72.alloc | apply IsS72.drewN | apply IsS72.drew | apply IsS72.set_1) | exact HI0.out))) : gb205 ≠ g)); clear HI0; clear HK; clear HB; have HI0 := n0_; have HK := n1_; have HB := n2_; have BK205 := n3_; have GW205 := n4_; have GE205 := n5_; have NB0_205 := n6_; have NB205_0 := n7_; clear n0_ n1_ n2_ n3_ n4_ n5_ n6_ n7_; clear hb hbox hg) | ((with_reducible refine gate_callee (f := 54) rfl ?_); refine goesL_ (some 7) rfl rfl Try.func54 (by kernel_rfl) rfl #[.pointer (some ⟨g, 0, none⟩)] rfl gl_ ?_; (with_reducible refine (spec_l15Prog.calls k g s0_0 s0_1 t206 t209 w0 _ ?side1 ?side2 A2.out).mono ?_); (case side1 => repeat (first | (with_reducible first | exact HI0.out | apply IsS72.alloc | apply IsS72.drewN | apply IsS72.drew | apply IsS72.set_1 | refine IsS72.far ?_ NB0_205.out _) | exact HI0.out)); (case side2 => repeat (first | (with_reducible first | exact HB.out | apply below_alloc | apply pw_below_drewN | apply below_drew1 | refine below_set ?_ (IsS72.ge HI0.out) | refine below_set ?_ GE205.out) | exact HB.out)); rintro e w5 ⟨v207, rfl, ho0, hi, hb, hk⟩; refine ⟨_, rfl, ?_⟩; have n0_ := m_ (KeepBut.blk hk (g' := gb205) (o := .cells #[.slice none 0 0, .slice none 0 0, .int .i64 0, .bool false, .slice none 0 0] 33 (0, 0)) (kN BK205.out) NB205_0.out (by simp)); have n1_ := m_ (Kd.R_lower ho0 (keep_size (w := w) (g := g) (row := none) (by repeat (first | (with_reducible first | exact HK.out | apply KeepBut.set_ | apply keep_drewN | apply keep_drew | apply keep_alloc | refine keep_far ?_ GW205.out _) | exact HK.out)))); have n2_ := m_ (KeepBut.trans (by repeat (first | (with_reducible first | exact HK.out | apply KeepBut.set_ | apply keep_drewN | apply keep_drew | apply keep_alloc | refine keep_far ?_ GW205.out _) | exact HK.out)) hk (.inl rfl)); have n3_ := m_ (hb); have n4_ := m_ (hi); clear BK205; clear HK; clear HB; clear HI0; have BK205 := n0_; have HO208 := n1_; have HK := n2_; have HB := n3_; have HI0 := n4_; clear n0_ n1_ n2_ n3_ n4_; (try clear hb); (try clear hb2); (try clear hk); (try clear hi); (try clear ho0); obtain ⟨Ao6, co6, eo6⟩ := Kd.R_slice HO208.out; subst eo6) | ((with_reducible refine gate_callee (f := 17) rfl ?_); refine goesL_ (some 8) rfl rfl Try.func17 (by kernel_rfl) rfl #[.slice Ao6 t206.length co6] rfl gl_ ?_; (with_reducible refine (spec_PartNew.calls k _ _ t206 t210 t213 t216 t217 t218 _ ?side1 ?side2 A3.out).mono ?_); (case side1 => exact cN (Kd.R_reads' HO208.out).2.2); (case side2 => exact (Kd.R_reads' HO208.out).2.1); rintro e w7 ⟨v211, v214, v219, rfl, ho0, ho1, ho2, hb⟩; refine ⟨_, rfl, ?_⟩; have n0_ := m_ (Kd.R_elder' (rN HO208.out) (Kd.R_base ho0) hb); have n1_ := m_ (Kd.R_lower (Kd.R_new' ho0 (Kd.R_lt (rN HO208.out))) (keep_size (w := w) (g := g) (row := none) (by repeat (first | (with_reducible first | exact HK.out | apply KeepBut.set_ | apply keep_drewN | apply keep_drew | apply keep_alloc | refine keep_far ?_ GW205.out _) | exact HK.out)))); have n2_ := m_ (Kd.R_lower ho1 (keep_size (w := w) (g := g) (row := none) (by repeat (first | (with_reducible first | exact HK.out | apply KeepBut.set_ | apply keep_drewN | apply keep_drew | apply keep_alloc | refine keep_far ?_ GW205.out _) | exact HK.out)))); have n3_ := m_ (Kd.R_lower ho2 (keep_size (w := w) (g := g) (row := none) (by repeat (first | (with_reducible first | exact HK.out | apply KeepBut.set_ | apply keep_drewN | apply keep_drew | apply keep_alloc | refine keep_far ?_ GW205.out _) | exact HK.out)))); have n4_ := m_ (IsS72.below (by repeat (first | (with_reducible first | exact HI0.out | apply IsS72.alloc | apply IsS72.drewN | apply IsS72.drew | apply IsS72.set_1 | refine IsS72.far ?_ NB0_205.out _) | exact HI0.out)) hb); have n5_ := m_ (blk_below (kN BK205.out) hb); have n6_ := m_ (KeepBut.trans (by repeat (first | (with_reducible first | exact HK.out | apply KeepBut.set_ | apply keep_drewN | apply keep_drew | apply keep_alloc | refine keep_far ?_ GW205.out _) | exact HK.out)) (KeepBut.of_below hb g none) (.inl rfl)); have n7_ := m_ (below_step (by repeat (first | (with_reducible first | exact HB.out | apply below_alloc | apply pw_below_drewN | apply below_drew1 | refine below_set ?_ (IsS72.ge HI0.out) | refine below_set ?_ GE205.out) | exact HB.out)) hb); clear HO208; clear HI0; clear BK205; clear HK; clear HB; have HO208 := n0_; have HO212 := n1_; have HO215 := n2_; have HO220 := n3_; have HI0 := n4_; have BK205 := n5_; have HK := n6_; have HB := n7_; clear n0_ n1_ n2_ n3_ n4_ n5_ n6_ n7_; (try clear hb); (try clear hb2); (try clear hk); (try clear hi); (try clear ho0); (try clear ho1); (try clear ho2)) | ((with_reducible refine gate_dst (N := 3) rfl ?_); refine box_event ?hg (N := 3) ?hd (cs := #[.slice none 0 0, .slice none 0 0, .int .i64 0, .bool false, .slice none 0 0]) (t := 33) ?hr ?_; (case hd => rfl); (case hg => rfl); (case hr => first | (go_simp; done) | (go_simp; rfl)); intro gb221 hg w8 hbox hb; have n0_ := m_ (Kd.R_below (rN HO208.out) hb); have n1_ := m_ (Kd.R_below (rN HO212.out) hb); have n2_ := m_ (Kd.R_below (rN HO215.out) hb); have n3_ := m_ (Kd.R_below (rN HO220.out) hb); have n4_ := m_ (IsS72.below (by repeat (first | (with_reducible first | exact HI0.out | apply IsS72.alloc | apply IsS72.drewN | apply IsS72.drew | apply IsS72.set_1 | refine IsS72.far ?_ NB0_205.out _) | exact HI0.out)) hb); have n5_ := m_ (blk_below (kN BK205.out) hb); have n6_ := m_ (KeepBut.trans (by repeat (first | (with_reducible first | exact HK.out | apply KeepBut.set_ | apply keep_drewN | apply keep_drew | apply keep_alloc | refine keep_far ?_ GW205.out _) | exact HK.out)) (KeepBut.of_below hb g none) (.inl rfl)); have n7_ := m_ (below_step (by repeat (first | (with_reducible first | exact HB.out | apply below_alloc | apply pw_below_drewN | apply below_drew1 | refine below_set ?_ (IsS72.ge HI0.out) | refine below_set ?_ GE205.out) | exact HB.out)) hb); have n8_ := m_ (hbox); have n9_ := m_ ((by rw [hg]; exact (keep_size (w := w) (g := g) (row := none) (by repeat (first | (with_reducible first | exact HK.out | apply KeepBut.set_ | apply keep_drewN | apply keep_drew | apply keep_alloc | refine keep_far ?_ GW205.out _) | exact HK.out))) : w.heap.size ≤ gb221)); have n10_ := m_ ((Nat.le_trans HW0.out (by rw [hg]; exact (keep_size (w := w) (g := g) (row := none) (by repeat (first | (with_reducible first | exact HK.out | apply KeepBut.set_ | apply keep_drewN | apply keep_drew | apply keep_alloc | refine keep_far ?_ GW205.out _) | exact HK.out))) : w.heap.size ≤ gb221) : w0.heap.size ≤ gb221)); have n11_ := m_ ((by rw [hg]; exact Nat.ne_of_lt (blk_lt (g := gb205) (o := .cells #[.slice none 0 0, .slice none 0 0, .int .i64 0, .bool false, .slice none 0 0] 33 (0, 0)) (kN BK205.out)) : gb205 ≠ gb221)); have n12_ := m_ ((by rw [hg]; exact Nat.ne_of_gt (blk_lt (g := gb205) (o := .cells #[.slice none 0 0, .slice none 0 0, .int .i64 0, .bool false, .slice none 0 0] 33 (0, 0)) (kN BK205.out)) : gb221 ≠ gb205)); have n13_ := m_ ((by rw [hg]; exact Nat.ne_of_lt (IsS72.lt (show IsS72 w0 _ g s0_0 t209 from by repeat (first | (with_reducible first | exact HI0.out | apply IsS72.alloc | apply IsS72.drewN | apply IsS72.drew | apply IsS72.set_1 | refine IsS72.far ?_ NB0_205.out _) | exact HI0.out))) : g ≠ gb221)); have n14_ := m_ ((by rw [hg]; exact Nat.ne_of_gt (IsS72.lt (show IsS72 w0 _ g s0_0 t209 from by repeat (first | (with_reducible first | exact HI0.out | apply IsS72.alloc | apply IsS72.drewN | apply IsS72.drew | apply IsS72.set_1 | refine IsS72.far ?_ NB0_205.out _) | exact HI0.out))) : gb221 ≠ g)); clear HO208; clear HO212; clear HO215; clear HO220; clear HI0; clear BK205; clear HK; clear HB; have HO208 := n0_; have HO212 := n1_; have HO215 := n2_; have HO220 := n3_; have HI0 := n4_; have BK205 := n5_; have HK := n6_; have HB := n7_; have BK221 := n8_; have GW221 := n9_; have GE221 := n10_; have NB205_221 := n11_; have NB221_205 := n12_; have NB0_221 := n13_; have NB221_0 := n14_; clear n0_ n1_ n2_ n3_ n4_ n5_ n6_ n7_ n8_ n9_ n10_ n11_ n12_ n13_ n14_; clear hb hbox hg; obtain ⟨Ao9, co9, eo9⟩ := Kd.R_slice HO212.out; subst eo9; have hnb10 := NB221_205.out; have hnc10 := NB205_221.out; have hnb11 := NB221_0.out; have hnc11 := NB0_221.out; have hcz12_0 : w8.cell? ⟨gb221, 0, none⟩ = some (.slice none 0 0) := (blk_cell BK221.out 0).trans rfl; have hcz12_1 : w8.cell? ⟨gb221, 1, none⟩ = some (.slice none 0 0) := (blk_cell BK221.out 1).trans rfl; have hcz12_2 : w8.cell? ⟨gb221, 2, none⟩ = some (.int .i64 0) := (blk_cell BK221.out 2).trans rfl; have hcz12_3 : w8.cell? ⟨gb221, 3, none⟩ = some (.bool false) := (blk_cell BK221.out 3).trans rfl; have hcz12_4 : w8.cell? ⟨gb221, 4, none⟩ = some (.slice none 0 0) := (blk_cell BK221.out 4).trans rfl; have hfz12_0 := blk_frozen BK221.out 0; have hfz12_1 := blk_frozen BK221.out 1; have hfz12_2 := blk_frozen BK221.out 2; have hfz12_3 := blk_frozen BK221.out 3; have hfz12_4 := blk_frozen BK221.out 4; obtain ⟨Ao13, co13, eo13⟩ := Kd.R_slice HO215.out; subst eo13; obtain ⟨Ao14, co14, eo14⟩ := Kd.R_slice HO220.out; subst eo14))
 go_loopg [4] k (fun kq v4 w' => ∃ (x4_1 : Int) (x1001_1 : Int) (x222001_1 : List Int) (x222004_1 : List Int) (u222001 : Value) (u222004 : Value), v4 = .int .i64 x4_1 ∧ Aside0 (spec_l15Part.l0 kq x4_1 s0_0 x1001_1 t210 x222001_1 t216 t217 x222004_1 = some (r1, r2, r3, r4, r5, r6)) ∧ Aside0 (kq ≤ k) ∧ Aside0 (Kd.R k53 53 w' w.heap.size (fun _ => True) (.slice Ao9 t210.length co9) t210) ∧ Aside0 (Kd.R (Kd.int .i64) 3 w' w.heap.size (fun k_ => some k_ ≠ (u222004 : Value).ownBlock) u222001 x222001_1) ∧ Aside0 (Kd.R (Kd.int .i64) 3 w' w.heap.size (fun k_ => some k_ ≠ (u222001 : Value).ownBlock) u222004 x222004_1) ∧ Aside0 (w'.heap[gb205]? = some (.cells #[(.slice none 0 0), (.slice none 0 0), .int .i64 0, .bool false, (.slice none 0 0)] 33 (0, 0))) ∧ Aside0 (w'.heap[gb221]? = some (.cells #[(.slice Ao9 t210.length co9), u222001, .int .i64 t216, .bool t217, u222004] 33 (0, 0))) ∧ Aside0 (IsS72 w0 w' g s0_0 x1001_1) ∧ Aside0 (KeepBut w w' g none) ∧ Aside0 (Below w0.heap.size w0 w'))
 case atStart => exact ⟨(0), (t209), (t213), (t218), (.slice Ao13 t213.length co13), (.slice Ao14 t218.length co14), (by first | rfl | (simp; done) | (simp [*]; done)), H', ⟨Nat.le_refl _⟩, ⟨by (with_reducible repeat (first | apply Kd.R_alloc | apply Kd.R_drewN | apply Kd.R_drew)); exact frM (Kd.R_types HO212.out BK221.out (by decide))⟩, ⟨by (with_reducible repeat (first | apply Kd.R_alloc | apply Kd.R_drewN | apply Kd.R_drew)); exact frM (Kd.R_types HO215.out BK221.out (by decide))⟩, ⟨by (with_reducible repeat (first | apply Kd.R_alloc | apply Kd.R_drewN | apply Kd.R_drew)); exact frM (Kd.R_types HO220.out BK221.out (by decide))⟩, ⟨by (with_reducible repeat (first | refine blk_drewN ?_ _ | refine blk_drew ?_ | refine blk_alloc ?_ _)); refine blk_far ?_ NB205_221.out _; (with_reducible repeat (first | refine blk_drewN ?_ _ | refine blk_drew ?_ | refine blk_alloc ?_ _)); refine blk_far ?_ NB205_221.out _; (with_reducible repeat (first | refine blk_drewN ?_ _ | refine blk_drew ?_ | refine blk_alloc ?_ _)); refine blk_far ?_ NB205_221.out _; (with_reducible repeat (first | refine blk_drewN ?_ _ | refine blk_drew ?_ | refine blk_alloc ?_ _)); refine blk_far ?_ NB205_221.out _; (with_reducible repeat (first | refine blk_drewN ?_ _ | refine blk_drew ?_ | refine blk_alloc ?_ _)); refine blk_far ?_ NB205_221.out _; (with_reducible repeat (first | refine blk_drewN ?_ _ | refine blk_drew ?_ | refine blk_alloc ?_ _)); exact BK205.out⟩, ⟨by (with_reducible repeat (first | refine blk_drewN ?_ _ | refine blk_drew ?_ | refine blk_alloc ?_ _)); refine blk_put (cs := #[.slice Ao9 t210.length co9, .slice Ao13 t213.length co13, .int .i64 t216, .bool t217, .slice none 0 0]) ?_ 4 _ rfl; (with_reducible repeat (first | refine blk_drewN ?_ _ | refine blk_drew ?_ | refine blk_alloc ?_ _)); refine blk_put (cs := #[.slice Ao9 t210.length co9, .slice Ao13 t213.length co13, .int .i64 t216, .bool false, .slice none 0 0]) ?_ 3 _ rfl; (with_reducible repeat (first | refine blk_drewN ?_ _ | refine blk_drew ?_ | refine blk_alloc ?_ _)); refine blk_put (cs := #[.slice Ao9 t210.length co9, .slice Ao13 t213.length co13, .int .i64 0, .bool false, .slice none 0 0]) ?_ 2 _ rfl; (with_reducible repeat (first | refine blk_drewN ?_ _ | refine blk_drew ?_ | refine blk_alloc ?_ _)); refine blk_put (cs := #[.slice Ao9 t210.length co9, .slice none 0 0, .int .i64 0, .bool false, .slice none 0 0]) ?_ 1 _ rfl; (with_reducible repeat (first | refine blk_drewN ?_ _ | refine blk_drew ?_ | refine blk_alloc ?_ _)); refine blk_put (cs := #[.slice none 0 0, .slice none 0 0, .int .i64 0, .bool false, .slice none 0 0]) ?_ 0 _ rfl; (with_reducible repeat (first | refine blk_drewN ?_ _ | refine blk_drew ?_ | refine blk_alloc ?_ _)); exact BK221.out⟩, ⟨by repeat (first | (with_reducible first | exact HI0.out | apply IsS72.alloc | apply IsS72.drewN | apply IsS72.drew | apply IsS72.set_1 | refine IsS72.far ?_ NB0_205.out _ | refine IsS72.far ?_ NB0_221.out _) | exact HI0.out)⟩, ⟨by repeat (first | (with_reducible first | exact HK.out | apply KeepBut.set_ | apply keep_drewN | apply keep_drew | apply keep_alloc | refine keep_far ?_ GW205.out _ | refine keep_far ?_ GW221.out _) | exact HK.out)⟩, ⟨by repeat (first | (with_reducible first | exact HB.out | apply below_alloc | apply pw_below_drewN | apply below_drew1 | refine below_set ?_ (IsS72.ge HI0.out) | refine below_set ?_ GE205.out | refine below_set ?_ GE221.out) | exact HB.out)⟩⟩
 case round =>
  clear H'
  try clear c1
  try clear p2
  try clear c5
  try clear c10
  try clear c11
  try clear hcz12_0
  try clear hcz12_1
  try clear hcz12_2
  try clear hcz12_3
  try clear hcz12_4
  try clear hfz12_0
  try clear hfz12_1
  try clear hfz12_2
  try clear hfz12_3
  try clear hfz12_4
  obtain ⟨x4_1, x1001_1, x222001_1, x222004_1, u222001, u222004, rfl, HA, HK1, HO_222000, HO_222001, HO_222004, BK205, BK221, HI0, HK, HB⟩ := hrel
  cases gk with
  | zero => exact absurd HA.out (by simp [spec_l15Part.l0])
  | succ k1 =>
   have H := HA.out
   clear HA
   simp only [spec_l15Part.l0] at H
   by_cases c15 : x4_1 < (x222001_1.length : Int)
   ·rw [if_pos c15] at H
    have c15b0 : decide (x4_1 < (x222001_1.length : Int)) = true := decide_eq_true c15
    clear c15
    replace H := Option.bind_eq_some_iff.mp H
    obtain ⟨⟨t222, t223⟩, A160, H⟩ := H
    replace H : ((spec_l1Rd_pick.f k1 s0_0 t223 256).bind fun bt224 => ((spec_l1Rd_one.f k1 s0_0 bt224.2 (([0, t222, 9999, bt224.1] : List Int))).bind fun bt229 => (if 0 ≤ x4_1 then (spec_l15Part.l0 k1 (wrap64 (x4_1 + 1)) s0_0 bt229.2 t210 (x222001_1.set (x4_1 : Int).toNat bt229.1) t216 t217 x222004_1) else (none)))) = some (r1, r2, r3, r4, r5, r6) := H
    have A16 := Aside0.mk A160
    clear A160
    replace H := Option.bind_eq_some_iff.mp H
    obtain ⟨⟨t224, t225⟩, A170, H⟩ := H
    replace H : ((spec_l1Rd_one.f k1 s0_0 t225 (([0, t222, 9999, t224] : List Int))).bind fun bt229 => (if 0 ≤ x4_1 then (spec_l15Part.l0 k1 (wrap64 (x4_1 + 1)) s0_0 bt229.2 t210 (x222001_1.set (x4_1 : Int).toNat bt229.1) t216 t217 x222004_1) else (none))) = some (r1, r2, r3, r4, r5, r6) := H
    have A17 := Aside0.mk A170
    clear A170
    obtain ⟨y226, hy226⟩ : ∃ y_ : List Int, y_ = (([0, t222, 9999, t224] : List Int)) := ⟨_, rfl⟩
    replace H : ((spec_l1Rd_one.f k1 s0_0 t225 y226).bind fun bt229 => (if 0 ≤ x4_1 then (spec_l15Part.l0 k1 (wrap64 (x4_1 + 1)) s0_0 bt229.2 t210 (x222001_1.set (x4_1 : Int).toNat bt229.1) t216 t217 x222004_1) else (none))) = some (r1, r2, r3, r4, r5, r6) := by first | (rw [hy226]; with_reducible exact H) | (have H2_ := (Option.bind_some _ _).symm.trans H; rw [hy226]; with_reducible exact H2_) | (have H2_ := (Option.bind_some _ _).symm.trans H; with_reducible exact H2_) | with_reducible exact H | (rw [hy226]; exact H) | exact H
    have Ny226 := Aside0.mk hy226
    clear hy226
    replace H := Option.bind_eq_some_iff.mp H
    obtain ⟨⟨t229, t230⟩, A180, H⟩ := H
    replace H : (if 0 ≤ x4_1 then (spec_l15Part.l0 k1 (wrap64 (x4_1 + 1)) s0_0 t230 t210 (x222001_1.set (x4_1 : Int).toNat t229) t216 t217 x222004_1) else (none)) = some (r1, r2, r3, r4, r5, r6) := H
    have A18 := Aside0.mk A180
    clear A180
    by_cases c19 : 0 ≤ x4_1
    ·rw [if_pos c19] at H
     have c19b0 : decide (0 ≤ x4_1) = true := decide_eq_true c19
     clear c19
     obtain ⟨y231, hy231⟩ : ∃ y_ : List Int, y_ = (x222001_1.set (x4_1 : Int).toNat t229) := ⟨_, rfl⟩
     replace H : (spec_l15Part.l0 k1 (wrap64 (x4_1 + 1)) s0_0 t230 t210 y231 t216 t217 x222004_1) = some (r1, r2, r3, r4, r5, r6) := by first | (rw [hy231]; with_reducible exact H) | (have H2_ := (Option.bind_some _ _).symm.trans H; rw [hy231]; with_reducible exact H2_) | (have H2_ := (Option.bind_some _ _).symm.trans H; with_reducible exact H2_) | with_reducible exact H | (rw [hy231]; exact H) | exact H
     have Ny231 := Aside0.mk hy231
     clear hy231
     have H' := Aside0.mk H
     clear H
     have hnb21 := NB221_205.out
     have hnc21 := NB205_221.out
     have hnb22 := NB221_0.out
     have hnc22 := NB0_221.out
     have hcz23_0 : wr.cell? ⟨gb221, 0, none⟩ = some (.slice Ao9 t210.length co9) := (blk_cell BK221.out 0).trans rfl
     have hcz23_1 : wr.cell? ⟨gb221, 1, none⟩ = some (u222001) := (blk_cell BK221.out 1).trans rfl
     have hcz23_2 : wr.cell? ⟨gb221, 2, none⟩ = some (.int .i64 t216) := (blk_cell BK221.out 2).trans rfl
     have hcz23_3 : wr.cell? ⟨gb221, 3, none⟩ = some (.bool t217) := (blk_cell BK221.out 3).trans rfl
     have hcz23_4 : wr.cell? ⟨gb221, 4, none⟩ = some (u222004) := (blk_cell BK221.out 4).trans rfl
     have hfz23_0 := blk_frozen BK221.out 0
     have hfz23_1 := blk_frozen BK221.out 1
     have hfz23_2 := blk_frozen BK221.out 2
     have hfz23_3 := blk_frozen BK221.out 3
     have hfz23_4 := blk_frozen BK221.out 4
     obtain ⟨Ao24, co24, eo24⟩ := Kd.R_slice HO_222001.out
     subst eo24
     try go_wp2
     have n0_ := m_ (Kd.R_drew HO_222000.out)
     have n1_ := m_ (Kd.R_drew HO_222001.out)
     have n2_ := m_ (Kd.R_drew HO_222004.out)
     have n3_ := m_ (blk_drew BK205.out)
     have n4_ := m_ (blk_drew BK221.out)
     have n5_ := m_ (IsS72.drew HI0.out)
     have n6_ := m_ (keep_drew HK.out)
     have n7_ := m_ (below_drew1 HB.out)
     clear HO_222000
     clear HO_222001
     clear HO_222004
     clear BK205
     clear BK221
     clear HI0
     clear HK
     clear HB
     have HO_222000 := n0_
     have HO_222001 := n1_
     have HO_222004 := n2_
     have BK205 := n3_
     have BK221 := n4_
     have HI0 := n5_
     have HK := n6_
     have HB := n7_
     clear n0_ n1_ n2_ n3_ n4_ n5_ n6_ n7_
     refine start_ (n := 12) (S := fun w' => w'.cell? ⟨gb221, 0, none⟩ = some (.slice Ao9 t210.length co9) ∧ w'.cell? ⟨gb221, 1, none⟩ = some (.slice Ao24 x222001_1.length co24) ∧ w'.cell? ⟨gb221, 2, none⟩ = some (.int .i64 t216) ∧ w'.cell? ⟨gb221, 3, none⟩ = some (.bool t217) ∧ w'.cell? ⟨gb221, 4, none⟩ = some (u222004)) (ds := [11]) #[false, false, false, false, false, false, false, false, false, false, false, false] (by kernel_rfl) rfl rfl ⟨(blk_cell BK221.out 0).trans rfl, (blk_cell BK221.out 1).trans rfl, (blk_cell BK221.out 2).trans rfl, (blk_cell BK221.out 3).trans rfl, (blk_cell BK221.out 4).trans rfl⟩ (fun hHeld => ?_); refine with_tabW spec_l15Part.tab5 spec_l15Part.bits5 (fun HT_ HW_ => ?_)
     generalize wr.drew = w25 at HO_222000 HO_222001 HO_222004 BK205 BK221 HI0 HK HB hHeld ⊢
     refine pu 0 16 HT_ (h := ?_)
     refine pu 2 18 HT_ (h := ?_)
     refine pu 3 19 HT_ (h := ?_)
     refine pu 4 20 HT_ (h := ?_)
     refine pu 6 22 HT_ (h := ?_)
     refine take_ (i := 1) (N := some 17) (v := ?_) (a' := ?_) #[true, true, true, true, true, false, true, false, false, false, false, false] rfl rfl (take_ofW HT_.out HW_.out (by kernel_rfl)) (fun _ _ _ h => h) (Or.inl ⟨by rfl, ?_⟩) hHeld ?_ ?_
     rotate_left
     ·rintro w' ⟨s0, s1, s2, s3, s4⟩
      go_simp
      with_reducible rfl
     rotate_left
     ·simp only [Act.put, List.setIfInBounds_toArray, List.set_cons_zero, List.set_cons_succ, i64_w, i32_w]
      rfl
     refine one_ (i := 5) (N := some 21) #[true, true, true, true, true, true, true, false, false, false, false, false] rfl rfl (one_of HT_.out (by kernel_rfl)) (by decide) (fun K hK => ?_)
     refine goes_ Try.func50 (by kernel_rfl) rfl #[.pointer (some ⟨g, 0, none⟩), .int .i64 9] (by rfl) rfl rfl gl_ ?_
     with_reducible refine (spec_l1Rd_pick.calls k1 g s0_0 x1001_1 9 t222 t223 w0 _ ?side1 ?side2 A16.out).mono ?_
     (case side1 => repeat (first | (with_reducible first | exact HI0.out | apply IsS72.alloc | apply IsS72.drewN | apply IsS72.drew | apply IsS72.set_1 | refine IsS72.far ?_ NB0_205.out _ | refine IsS72.far ?_ NB0_221.out _) | exact HI0.out))
     (case side2 => repeat (first | (with_reducible first | exact HB.out | apply below_alloc | apply pw_below_drewN | apply below_drew1 | refine below_set ?_ (IsS72.ge HI0.out) | refine below_set ?_ GE205.out | refine below_set ?_ GE221.out) | exact HB.out))
     rintro e w26 ⟨rfl, hi, hb, hk⟩
     refine ⟨_, rfl, ?_⟩
     have n0_ := m_ (Kd.R_mono (Kd.R_keep (IsS72.apart (show IsS72 w0 _ g s0_0 x1001_1 from by repeat (first | (with_reducible first | exact HI0.out | apply IsS72.alloc | apply IsS72.drewN | apply IsS72.drew | apply IsS72.set_1 | refine IsS72.far ?_ NB0_205.out _ | refine IsS72.far ?_ NB0_221.out _) | exact HI0.out)) (rN HO_222000.out) (by decide)) hk (fun _ h => h.2)) (fun _ h => h.1))
     have n1_ := m_ (Kd.R_mono (Kd.R_keep (IsS72.apart (show IsS72 w0 _ g s0_0 x1001_1 from by repeat (first | (with_reducible first | exact HI0.out | apply IsS72.alloc | apply IsS72.drewN | apply IsS72.drew | apply IsS72.set_1 | refine IsS72.far ?_ NB0_205.out _ | refine IsS72.far ?_ NB0_221.out _) | exact HI0.out)) (rN HO_222001.out) (by decide)) hk (fun _ h => h.2)) (fun _ h => h.1))
     have n2_ := m_ (Kd.R_mono (Kd.R_keep (IsS72.apart (show IsS72 w0 _ g s0_0 x1001_1 from by repeat (first | (with_reducible first | exact HI0.out | apply IsS72.alloc | apply IsS72.drewN | apply IsS72.drew | apply IsS72.set_1 | refine IsS72.far ?_ NB0_205.out _ | refine IsS72.far ?_ NB0_221.out _) | exact HI0.out)) (rN HO_222004.out) (by decide)) hk (fun _ h => h.2)) (fun _ h => h.1))
     have n3_ := m_ (KeepBut.blk hk (g' := gb205) (o := .cells #[.slice none 0 0, .slice none 0 0, .int .i64 0, .bool false, .slice none 0 0] 33 (0, 0)) (kN BK205.out) NB205_0.out (by simp))
     have n4_ := m_ (KeepBut.blk hk (g' := gb221) (o := .cells #[.slice Ao9 t210.length co9, .slice Ao24 x222001_1.length co24, .int .i64 t216, .bool t217, u222004] 33 (0, 0)) (kN BK221.out) NB221_0.out (by simp))
     have n5_ := m_ (KeepBut.trans (by repeat (first | (with_reducible first | exact HK.out | apply KeepBut.set_ | apply keep_drewN | apply keep_drew | apply keep_alloc | refine keep_far ?_ GW205.out _ | refine keep_far ?_ GW221.out _) | exact HK.out)) hk (.inl rfl))
     have n6_ := m_ (hb)
     have n7_ := m_ (hi)
     clear HO_222000
     clear HO_222001
     clear HO_222004
     clear BK205
     clear BK221
     clear HK
     clear HB
     clear HI0
     have HO_222000 := n0_
     have HO_222001 := n1_
     have HO_222004 := n2_
     have BK205 := n3_
     have BK221 := n4_
     have HK := n5_
     have HB := n6_
     have HI0 := n7_
     clear n0_ n1_ n2_ n3_ n4_ n5_ n6_ n7_
     (try clear hb)
     (try clear hb2)
     (try clear hk)
     (try clear hi)
     refine hK.out _ _ ⟨(blk_cell BK221.out 0).trans rfl, (blk_cell BK221.out 1).trans rfl, (blk_cell BK221.out 2).trans rfl, (blk_cell BK221.out 3).trans rfl, (blk_cell BK221.out 4).trans rfl⟩ (fun hHeld => ?_)
     clear hK K
     refine norm_ (a' := ?_) ?_ ?_
     rotate_left
     ·show Act.put _ (some 21) _ = _
      simp only [Act.put, List.setIfInBounds_toArray, List.set_cons_zero, List.set_cons_succ, i64_w, i32_w]
      rfl
     refine one_ (i := 7) (N := some 23) #[true, true, true, true, true, true, true, true, false, false, false, false] rfl rfl (one_of HT_.out (by kernel_rfl)) (by decide) (fun K hK => ?_)
     refine goes_ Try.func50 (by kernel_rfl) rfl #[.pointer (some ⟨g, 0, none⟩), .int .i64 256] (by rfl) rfl rfl gl_ ?_
     with_reducible refine (spec_l1Rd_pick.calls k1 g s0_0 t223 256 t224 t225 w0 _ ?side1 ?side2 A17.out).mono ?_
     (case side1 => repeat (first | (with_reducible first | exact HI0.out | apply IsS72.alloc | apply IsS72.drewN | apply IsS72.drew | apply IsS72.set_1 | refine IsS72.far ?_ NB0_205.out _ | refine IsS72.far ?_ NB0_221.out _) | exact HI0.out))
     (case side2 => repeat (first | (with_reducible first | exact HB.out | apply below_alloc | apply pw_below_drewN | apply below_drew1 | refine below_set ?_ (IsS72.ge HI0.out) | refine below_set ?_ GE205.out | refine below_set ?_ GE221.out) | exact HB.out))
     rintro e w27 ⟨rfl, hi, hb, hk⟩
     refine ⟨_, rfl, ?_⟩
     have n0_ := m_ (Kd.R_mono (Kd.R_keep (IsS72.apart (show IsS72 w0 _ g s0_0 t223 from by repeat (first | (with_reducible first | exact HI0.out | apply IsS72.alloc | apply IsS72.drewN | apply IsS72.drew | apply IsS72.set_1 | refine IsS72.far ?_ NB0_205.out _ | refine IsS72.far ?_ NB0_221.out _) | exact HI0.out)) (rN HO_222000.out) (by decide)) hk (fun _ h => h.2)) (fun _ h => h.1))
     have n1_ := m_ (Kd.R_mono (Kd.R_keep (IsS72.apart (show IsS72 w0 _ g s0_0 t223 from by repeat (first | (with_reducible first | exact HI0.out | apply IsS72.alloc | apply IsS72.drewN | apply IsS72.drew | apply IsS72.set_1 | refine IsS72.far ?_ NB0_205.out _ | refine IsS72.far ?_ NB0_221.out _) | exact HI0.out)) (rN HO_222001.out) (by decide)) hk (fun _ h => h.2)) (fun _ h => h.1))
     have n2_ := m_ (Kd.R_mono (Kd.R_keep (IsS72.apart (show IsS72 w0 _ g s0_0 t223 from by repeat (first | (with_reducible first | exact HI0.out | apply IsS72.alloc | apply IsS72.drewN | apply IsS72.drew | apply IsS72.set_1 | refine IsS72.far ?_ NB0_205.out _ | refine IsS72.far ?_ NB0_221.out _) | exact HI0.out)) (rN HO_222004.out) (by decide)) hk (fun _ h => h.2)) (fun _ h => h.1))
     have n3_ := m_ (KeepBut.blk hk (g' := gb205) (o := .cells #[.slice none 0 0, .slice none 0 0, .int .i64 0, .bool false, .slice none 0 0] 33 (0, 0)) (kN BK205.out) NB205_0.out (by simp))
     have n4_ := m_ (KeepBut.blk hk (g' := gb221) (o := .cells #[.slice Ao9 t210.length co9, .slice Ao24 x222001_1.length co24, .int .i64 t216, .bool t217, u222004] 33 (0, 0)) (kN BK221.out) NB221_0.out (by simp))
     have n5_ := m_ (KeepBut.trans (by repeat (first | (with_reducible first | exact HK.out | apply KeepBut.set_ | apply keep_drewN | apply keep_drew | apply keep_alloc | refine keep_far ?_ GW205.out _ | refine keep_far ?_ GW221.out _) | exact HK.out)) hk (.inl rfl))
     have n6_ := m_ (hb)
     have n7_ := m_ (hi)
     clear HO_222000
     clear HO_222001
     clear HO_222004
     clear BK205
     clear BK221
     clear HK
     clear HB
     clear HI0
     have HO_222000 := n0_
     have HO_222001 := n1_
     have HO_222004 := n2_
     have BK205 := n3_
     have BK221 := n4_
     have HK := n5_
     have HB := n6_
     have HI0 := n7_
     clear n0_ n1_ n2_ n3_ n4_ n5_ n6_ n7_
     (try clear hb)
     (try clear hb2)
     (try clear hk)
     (try clear hi)
     refine hK.out _ _ ⟨(blk_cell BK221.out 0).trans rfl, (blk_cell BK221.out 1).trans rfl, (blk_cell BK221.out 2).trans rfl, (blk_cell BK221.out 3).trans rfl, (blk_cell BK221.out 4).trans rfl⟩ (fun hHeld => ?_)
     clear hK K
     refine norm_ (a' := ?_) ?_ ?_
     rotate_left
     ·show Act.put _ (some 23) _ = _
      simp only [Act.put, List.setIfInBounds_toArray, List.set_cons_zero, List.set_cons_succ, i64_w, i32_w]
      rfl
     refine one_ (i := 8) (N := some 24) #[true, true, true, true, true, true, true, true, true, false, false, false] rfl rfl (one_of HT_.out (by kernel_rfl)) (by decide) (fun K hK => ?_)
     refine Kd.R_lit_step (Kd.int .i64) _ 3 ?hg (N := 24) ?hd (xs := ([0, t222, 9999, t224] : List Int)) (inner := [.int .i64 0, .int .i64 t222, .int .i64 9999, .int .i64 t224]) (ok := fun _ => True) (okp := fun _ => True) ?hr ?hp (fun _ hk => hk) trivial (Below.refl _ _) (Nat.le_refl _) (by simp) ?_; (case hd => rfl); (case hg => rfl); (case hr => first | (go_simp; done) | (go_simp; rfl)); (case hp => exact (Reps.one (show Kd.M (Kd.int .i64) _ _ _ 0 [.int .i64 0] from rfl) (Reps.one (show Kd.M (Kd.int .i64) _ _ _ t222 [.int .i64 t222] from rfl) (Reps.one (show Kd.M (Kd.int .i64) _ _ _ 9999 [.int .i64 9999] from rfl) (Reps.one (show Kd.M (Kd.int .i64) _ _ _ t224 [.int .i64 t224] from rfl) (Reps.none _ _))))))
     intro v227 w28 ho29 hb hg_ hnew_
     clear hg_ hnew_
     (first | rw [← Ny226.out] at ho29 | (simp only [Int.reduceToNat] at ho29; rw [← Ny226.out] at ho29))
     have n0_ := m_ (Kd.R_below (rN HO_222000.out) hb)
     have n1_ := m_ (Kd.R_elder' (rN HO_222001.out) (Kd.R_base ho29) hb)
     have n2_ := m_ (Kd.R_elder' (rN HO_222004.out) (Kd.R_base ho29) hb)
     have n3_ := m_ (Kd.R_lower (Kd.R_new' (Kd.R_new' ho29 (Kd.R_lt (rN HO_222001.out))) (Kd.R_lt (rN HO_222004.out))) (keep_size (w := w) (g := g) (row := none) (by repeat (first | (with_reducible first | exact HK.out | apply KeepBut.set_ | apply keep_drewN | apply keep_drew | apply keep_alloc | refine keep_far ?_ GW205.out _ | refine keep_far ?_ GW221.out _) | exact HK.out))))
     have n4_ := m_ (blk_below (kN BK205.out) hb)
     have n5_ := m_ (blk_below (kN BK221.out) hb)
     have n6_ := m_ (IsS72.below (by repeat (first | (with_reducible first | exact HI0.out | apply IsS72.alloc | apply IsS72.drewN | apply IsS72.drew | apply IsS72.set_1 | refine IsS72.far ?_ NB0_205.out _ | refine IsS72.far ?_ NB0_221.out _) | exact HI0.out)) hb)
     have n7_ := m_ (KeepBut.trans (by repeat (first | (with_reducible first | exact HK.out | apply KeepBut.set_ | apply keep_drewN | apply keep_drew | apply keep_alloc | refine keep_far ?_ GW205.out _ | refine keep_far ?_ GW221.out _) | exact HK.out)) (KeepBut.of_below hb g none) (.inl rfl))
     have n8_ := m_ (below_step (by repeat (first | (with_reducible first | exact HB.out | apply below_alloc | apply pw_below_drewN | apply below_drew1 | refine below_set ?_ (IsS72.ge HI0.out) | refine below_set ?_ GE205.out | refine below_set ?_ GE221.out) | exact HB.out)) hb)
     clear HO_222000
     clear HO_222001
     clear HO_222004
     clear BK205
     clear BK221
     clear HI0
     clear HK
     clear HB
     have HO_222000 := n0_
     have HO_222001 := n1_
     have HO_222004 := n2_
     have HO228 := n3_
     have BK205 := n4_
     have BK221 := n5_
     have HI0 := n6_
     have HK := n7_
     have HB := n8_
     clear n0_ n1_ n2_ n3_ n4_ n5_ n6_ n7_ n8_
     clear hb ho29
     obtain ⟨Ao30, co30, eo30⟩ := Kd.R_slice HO228.out
     (first | subst eo30 | (injection eo30 with f1_ f2_ f3_; have f4_ := f1_.symm; have f5_ := f3_.symm; clear f1_ f2_ f3_; subst f4_; subst f5_))
     refine hK.out _ _ ⟨(blk_cell BK221.out 0).trans rfl, (blk_cell BK221.out 1).trans rfl, (blk_cell BK221.out 2).trans rfl, (blk_cell BK221.out 3).trans rfl, (blk_cell BK221.out 4).trans rfl⟩ (fun hHeld => ?_)
     clear hK K
     refine norm_ (a' := ?_) ?_ ?_
     rotate_left
     ·show Act.put _ (some 24) _ = _
      simp only [Act.put, List.setIfInBounds_toArray, List.set_cons_zero, List.set_cons_succ, i64_w, i32_w]
      rfl
     refine one_ (i := 9) (N := some 25) #[true, true, true, true, true, true, true, true, true, true, false, false] rfl rfl (one_of HT_.out (by kernel_rfl)) (by decide) (fun K hK => ?_)
     refine goes_ Try.func49 (by kernel_rfl) rfl #[.pointer (some ⟨g, 0, none⟩), .slice Ao30 y226.length co30] (by rfl) rfl rfl gl_ ?_
     with_reducible refine (spec_l1Rd_one.calls k1 g s0_0 t225 _ _ y226 t229 t230 w0 _ ?side1 ?side2 ?side3 ?side4 ?side5 A18.out).mono ?_
     (case side1 => repeat (first | (with_reducible first | exact HI0.out | apply IsS72.alloc | apply IsS72.drewN | apply IsS72.drew | apply IsS72.set_1 | refine IsS72.far ?_ NB0_205.out _ | refine IsS72.far ?_ NB0_221.out _) | exact HI0.out))
     (case side2 => repeat (first | (with_reducible first | exact HB.out | apply below_alloc | apply pw_below_drewN | apply below_drew1 | refine below_set ?_ (IsS72.ge HI0.out) | refine below_set ?_ GE205.out | refine below_set ?_ GE221.out) | exact HB.out))
     (case side3 => exact cN (Kd.R_reads' HO228.out).2.2)
     (case side4 => exact (Kd.R_reads' HO228.out).2.1)
     (case side5 => exact far_slice (IsS72.own_ne HI0.out HO228.out (by decide)))
     rintro e w31 ⟨rfl, hi, hb, hk⟩
     refine ⟨_, rfl, ?_⟩
     have n0_ := m_ (Kd.R_mono (Kd.R_keep (IsS72.apart (show IsS72 w0 _ g s0_0 t225 from by repeat (first | (with_reducible first | exact HI0.out | apply IsS72.alloc | apply IsS72.drewN | apply IsS72.drew | apply IsS72.set_1 | refine IsS72.far ?_ NB0_205.out _ | refine IsS72.far ?_ NB0_221.out _) | exact HI0.out)) (rN HO_222000.out) (by decide)) hk (fun _ h => h.2)) (fun _ h => h.1))
     have n1_ := m_ (Kd.R_mono (Kd.R_keep (IsS72.apart (show IsS72 w0 _ g s0_0 t225 from by repeat (first | (with_reducible first | exact HI0.out | apply IsS72.alloc | apply IsS72.drewN | apply IsS72.drew | apply IsS72.set_1 | refine IsS72.far ?_ NB0_205.out _ | refine IsS72.far ?_ NB0_221.out _) | exact HI0.out)) (rN HO_222001.out) (by decide)) hk (fun _ h => h.2)) (fun _ h => h.1))
     have n2_ := m_ (Kd.R_mono (Kd.R_keep (IsS72.apart (show IsS72 w0 _ g s0_0 t225 from by repeat (first | (with_reducible first | exact HI0.out | apply IsS72.alloc | apply IsS72.drewN | apply IsS72.drew | apply IsS72.set_1 | refine IsS72.far ?_ NB0_205.out _ | refine IsS72.far ?_ NB0_221.out _) | exact HI0.out)) (rN HO_222004.out) (by decide)) hk (fun _ h => h.2)) (fun _ h => h.1))
     have n3_ := m_ (KeepBut.blk hk (g' := gb205) (o := .cells #[.slice none 0 0, .slice none 0 0, .int .i64 0, .bool false, .slice none 0 0] 33 (0, 0)) (kN BK205.out) NB205_0.out (by simp))
     have n4_ := m_ (KeepBut.blk hk (g' := gb221) (o := .cells #[.slice Ao9 t210.length co9, .slice Ao24 x222001_1.length co24, .int .i64 t216, .bool t217, u222004] 33 (0, 0)) (kN BK221.out) NB221_0.out (by simp))
     have n5_ := m_ (Kd.R_mono (Kd.R_keep (IsS72.apart (show IsS72 w0 _ g s0_0 t225 from by repeat (first | (with_reducible first | exact HI0.out | apply IsS72.alloc | apply IsS72.drewN | apply IsS72.drew | apply IsS72.set_1 | refine IsS72.far ?_ NB0_205.out _ | refine IsS72.far ?_ NB0_221.out _) | exact HI0.out)) (rN HO228.out) (by decide)) hk (fun _ h => h.2)) (fun _ h => h.1))
     have n6_ := m_ (KeepBut.trans (by repeat (first | (with_reducible first | exact HK.out | apply KeepBut.set_ | apply keep_drewN | apply keep_drew | apply keep_alloc | refine keep_far ?_ GW205.out _ | refine keep_far ?_ GW221.out _) | exact HK.out)) hk (.inl rfl))
     have n7_ := m_ (hb)
     have n8_ := m_ (hi)
     clear HO_222000
     clear HO_222001
     clear HO_222004
     clear BK205
     clear BK221
     clear HO228
     clear HK
     clear HB
     clear HI0
     have HO_222000 := n0_
     have HO_222001 := n1_
     have HO_222004 := n2_
     have BK205 := n3_
     have BK221 := n4_
     have HO228 := n5_
     have HK := n6_
     have HB := n7_
     have HI0 := n8_
     clear n0_ n1_ n2_ n3_ n4_ n5_ n6_ n7_ n8_
     (try clear hb)
     (try clear hb2)
     (try clear hk)
     (try clear hi)
     have p20 : 0 ≤ (x4_1 : Int) := of_decide_eq_true (by first | (with_reducible assumption) | assumption)
     have q20 : (x4_1 : Int) < ((x222001_1.length : Int) : Int) := of_decide_eq_true (by first | (with_reducible assumption) | assumption)
     obtain ⟨go20, co20, eo20, gb20, gl20, cl20, HG20⟩ := Kd.R_form HO_222001.out (by omega)
     (first | cases eo20 | (injection eo20 with ea_ en_ ec_; (first | subst ea_ | (injection ea_ with ea_; subst ea_)); subst ec_; clear en_))
     have GB20 := Aside0.mk gb20
     have GG20 := Aside0.mk HG20
     clear gb20 gl20 HG20
     obtain ⟨hx20_0, hf20_0⟩ := Kd.R_celln 0 HO_222001.out (x4_1 : Int) p20 q20
     replace p20 := eq_true p20
     replace q20 := eq_true q20
     have HN0_go20 := m_ (show g ≠ go20 from by have h_ := IsS72.own_ne HI0.out HO_222001.out (by decide); intro e_; exact h_ (by rw [e_]; rfl))
     have HP32 := Kd.R_putn HO_222001.out (x4_1 : Int) t229
     rw [← Ny231.out] at HP32
     have HQ32 := Aside0.mk HP32
     clear HP32
     refine hK.out _ _ ⟨(blk_cell BK221.out 0).trans rfl, (blk_cell BK221.out 1).trans rfl, (blk_cell BK221.out 2).trans rfl, (blk_cell BK221.out 3).trans rfl, (blk_cell BK221.out 4).trans rfl⟩ (fun hHeld => ?_)
     clear hK K
     refine norm_ (a' := ?_) ?_ ?_
     rotate_left
     ·show Act.put _ (some 25) _ = _
      simp only [Act.put, List.setIfInBounds_toArray, List.set_cons_zero, List.set_cons_succ, i64_w, i32_w]
      rfl
     refine pu 10 26 HT_ (h := ?_)
     refine last_ (i := 11) (N := none) #[true, true, true, true, true, true, true, true, true, true, true, true] rfl rfl (one_of HT_.out (by kernel_rfl)) (by decide) (fun K hK => ?_)
     refine skip_ (w1 := ?_) (by rfl) rfl ?_ ?_
     rotate_left
     ·go_simp
      rfl
     refine hK.out _ _ ?_
     clear hK K
     refine done_ (done_of HT_.out (by kernel_rfl)) ?_
     try go_wp2
     go_roundg k1
     case measure => have := HK1.out; omega
     case rel => exact ⟨(wrap64 (x4_1 + 1)), (t230), (y231), (x222004_1), (.slice (some ⟨go20, 0, none⟩) x222001_1.length co24), (u222004), (by first | rfl | (simp; done) | (simp [*]; done)), H', ⟨by have := HK1.out; omega⟩, ⟨by (with_reducible repeat (first | apply Kd.R_alloc | apply Kd.R_drewN | apply Kd.R_drew)); exact frM (Kd.R_types HO_222000.out GG20.out (by decide))⟩, ⟨by (with_reducible repeat (first | apply Kd.R_alloc | apply Kd.R_drewN | apply Kd.R_drew)); exact Kd.R_mono HQ32.out (fun _ hk => hk.1)⟩, ⟨by (with_reducible repeat (first | apply Kd.R_alloc | apply Kd.R_drewN | apply Kd.R_drew)); exact Kd.R_mono (Kd.R_far (p := ⟨go20, (x4_1 : Int).toNat, none⟩) (Kd.R_mono HO_222004.out (fun k_ hk => (⟨hk, fun e_ => hk.1 (by rw [e_]; rfl)⟩ : _ ∧ k_ ≠ go20))) (fun _ hk => hk.2) (.int .i64 t229)) (fun _ hk => hk.1.1)⟩, ⟨by (with_reducible repeat (first | refine blk_drewN ?_ _ | refine blk_drew ?_ | refine blk_alloc ?_ _)); refine blk_far ?_ (by have h_ := Kd.R_ne HO_222001.out BK205.out (by decide); intro e_; exact h_ (by rw [e_]; rfl)) _; (with_reducible repeat (first | refine blk_drewN ?_ _ | refine blk_drew ?_ | refine blk_alloc ?_ _)); exact BK205.out⟩, ⟨by (with_reducible repeat (first | refine blk_drewN ?_ _ | refine blk_drew ?_ | refine blk_alloc ?_ _)); refine blk_far ?_ (by have h_ := Kd.R_ne HO_222001.out BK221.out (by decide); intro e_; exact h_ (by rw [e_]; rfl)) _; (with_reducible repeat (first | refine blk_drewN ?_ _ | refine blk_drew ?_ | refine blk_alloc ?_ _)); exact BK221.out⟩, ⟨by repeat (first | (with_reducible first | exact HI0.out | apply IsS72.alloc | apply IsS72.drewN | apply IsS72.drew | apply IsS72.set_1 | refine IsS72.far ?_ HN0_go20.out _ | refine IsS72.far ?_ NB0_205.out _ | refine IsS72.far ?_ NB0_221.out _) | exact HI0.out)⟩, ⟨by repeat (first | (with_reducible first | exact HK.out | apply KeepBut.set_ | apply keep_drewN | apply keep_drew | apply keep_alloc | refine keep_far ?_ GB20.out _ | refine keep_far ?_ GW205.out _ | refine keep_far ?_ GW221.out _) | exact HK.out)⟩, ⟨by repeat (first | (with_reducible first | exact HB.out | apply below_alloc | apply pw_below_drewN | apply below_drew1 | refine below_set ?_ (Nat.le_trans HL.out GB20.out) | refine below_set ?_ (IsS72.ge HI0.out) | refine below_set ?_ GE205.out | refine below_set ?_ GE221.out) | exact HB.out)⟩⟩
    ·rw [if_neg c19] at H
     exact absurd H (by simp)
   ·rw [if_neg c15] at H
    have c15b0 : decide (x4_1 < (x222001_1.length : Int)) = false := decide_eq_false c15
    clear c15
    replace H := Option.bind_eq_some_iff.mp H
    obtain ⟨⟨t232, t233⟩, A330, H⟩ := H
    replace H : ((spec_l1Rd_pick.f k1 s0_0 t233 12).bind fun bt234 => ((spec_l1Rd_pick.f k1 s0_0 bt234.2 5).bind fun bt236 => (spec_l15Part.l1 k1 bt236.1 s0_0 bt236.2 t210 x222001_1 t232 (bt234.1 == 0) x222004_1))) = some (r1, r2, r3, r4, r5, r6) := H
    have A33 := Aside0.mk A330
    clear A330
    replace H := Option.bind_eq_some_iff.mp H
    obtain ⟨⟨t234, t235⟩, A340, H⟩ := H
    replace H : ((spec_l1Rd_pick.f k1 s0_0 t235 5).bind fun bt236 => (spec_l15Part.l1 k1 bt236.1 s0_0 bt236.2 t210 x222001_1 t232 (t234 == 0) x222004_1)) = some (r1, r2, r3, r4, r5, r6) := H
    have A34 := Aside0.mk A340
    clear A340
    replace H := Option.bind_eq_some_iff.mp H
    obtain ⟨⟨t236, t237⟩, A350, H⟩ := H
    replace H : (spec_l15Part.l1 k1 t236 s0_0 t237 t210 x222001_1 t232 (t234 == 0) x222004_1) = some (r1, r2, r3, r4, r5, r6) := H
    have A35 := Aside0.mk A350
    clear A350
    have H' := Aside0.mk H
    clear H
    have hnb36 := NB221_205.out
    have hnc36 := NB205_221.out
    have hnb37 := NB221_0.out
    have hnc37 := NB0_221.out
    have hcz38_0 : wr.cell? ⟨gb221, 0, none⟩ = some (.slice Ao9 t210.length co9) := (blk_cell BK221.out 0).trans rfl
    have hcz38_1 : wr.cell? ⟨gb221, 1, none⟩ = some (u222001) := (blk_cell BK221.out 1).trans rfl
    have hcz38_2 : wr.cell? ⟨gb221, 2, none⟩ = some (.int .i64 t216) := (blk_cell BK221.out 2).trans rfl
    have hcz38_3 : wr.cell? ⟨gb221, 3, none⟩ = some (.bool t217) := (blk_cell BK221.out 3).trans rfl
    have hcz38_4 : wr.cell? ⟨gb221, 4, none⟩ = some (u222004) := (blk_cell BK221.out 4).trans rfl
    have hfz38_0 := blk_frozen BK221.out 0
    have hfz38_1 := blk_frozen BK221.out 1
    have hfz38_2 := blk_frozen BK221.out 2
    have hfz38_3 := blk_frozen BK221.out 3
    have hfz38_4 := blk_frozen BK221.out 4
    obtain ⟨Ao39, co39, eo39⟩ := Kd.R_slice HO_222001.out
    subst eo39
    go_wp2_with (first | ((with_reducible refine gate_callee (f := 50) rfl ?_); refine goesL_ (some 31) rfl rfl Try.func50 (by kernel_rfl) rfl #[.pointer (some ⟨g, 0, none⟩), .int .i64 (t210.length : Int)] rfl gl_ ?_; (with_reducible refine (spec_l1Rd_pick.calls k1 g s0_0 x1001_1 (t210.length : Int) t232 t233 w0 _ ?side1 ?side2 A33.out).mono ?_); (case side1 => repeat (first | (with_reducible first | exact HI0.out | apply IsS72.alloc | apply IsS72.drewN | apply IsS72.drew | apply IsS72.set_1 | refine IsS72.far ?_ NB0_205.out _ | refine IsS72.far ?_ NB0_221.out _) | exact HI0.out)); (case side2 => repeat (first | (with_reducible first | exact HB.out | apply below_alloc | apply pw_below_drewN | apply below_drew1 | refine below_set ?_ (IsS72.ge HI0.out) | refine below_set ?_ GE205.out | refine below_set ?_ GE221.out) | exact HB.out)); rintro e w40 ⟨rfl, hi, hb, hk⟩; refine ⟨_, rfl, ?_⟩; have n0_ := m_ (Kd.R_mono (Kd.R_keep (IsS72.apart (show IsS72 w0 _ g s0_0 x1001_1 from by repeat (first | (with_reducible first | exact HI0.out | apply IsS72.alloc | apply IsS72.drewN | apply IsS72.drew | apply IsS72.set_1 | refine IsS72.far ?_ NB0_205.out _ | refine IsS72.far ?_ NB0_221.out _) | exact HI0.out)) (rN HO_222000.out) (by decide)) hk (fun _ h => h.2)) (fun _ h => h.1)); have n1_ := m_ (Kd.R_mono (Kd.R_keep (IsS72.apart (show IsS72 w0 _ g s0_0 x1001_1 from by repeat (first | (with_reducible first | exact HI0.out | apply IsS72.alloc | apply IsS72.drewN | apply IsS72.drew | apply IsS72.set_1 | refine IsS72.far ?_ NB0_205.out _ | refine IsS72.far ?_ NB0_221.out _) | exact HI0.out)) (rN HO_222001.out) (by decide)) hk (fun _ h => h.2)) (fun _ h => h.1)); have n2_ := m_ (Kd.R_mono (Kd.R_keep (IsS72.apart (show IsS72 w0 _ g s0_0 x1001_1 from by repeat (first | (with_reducible first | exact HI0.out | apply IsS72.alloc | apply IsS72.drewN | apply IsS72.drew | apply IsS72.set_1 | refine IsS72.far ?_ NB0_205.out _ | refine IsS72.far ?_ NB0_221.out _) | exact HI0.out)) (rN HO_222004.out) (by decide)) hk (fun _ h => h.2)) (fun _ h => h.1)); have n3_ := m_ (KeepBut.blk hk (g' := gb205) (o := .cells #[.slice none 0 0, .slice none 0 0, .int .i64 0, .bool false, .slice none 0 0] 33 (0, 0)) (kN BK205.out) NB205_0.out (by simp)); have n4_ := m_ (KeepBut.blk hk (g' := gb221) (o := .cells #[.slice Ao9 t210.length co9, .slice Ao39 x222001_1.length co39, .int .i64 t216, .bool t217, u222004] 33 (0, 0)) (kN BK221.out) NB221_0.out (by simp)); have n5_ := m_ (KeepBut.trans (by repeat (first | (with_reducible first | exact HK.out | apply KeepBut.set_ | apply keep_drewN | apply keep_drew | apply keep_alloc | refine keep_far ?_ GW205.out _ | refine keep_far ?_ GW221.out _) | exact HK.out)) hk (.inl rfl)); have n6_ := m_ (hb); have n7_ := m_ (hi); clear HO_222000; clear HO_222001; clear HO_222004; clear BK205; clear BK221; clear HK; clear HB; clear HI0; have HO_222000 := n0_; have HO_222001 := n1_; have HO_222004 := n2_; have BK205 := n3_; have BK221 := n4_; have HK := n5_; have HB := n6_; have HI0 := n7_; clear n0_ n1_ n2_ n3_ n4_ n5_ n6_ n7_; (try clear hb); (try clear hb2); (try clear hk); (try clear hi); have hcz41_0 : w40.cell? ⟨gb221, 0, none⟩ = some (.slice Ao9 t210.length co9) := (blk_cell BK221.out 0).trans rfl; have hcz41_1 : w40.cell? ⟨gb221, 1, none⟩ = some (.slice Ao39 x222001_1.length co39) := (blk_cell BK221.out 1).trans rfl; have hcz41_2 : w40.cell? ⟨gb221, 2, none⟩ = some (.int .i64 t216) := (blk_cell BK221.out 2).trans rfl; have hcz41_3 : w40.cell? ⟨gb221, 3, none⟩ = some (.bool t217) := (blk_cell BK221.out 3).trans rfl; have hcz41_4 : w40.cell? ⟨gb221, 4, none⟩ = some (u222004) := (blk_cell BK221.out 4).trans rfl; have hfz41_0 := blk_frozen BK221.out 0; have hfz41_1 := blk_frozen BK221.out 1; have hfz41_2 := blk_frozen BK221.out 2; have hfz41_3 := blk_frozen BK221.out 3; have hfz41_4 := blk_frozen BK221.out 4) | ((with_reducible refine gate_callee (f := 50) rfl ?_); refine goesL_ (some 34) rfl rfl Try.func50 (by kernel_rfl) rfl #[.pointer (some ⟨g, 0, none⟩), .int .i64 12] rfl gl_ ?_; (with_reducible refine (spec_l1Rd_pick.calls k1 g s0_0 t233 12 t234 t235 w0 _ ?side1 ?side2 A34.out).mono ?_); (case side1 => repeat (first | (with_reducible first | exact HI0.out | apply IsS72.alloc | apply IsS72.drewN | apply IsS72.drew | apply IsS72.set_1 | refine IsS72.far ?_ NB0_205.out _ | refine IsS72.far ?_ NB0_221.out _) | exact HI0.out)); (case side2 => repeat (first | (with_reducible first | exact HB.out | apply below_alloc | apply pw_below_drewN | apply below_drew1 | refine below_set ?_ (IsS72.ge HI0.out) | refine below_set ?_ GE205.out | refine below_set ?_ GE221.out) | exact HB.out)); rintro e w42 ⟨rfl, hi, hb, hk⟩; refine ⟨_, rfl, ?_⟩; have n0_ := m_ (Kd.R_mono (Kd.R_keep (IsS72.apart (show IsS72 w0 _ g s0_0 t233 from by repeat (first | (with_reducible first | exact HI0.out | apply IsS72.alloc | apply IsS72.drewN | apply IsS72.drew | apply IsS72.set_1 | refine IsS72.far ?_ NB0_205.out _ | refine IsS72.far ?_ NB0_221.out _) | exact HI0.out)) (frN (Kd.R_types HO_222000.out BK221.out (by decide))) (by decide)) hk (fun _ h => h.2)) (fun _ h => h.1)); have n1_ := m_ (Kd.R_mono (Kd.R_keep (IsS72.apart (show IsS72 w0 _ g s0_0 t233 from by repeat (first | (with_reducible first | exact HI0.out | apply IsS72.alloc | apply IsS72.drewN | apply IsS72.drew | apply IsS72.set_1 | refine IsS72.far ?_ NB0_205.out _ | refine IsS72.far ?_ NB0_221.out _) | exact HI0.out)) (frN (Kd.R_types HO_222001.out BK221.out (by decide))) (by decide)) hk (fun _ h => h.2)) (fun _ h => h.1)); have n2_ := m_ (Kd.R_mono (Kd.R_keep (IsS72.apart (show IsS72 w0 _ g s0_0 t233 from by repeat (first | (with_reducible first | exact HI0.out | apply IsS72.alloc | apply IsS72.drewN | apply IsS72.drew | apply IsS72.set_1 | refine IsS72.far ?_ NB0_205.out _ | refine IsS72.far ?_ NB0_221.out _) | exact HI0.out)) (frN (Kd.R_types HO_222004.out BK221.out (by decide))) (by decide)) hk (fun _ h => h.2)) (fun _ h => h.1)); have n3_ := m_ (KeepBut.blk hk (g' := gb205) (o := .cells #[.slice none 0 0, .slice none 0 0, .int .i64 0, .bool false, .slice none 0 0] 33 (0, 0)) (kF BK205.out NB205_221.out) NB205_0.out (by simp)); have n4_ := m_ (KeepBut.blk hk (g' := gb221) (o := .cells #[.slice Ao9 t210.length co9, .slice Ao39 x222001_1.length co39, .int .i64 t232, .bool t217, u222004] 33 (0, 0)) (by (with_reducible repeat (first | refine blk_drewN ?_ _ | refine blk_drew ?_ | refine blk_alloc ?_ _)); refine blk_put (cs := #[.slice Ao9 t210.length co9, .slice Ao39 x222001_1.length co39, .int .i64 t216, .bool t217, u222004]) ?_ 2 _ rfl; (with_reducible repeat (first | refine blk_drewN ?_ _ | refine blk_drew ?_ | refine blk_alloc ?_ _)); exact BK221.out) NB221_0.out (by simp)); have n5_ := m_ (KeepBut.trans (by repeat (first | (with_reducible first | exact HK.out | apply KeepBut.set_ | apply keep_drewN | apply keep_drew | apply keep_alloc | refine keep_far ?_ GW205.out _ | refine keep_far ?_ GW221.out _) | exact HK.out)) hk (.inl rfl)); have n6_ := m_ (hb); have n7_ := m_ (hi); clear HO_222000; clear HO_222001; clear HO_222004; clear BK205; clear BK221; clear HK; clear HB; clear HI0; have HO_222000 := n0_; have HO_222001 := n1_; have HO_222004 := n2_; have BK205 := n3_; have BK221 := n4_; have HK := n5_; have HB := n6_; have HI0 := n7_; clear n0_ n1_ n2_ n3_ n4_ n5_ n6_ n7_; (try clear hb); (try clear hb2); (try clear hk); (try clear hi); have hcz43_0 : w42.cell? ⟨gb221, 0, none⟩ = some (.slice Ao9 t210.length co9) := (blk_cell BK221.out 0).trans rfl; have hcz43_1 : w42.cell? ⟨gb221, 1, none⟩ = some (.slice Ao39 x222001_1.length co39) := (blk_cell BK221.out 1).trans rfl; have hcz43_2 : w42.cell? ⟨gb221, 2, none⟩ = some (.int .i64 t232) := (blk_cell BK221.out 2).trans rfl; have hcz43_3 : w42.cell? ⟨gb221, 3, none⟩ = some (.bool t217) := (blk_cell BK221.out 3).trans rfl; have hcz43_4 : w42.cell? ⟨gb221, 4, none⟩ = some (u222004) := (blk_cell BK221.out 4).trans rfl; have hfz43_0 := blk_frozen BK221.out 0; have hfz43_1 := blk_frozen BK221.out 1; have hfz43_2 := blk_frozen BK221.out 2; have hfz43_3 := blk_frozen BK221.out 3; have hfz43_4 := blk_frozen BK221.out 4) | ((with_reducible refine gate_callee (f := 50) rfl ?_); refine goesL_ (some 38) rfl rfl Try.func50 (by kernel_rfl) rfl #[.pointer (some ⟨g, 0, none⟩), .int .i64 5] rfl gl_ ?_; (with_reducible refine (spec_l1Rd_pick.calls k1 g s0_0 t235 5 t236 t237 w0 _ ?side1 ?side2 A35.out).mono ?_); (case side1 => repeat (first | (with_reducible first | exact HI0.out | apply IsS72.alloc | apply IsS72.drewN | apply IsS72.drew | apply IsS72.set_1 | refine IsS72.far ?_ NB0_205.out _ | refine IsS72.far ?_ NB0_221.out _) | exact HI0.out)); (case side2 => repeat (first | (with_reducible first | exact HB.out | apply below_alloc | apply pw_below_drewN | apply below_drew1 | refine below_set ?_ (IsS72.ge HI0.out) | refine below_set ?_ GE205.out | refine below_set ?_ GE221.out) | exact HB.out)); rintro e w44 ⟨rfl, hi, hb, hk⟩; refine ⟨_, rfl, ?_⟩; have n0_ := m_ (Kd.R_mono (Kd.R_keep (IsS72.apart (show IsS72 w0 _ g s0_0 t235 from by repeat (first | (with_reducible first | exact HI0.out | apply IsS72.alloc | apply IsS72.drewN | apply IsS72.drew | apply IsS72.set_1 | refine IsS72.far ?_ NB0_205.out _ | refine IsS72.far ?_ NB0_221.out _) | exact HI0.out)) (frN (Kd.R_types HO_222000.out BK221.out (by decide))) (by decide)) hk (fun _ h => h.2)) (fun _ h => h.1)); have n1_ := m_ (Kd.R_mono (Kd.R_keep (IsS72.apart (show IsS72 w0 _ g s0_0 t235 from by repeat (first | (with_reducible first | exact HI0.out | apply IsS72.alloc | apply IsS72.drewN | apply IsS72.drew | apply IsS72.set_1 | refine IsS72.far ?_ NB0_205.out _ | refine IsS72.far ?_ NB0_221.out _) | exact HI0.out)) (frN (Kd.R_types HO_222001.out BK221.out (by decide))) (by decide)) hk (fun _ h => h.2)) (fun _ h => h.1)); have n2_ := m_ (Kd.R_mono (Kd.R_keep (IsS72.apart (show IsS72 w0 _ g s0_0 t235 from by repeat (first | (with_reducible first | exact HI0.out | apply IsS72.alloc | apply IsS72.drewN | apply IsS72.drew | apply IsS72.set_1 | refine IsS72.far ?_ NB0_205.out _ | refine IsS72.far ?_ NB0_221.out _) | exact HI0.out)) (frN (Kd.R_types HO_222004.out BK221.out (by decide))) (by decide)) hk (fun _ h => h.2)) (fun _ h => h.1)); have n3_ := m_ (KeepBut.blk hk (g' := gb205) (o := .cells #[.slice none 0 0, .slice none 0 0, .int .i64 0, .bool false, .slice none 0 0] 33 (0, 0)) (kF BK205.out NB205_221.out) NB205_0.out (by simp)); have n4_ := m_ (KeepBut.blk hk (g' := gb221) (o := .cells #[.slice Ao9 t210.length co9, .slice Ao39 x222001_1.length co39, .int .i64 t232, .bool (t234 == 0), u222004] 33 (0, 0)) (by (with_reducible repeat (first | refine blk_drewN ?_ _ | refine blk_drew ?_ | refine blk_alloc ?_ _)); refine blk_put (cs := #[.slice Ao9 t210.length co9, .slice Ao39 x222001_1.length co39, .int .i64 t232, .bool t217, u222004]) ?_ 3 _ rfl; (with_reducible repeat (first | refine blk_drewN ?_ _ | refine blk_drew ?_ | refine blk_alloc ?_ _)); exact BK221.out) NB221_0.out (by simp)); have n5_ := m_ (KeepBut.trans (by repeat (first | (with_reducible first | exact HK.out | apply KeepBut.set_ | apply keep_drewN | apply keep_drew | apply keep_alloc | refine keep_far ?_ GW205.out _ | refine keep_far ?_ GW221.out _) | exact HK.out)) hk (.inl rfl)); have n6_ := m_ (hb); have n7_ := m_ (hi); clear HO_222000; clear HO_222001; clear HO_222004; clear BK205; clear BK221; clear HK; clear HB; clear HI0; have HO_222000 := n0_; have HO_222001 := n1_; have HO_222004 := n2_; have BK205 := n3_; have BK221 := n4_; have HK := n5_; have HB := n6_; have HI0 := n7_; clear n0_ n1_ n2_ n3_ n4_ n5_ n6_ n7_; (try clear hb); (try clear hb2); (try clear hk); (try clear hi)))
    go_loopg [5] k1 (fun kq v5 w' => ∃ (x5_2 : Int) (x1001_2 : Int) (x222004_2 : List Int) (u222004 : Value), v5 = .int .i64 x5_2 ∧ Aside0 (spec_l15Part.l1 kq x5_2 s0_0 x1001_2 t210 x222001_1 t232 (t234 == 0) x222004_2 = some (r1, r2, r3, r4, r5, r6)) ∧ Aside0 (kq ≤ k1) ∧ Aside0 (Kd.R k53 53 w' w.heap.size (fun _ => True) (.slice Ao9 t210.length co9) t210) ∧ Aside0 (Kd.R (Kd.int .i64) 3 w' w.heap.size (fun k_ => some k_ ≠ (u222004 : Value).ownBlock) (.slice Ao39 x222001_1.length co39) x222001_1) ∧ Aside0 (Kd.R (Kd.int .i64) 3 w' w.heap.size (fun k_ => some k_ ≠ ((.slice Ao39 x222001_1.length co39) : Value).ownBlock) u222004 x222004_2) ∧ Aside0 (w'.heap[gb205]? = some (.cells #[(.slice none 0 0), (.slice none 0 0), .int .i64 0, .bool false, (.slice none 0 0)] 33 (0, 0))) ∧ Aside0 (w'.heap[gb221]? = some (.cells #[(.slice Ao9 t210.length co9), (.slice Ao39 x222001_1.length co39), .int .i64 t232, .bool (t234 == 0), u222004] 33 (0, 0))) ∧ Aside0 (IsS72 w0 w' g s0_0 x1001_2) ∧ Aside0 (KeepBut w w' g none) ∧ Aside0 (Below w0.heap.size w0 w'))
    case atStart => exact ⟨(t236), (t237), (x222004_1), (u222004), (by first | rfl | (simp; done) | (simp [*]; done)), H', ⟨Nat.le_refl _⟩, ⟨by (with_reducible repeat (first | apply Kd.R_alloc | apply Kd.R_drewN | apply Kd.R_drew)); exact HO_222000.out⟩, ⟨by (with_reducible repeat (first | apply Kd.R_alloc | apply Kd.R_drewN | apply Kd.R_drew)); exact HO_222001.out⟩, ⟨by (with_reducible repeat (first | apply Kd.R_alloc | apply Kd.R_drewN | apply Kd.R_drew)); exact HO_222004.out⟩, ⟨by (with_reducible repeat (first | refine blk_drewN ?_ _ | refine blk_drew ?_ | refine blk_alloc ?_ _)); exact BK205.out⟩, ⟨by (with_reducible repeat (first | refine blk_drewN ?_ _ | refine blk_drew ?_ | refine blk_alloc ?_ _)); exact BK221.out⟩, ⟨by repeat (first | (with_reducible first | exact HI0.out | apply IsS72.alloc | apply IsS72.drewN | apply IsS72.drew | apply IsS72.set_1 | refine IsS72.far ?_ NB0_205.out _ | refine IsS72.far ?_ NB0_221.out _) | exact HI0.out)⟩, ⟨by repeat (first | (with_reducible first | exact HK.out | apply KeepBut.set_ | apply keep_drewN | apply keep_drew | apply keep_alloc | refine keep_far ?_ GW205.out _ | refine keep_far ?_ GW221.out _) | exact HK.out)⟩, ⟨by repeat (first | (with_reducible first | exact HB.out | apply below_alloc | apply pw_below_drewN | apply below_drew1 | refine below_set ?_ (IsS72.ge HI0.out) | refine below_set ?_ GE205.out | refine below_set ?_ GE221.out) | exact HB.out)⟩⟩
    case round =>
     clear H'
     try clear c1
     try clear c2
     try clear p2
     try clear q2
     try clear hx2
     try clear hf2
     try clear c3
     try clear c4
     try clear c5
     try clear p6
     try clear c10
     try clear c11
     try clear c15
     try clear c15b0
     try clear c17
     try clear c19
     try clear c19b0
     try clear p20
     try clear q20
     try clear hx20
     try clear hf20
     try clear c21
     try clear c22
     try clear c36
     try clear c37
     try clear hcz12_0
     try clear hcz12_1
     try clear hcz12_2
     try clear hcz12_3
     try clear hcz12_4
     try clear hcz23_0
     try clear hcz23_1
     try clear hcz23_2
     try clear hcz23_3
     try clear hcz23_4
     try clear hcz38_0
     try clear hcz38_1
     try clear hcz38_2
     try clear hcz38_3
     try clear hcz38_4
     try clear hcz41_0
     try clear hcz41_1
     try clear hcz41_2
     try clear hcz41_3
     try clear hcz41_4
     try clear hcz43_0
     try clear hcz43_1
     try clear hcz43_2
     try clear hcz43_3
     try clear hcz43_4
     try clear hfz12_0
     try clear hfz12_1
     try clear hfz12_2
     try clear hfz12_3
     try clear hfz12_4
     try clear hfz23_0
     try clear hfz23_1
     try clear hfz23_2
     try clear hfz23_3
     try clear hfz23_4
     try clear hfz38_0
     try clear hfz38_1
     try clear hfz38_2
     try clear hfz38_3
     try clear hfz38_4
     try clear hfz41_0
     try clear hfz41_1
     try clear hfz41_2
     try clear hfz41_3
     try clear hfz41_4
     try clear hfz43_0
     try clear hfz43_1
     try clear hfz43_2
     try clear hfz43_3
     try clear hfz43_4
     try clear hx20_0
     try clear p2
     try clear p20
     try clear q20
     obtain ⟨x5_2, x1001_2, x222004_2, u222004, rfl, HA, HK2, HO_222000, HO_222001, HO_222004, BK205, BK221, HI0, HK, HB⟩ := hrel
     cases gk with
     | zero => exact absurd HA.out (by simp [spec_l15Part.l1])
     | succ k2 =>
      have H := HA.out
      clear HA
      simp only [spec_l15Part.l1] at H
      by_cases c45 : x5_2 > 0
      ·rw [if_pos c45] at H
       have c45b0 : decide (0 < x5_2) = true := decide_eq_true c45
       clear c45
       replace H := Option.bind_eq_some_iff.mp H
       obtain ⟨⟨t238, t239⟩, A460, H⟩ := H
       replace H : ((spec_l1Rd_one.f k2 s0_0 t239 (([t238, 9999] : List Int))).bind fun bt243 => (if x222004_2.length < 17592186044416 then (spec_l15Part.l1 k2 (wrap64 (x5_2 - 1)) s0_0 bt243.2 t210 x222001_1 t232 (t234 == 0) (x222004_2 ++ [bt243.1])) else (none))) = some (r1, r2, r3, r4, r5, r6) := H
       have A46 := Aside0.mk A460
       clear A460
       obtain ⟨y240, hy240⟩ : ∃ y_ : List Int, y_ = (([t238, 9999] : List Int)) := ⟨_, rfl⟩
       replace H : ((spec_l1Rd_one.f k2 s0_0 t239 y240).bind fun bt243 => (if x222004_2.length < 17592186044416 then (spec_l15Part.l1 k2 (wrap64 (x5_2 - 1)) s0_0 bt243.2 t210 x222001_1 t232 (t234 == 0) (x222004_2 ++ [bt243.1])) else (none))) = some (r1, r2, r3, r4, r5, r6) := by first | (rw [hy240]; with_reducible exact H) | (have H2_ := (Option.bind_some _ _).symm.trans H; rw [hy240]; with_reducible exact H2_) | (have H2_ := (Option.bind_some _ _).symm.trans H; with_reducible exact H2_) | with_reducible exact H | (rw [hy240]; exact H) | exact H
       have Ny240 := Aside0.mk hy240
       clear hy240
       replace H := Option.bind_eq_some_iff.mp H
       obtain ⟨⟨t243, t244⟩, A470, H⟩ := H
       replace H : (if x222004_2.length < 17592186044416 then (spec_l15Part.l1 k2 (wrap64 (x5_2 - 1)) s0_0 t244 t210 x222001_1 t232 (t234 == 0) (x222004_2 ++ [t243])) else (none)) = some (r1, r2, r3, r4, r5, r6) := H
       have A47 := Aside0.mk A470
       clear A470
       by_cases c48 : x222004_2.length < 17592186044416
       ·rw [if_pos c48] at H
        have LMc48 := Aside0.mk c48
        clear c48
        obtain ⟨y245, hy245⟩ : ∃ y_ : List Int, y_ = (x222004_2 ++ [t243]) := ⟨_, rfl⟩
        replace H : (spec_l15Part.l1 k2 (wrap64 (x5_2 - 1)) s0_0 t244 t210 x222001_1 t232 (t234 == 0) y245) = some (r1, r2, r3, r4, r5, r6) := by first | (rw [hy245]; with_reducible exact H) | (have H2_ := (Option.bind_some _ _).symm.trans H; rw [hy245]; with_reducible exact H2_) | (have H2_ := (Option.bind_some _ _).symm.trans H; with_reducible exact H2_) | with_reducible exact H | (rw [hy245]; exact H) | exact H
        have Ny245 := Aside0.mk hy245
        clear hy245
        have H' := Aside0.mk H
        clear H
        try go_wp2
        have n0_ := m_ (Kd.R_drew HO_222000.out)
        have n1_ := m_ (Kd.R_drew HO_222001.out)
        have n2_ := m_ (Kd.R_drew HO_222004.out)
        have n3_ := m_ (blk_drew BK205.out)
        have n4_ := m_ (blk_drew BK221.out)
        have n5_ := m_ (IsS72.drew HI0.out)
        have n6_ := m_ (keep_drew HK.out)
        have n7_ := m_ (below_drew1 HB.out)
        clear HO_222000
        clear HO_222001
        clear HO_222004
        clear BK205
        clear BK221
        clear HI0
        clear HK
        clear HB
        have HO_222000 := n0_
        have HO_222001 := n1_
        have HO_222004 := n2_
        have BK205 := n3_
        have BK221 := n4_
        have HI0 := n5_
        have HK := n6_
        have HB := n7_
        clear n0_ n1_ n2_ n3_ n4_ n5_ n6_ n7_
        refine start_ (n := 11) (S := fun w' => w'.cell? ⟨gb221, 0, none⟩ = some (.slice Ao9 t210.length co9) ∧ w'.cell? ⟨gb221, 1, none⟩ = some (.slice Ao39 x222001_1.length co39) ∧ w'.cell? ⟨gb221, 2, none⟩ = some (.int .i64 t232) ∧ w'.cell? ⟨gb221, 3, none⟩ = some (.bool (t234 == 0)) ∧ w'.cell? ⟨gb221, 4, none⟩ = some (u222004)) (ds := [10]) #[false, false, false, false, false, false, false, false, false, false, false] (by kernel_rfl) rfl rfl ⟨(blk_cell BK221.out 0).trans rfl, (blk_cell BK221.out 1).trans rfl, (blk_cell BK221.out 2).trans rfl, (blk_cell BK221.out 3).trans rfl, (blk_cell BK221.out 4).trans rfl⟩ (fun hHeld => ?_); refine with_tabW spec_l15Part.tab11 spec_l15Part.bits11 (fun HT_ HW_ => ?_)
        generalize wr.drew = w49 at HO_222000 HO_222001 HO_222004 BK205 BK221 HI0 HK HB hHeld ⊢
        refine pu 0 43 HT_ (h := ?_)
        refine pu 2 45 HT_ (h := ?_)
        refine pu 3 46 HT_ (h := ?_)
        refine take_ (i := 1) (N := some 44) (v := ?_) (a' := ?_) #[true, true, true, true, false, false, false, false, false, false, false] rfl rfl (take_ofW HT_.out HW_.out (by kernel_rfl)) (fun _ _ _ h => h) (Or.inl ⟨by rfl, ?_⟩) hHeld ?_ ?_
        rotate_left
        ·rintro w' ⟨s0, s1, s2, s3, s4⟩
         go_simp
         with_reducible rfl
        rotate_left
        ·simp only [Act.put, List.setIfInBounds_toArray, List.set_cons_zero, List.set_cons_succ, i64_w, i32_w]
         rfl
        refine one_ (i := 4) (N := some 47) #[true, true, true, true, true, false, false, false, false, false, false] rfl rfl (one_of HT_.out (by kernel_rfl)) (by decide) (fun K hK => ?_)
        refine goes_ Try.func50 (by kernel_rfl) rfl #[.pointer (some ⟨g, 0, none⟩), .int .i64 256] (by rfl) rfl rfl gl_ ?_
        with_reducible refine (spec_l1Rd_pick.calls k2 g s0_0 x1001_2 256 t238 t239 w0 _ ?side1 ?side2 A46.out).mono ?_
        (case side1 => repeat (first | (with_reducible first | exact HI0.out | apply IsS72.alloc | apply IsS72.drewN | apply IsS72.drew | apply IsS72.set_1 | refine IsS72.far ?_ NB0_205.out _ | refine IsS72.far ?_ NB0_221.out _) | exact HI0.out))
        (case side2 => repeat (first | (with_reducible first | exact HB.out | apply below_alloc | apply pw_below_drewN | apply below_drew1 | refine below_set ?_ (IsS72.ge HI0.out) | refine below_set ?_ GE205.out | refine below_set ?_ GE221.out) | exact HB.out))
        rintro e w50 ⟨rfl, hi, hb, hk⟩
        refine ⟨_, rfl, ?_⟩
        have n0_ := m_ (Kd.R_mono (Kd.R_keep (IsS72.apart (show IsS72 w0 _ g s0_0 x1001_2 from by repeat (first | (with_reducible first | exact HI0.out | apply IsS72.alloc | apply IsS72.drewN | apply IsS72.drew | apply IsS72.set_1 | refine IsS72.far ?_ NB0_205.out _ | refine IsS72.far ?_ NB0_221.out _) | exact HI0.out)) (rN HO_222000.out) (by decide)) hk (fun _ h => h.2)) (fun _ h => h.1))
        have n1_ := m_ (Kd.R_mono (Kd.R_keep (IsS72.apart (show IsS72 w0 _ g s0_0 x1001_2 from by repeat (first | (with_reducible first | exact HI0.out | apply IsS72.alloc | apply IsS72.drewN | apply IsS72.drew | apply IsS72.set_1 | refine IsS72.far ?_ NB0_205.out _ | refine IsS72.far ?_ NB0_221.out _) | exact HI0.out)) (rN HO_222001.out) (by decide)) hk (fun _ h => h.2)) (fun _ h => h.1))
        have n2_ := m_ (Kd.R_mono (Kd.R_keep (IsS72.apart (show IsS72 w0 _ g s0_0 x1001_2 from by repeat (first | (with_reducible first | exact HI0.out | apply IsS72.alloc | apply IsS72.drewN | apply IsS72.drew | apply IsS72.set_1 | refine IsS72.far ?_ NB0_205.out _ | refine IsS72.far ?_ NB0_221.out _) | exact HI0.out)) (rN HO_222004.out) (by decide)) hk (fun _ h => h.2)) (fun _ h => h.1))
        have n3_ := m_ (KeepBut.blk hk (g' := gb205) (o := .cells #[.slice none 0 0, .slice none 0 0, .int .i64 0, .bool false, .slice none 0 0] 33 (0, 0)) (kN BK205.out) NB205_0.out (by simp))
        have n4_ := m_ (KeepBut.blk hk (g' := gb221) (o := .cells #[.slice Ao9 t210.length co9, .slice Ao39 x222001_1.length co39, .int .i64 t232, .bool (t234 == 0), u222004] 33 (0, 0)) (kN BK221.out) NB221_0.out (by simp))
        have n5_ := m_ (KeepBut.trans (by repeat (first | (with_reducible first | exact HK.out | apply KeepBut.set_ | apply keep_drewN | apply keep_drew | apply keep_alloc | refine keep_far ?_ GW205.out _ | refine keep_far ?_ GW221.out _) | exact HK.out)) hk (.inl rfl))
        have n6_ := m_ (hb)
        have n7_ := m_ (hi)
        clear HO_222000
        clear HO_222001
        clear HO_222004
        clear BK205
        clear BK221
        clear HK
        clear HB
        clear HI0
        have HO_222000 := n0_
        have HO_222001 := n1_
        have HO_222004 := n2_
        have BK205 := n3_
        have BK221 := n4_
        have HK := n5_
        have HB := n6_
        have HI0 := n7_
        clear n0_ n1_ n2_ n3_ n4_ n5_ n6_ n7_
        (try clear hb)
        (try clear hb2)
        (try clear hk)
        (try clear hi)
        refine hK.out _ _ ⟨(blk_cell BK221.out 0).trans rfl, (blk_cell BK221.out 1).trans rfl, (blk_cell BK221.out 2).trans rfl, (blk_cell BK221.out 3).trans rfl, (blk_cell BK221.out 4).trans rfl⟩ (fun hHeld => ?_)
        clear hK K
        refine norm_ (a' := ?_) ?_ ?_
        rotate_left
        ·show Act.put _ (some 47) _ = _
         simp only [Act.put, List.setIfInBounds_toArray, List.set_cons_zero, List.set_cons_succ, i64_w, i32_w]
         rfl
        refine one_ (i := 5) (N := some 48) #[true, true, true, true, true, true, false, false, false, false, false] rfl rfl (one_of HT_.out (by kernel_rfl)) (by decide) (fun K hK => ?_)
        refine Kd.R_lit_step (Kd.int .i64) _ 3 ?hg (N := 48) ?hd (xs := ([t238, 9999] : List Int)) (inner := [.int .i64 t238, .int .i64 9999]) (ok := fun _ => True) (okp := fun _ => True) ?hr ?hp (fun _ hk => hk) trivial (Below.refl _ _) (Nat.le_refl _) (by simp) ?_; (case hd => rfl); (case hg => rfl); (case hr => first | (go_simp; done) | (go_simp; rfl)); (case hp => exact (Reps.one (show Kd.M (Kd.int .i64) _ _ _ t238 [.int .i64 t238] from rfl) (Reps.one (show Kd.M (Kd.int .i64) _ _ _ 9999 [.int .i64 9999] from rfl) (Reps.none _ _))))
        intro v241 w51 ho52 hb hg_ hnew_
        clear hg_ hnew_
        (first | rw [← Ny240.out] at ho52 | (simp only [Int.reduceToNat] at ho52; rw [← Ny240.out] at ho52))
        have n0_ := m_ (Kd.R_below (rN HO_222000.out) hb)
        have n1_ := m_ (Kd.R_elder' (rN HO_222001.out) (Kd.R_base ho52) hb)
        have n2_ := m_ (Kd.R_elder' (rN HO_222004.out) (Kd.R_base ho52) hb)
        have n3_ := m_ (Kd.R_lower (Kd.R_new' (Kd.R_new' ho52 (Kd.R_lt (rN HO_222001.out))) (Kd.R_lt (rN HO_222004.out))) (keep_size (w := w) (g := g) (row := none) (by repeat (first | (with_reducible first | exact HK.out | apply KeepBut.set_ | apply keep_drewN | apply keep_drew | apply keep_alloc | refine keep_far ?_ GW205.out _ | refine keep_far ?_ GW221.out _) | exact HK.out))))
        have n4_ := m_ (blk_below (kN BK205.out) hb)
        have n5_ := m_ (blk_below (kN BK221.out) hb)
        have n6_ := m_ (IsS72.below (by repeat (first | (with_reducible first | exact HI0.out | apply IsS72.alloc | apply IsS72.drewN | apply IsS72.drew | apply IsS72.set_1 | refine IsS72.far ?_ NB0_205.out _ | refine IsS72.far ?_ NB0_221.out _) | exact HI0.out)) hb)
        have n7_ := m_ (KeepBut.trans (by repeat (first | (with_reducible first | exact HK.out | apply KeepBut.set_ | apply keep_drewN | apply keep_drew | apply keep_alloc | refine keep_far ?_ GW205.out _ | refine keep_far ?_ GW221.out _) | exact HK.out)) (KeepBut.of_below hb g none) (.inl rfl))
        have n8_ := m_ (below_step (by repeat (first | (with_reducible first | exact HB.out | apply below_alloc | apply pw_below_drewN | apply below_drew1 | refine below_set ?_ (IsS72.ge HI0.out) | refine below_set ?_ GE205.out | refine below_set ?_ GE221.out) | exact HB.out)) hb)
        clear HO_222000
        clear HO_222001
        clear HO_222004
        clear BK205
        clear BK221
        clear HI0
        clear HK
        clear HB
        have HO_222000 := n0_
        have HO_222001 := n1_
        have HO_222004 := n2_
        have HO242 := n3_
        have BK205 := n4_
        have BK221 := n5_
        have HI0 := n6_
        have HK := n7_
        have HB := n8_
        clear n0_ n1_ n2_ n3_ n4_ n5_ n6_ n7_ n8_
        clear hb ho52
        obtain ⟨Ao53, co53, eo53⟩ := Kd.R_slice HO242.out
        (first | subst eo53 | (injection eo53 with f1_ f2_ f3_; have f4_ := f1_.symm; have f5_ := f3_.symm; clear f1_ f2_ f3_; subst f4_; subst f5_))
        refine hK.out _ _ ⟨(blk_cell BK221.out 0).trans rfl, (blk_cell BK221.out 1).trans rfl, (blk_cell BK221.out 2).trans rfl, (blk_cell BK221.out 3).trans rfl, (blk_cell BK221.out 4).trans rfl⟩ (fun hHeld => ?_)
        clear hK K
        refine norm_ (a' := ?_) ?_ ?_
        rotate_left
        ·show Act.put _ (some 48) _ = _
         simp only [Act.put, List.setIfInBounds_toArray, List.set_cons_zero, List.set_cons_succ, i64_w, i32_w]
         rfl
        refine one_ (i := 6) (N := some 49) #[true, true, true, true, true, true, true, false, false, false, false] rfl rfl (one_of HT_.out (by kernel_rfl)) (by decide) (fun K hK => ?_)
        refine goes_ Try.func49 (by kernel_rfl) rfl #[.pointer (some ⟨g, 0, none⟩), .slice Ao53 y240.length co53] (by rfl) rfl rfl gl_ ?_
        with_reducible refine (spec_l1Rd_one.calls k2 g s0_0 t239 _ _ y240 t243 t244 w0 _ ?side1 ?side2 ?side3 ?side4 ?side5 A47.out).mono ?_
        (case side1 => repeat (first | (with_reducible first | exact HI0.out | apply IsS72.alloc | apply IsS72.drewN | apply IsS72.drew | apply IsS72.set_1 | refine IsS72.far ?_ NB0_205.out _ | refine IsS72.far ?_ NB0_221.out _) | exact HI0.out))
        (case side2 => repeat (first | (with_reducible first | exact HB.out | apply below_alloc | apply pw_below_drewN | apply below_drew1 | refine below_set ?_ (IsS72.ge HI0.out) | refine below_set ?_ GE205.out | refine below_set ?_ GE221.out) | exact HB.out))
        (case side3 => exact cN (Kd.R_reads' HO242.out).2.2)
        (case side4 => exact (Kd.R_reads' HO242.out).2.1)
        (case side5 => exact far_slice (IsS72.own_ne HI0.out HO242.out (by decide)))
        rintro e w54 ⟨rfl, hi, hb, hk⟩
        refine ⟨_, rfl, ?_⟩
        have n0_ := m_ (Kd.R_mono (Kd.R_keep (IsS72.apart (show IsS72 w0 _ g s0_0 t239 from by repeat (first | (with_reducible first | exact HI0.out | apply IsS72.alloc | apply IsS72.drewN | apply IsS72.drew | apply IsS72.set_1 | refine IsS72.far ?_ NB0_205.out _ | refine IsS72.far ?_ NB0_221.out _) | exact HI0.out)) (rN HO_222000.out) (by decide)) hk (fun _ h => h.2)) (fun _ h => h.1))
        have n1_ := m_ (Kd.R_mono (Kd.R_keep (IsS72.apart (show IsS72 w0 _ g s0_0 t239 from by repeat (first | (with_reducible first | exact HI0.out | apply IsS72.alloc | apply IsS72.drewN | apply IsS72.drew | apply IsS72.set_1 | refine IsS72.far ?_ NB0_205.out _ | refine IsS72.far ?_ NB0_221.out _) | exact HI0.out)) (rN HO_222001.out) (by decide)) hk (fun _ h => h.2)) (fun _ h => h.1))
        have n2_ := m_ (Kd.R_mono (Kd.R_keep (IsS72.apart (show IsS72 w0 _ g s0_0 t239 from by repeat (first | (with_reducible first | exact HI0.out | apply IsS72.alloc | apply IsS72.drewN | apply IsS72.drew | apply IsS72.set_1 | refine IsS72.far ?_ NB0_205.out _ | refine IsS72.far ?_ NB0_221.out _) | exact HI0.out)) (rN HO_222004.out) (by decide)) hk (fun _ h => h.2)) (fun _ h => h.1))
        have n3_ := m_ (KeepBut.blk hk (g' := gb205) (o := .cells #[.slice none 0 0, .slice none 0 0, .int .i64 0, .bool false, .slice none 0 0] 33 (0, 0)) (kN BK205.out) NB205_0.out (by simp))
        have n4_ := m_ (KeepBut.blk hk (g' := gb221) (o := .cells #[.slice Ao9 t210.length co9, .slice Ao39 x222001_1.length co39, .int .i64 t232, .bool (t234 == 0), u222004] 33 (0, 0)) (kN BK221.out) NB221_0.out (by simp))
        have n5_ := m_ (Kd.R_mono (Kd.R_keep (IsS72.apart (show IsS72 w0 _ g s0_0 t239 from by repeat (first | (with_reducible first | exact HI0.out | apply IsS72.alloc | apply IsS72.drewN | apply IsS72.drew | apply IsS72.set_1 | refine IsS72.far ?_ NB0_205.out _ | refine IsS72.far ?_ NB0_221.out _) | exact HI0.out)) (rN HO242.out) (by decide)) hk (fun _ h => h.2)) (fun _ h => h.1))
        have n6_ := m_ (KeepBut.trans (by repeat (first | (with_reducible first | exact HK.out | apply KeepBut.set_ | apply keep_drewN | apply keep_drew | apply keep_alloc | refine keep_far ?_ GW205.out _ | refine keep_far ?_ GW221.out _) | exact HK.out)) hk (.inl rfl))
        have n7_ := m_ (hb)
        have n8_ := m_ (hi)
        clear HO_222000
        clear HO_222001
        clear HO_222004
        clear BK205
        clear BK221
        clear HO242
        clear HK
        clear HB
        clear HI0
        have HO_222000 := n0_
        have HO_222001 := n1_
        have HO_222004 := n2_
        have BK205 := n3_
        have BK221 := n4_
        have HO242 := n5_
        have HK := n6_
        have HB := n7_
        have HI0 := n8_
        clear n0_ n1_ n2_ n3_ n4_ n5_ n6_ n7_ n8_
        (try clear hb)
        (try clear hb2)
        (try clear hk)
        (try clear hi)
        refine hK.out _ _ ⟨(blk_cell BK221.out 0).trans rfl, (blk_cell BK221.out 1).trans rfl, (blk_cell BK221.out 2).trans rfl, (blk_cell BK221.out 3).trans rfl, (blk_cell BK221.out 4).trans rfl⟩ (fun hHeld => ?_)
        clear hK K
        refine norm_ (a' := ?_) ?_ ?_
        rotate_left
        ·show Act.put _ (some 49) _ = _
         simp only [Act.put, List.setIfInBounds_toArray, List.set_cons_zero, List.set_cons_succ, i64_w, i32_w]
         rfl
        refine one_ (i := 7) (N := some 50) #[true, true, true, true, true, true, true, true, false, false, false] rfl rfl (one_of HT_.out (by kernel_rfl)) (by decide) (fun K hK => ?_)
        refine value_ (w1 := ?_) (v := ?_) (by rfl) rfl ?_ ?_
        rotate_left 2
        ·go_simp
         constructor
         ·rfl
         ·rfl
        refine hK.out _ _ ⟨(blk_cell (blk_alloc BK221.out _) 0).trans rfl, (blk_cell (blk_alloc BK221.out _) 1).trans rfl, (blk_cell (blk_alloc BK221.out _) 2).trans rfl, (blk_cell (blk_alloc BK221.out _) 3).trans rfl, (blk_cell (blk_alloc BK221.out _) 4).trans rfl⟩ (fun hHeld => ?_)
        clear hK K
        refine norm_ (a' := ?_) ?_ ?_
        rotate_left
        ·show Act.put _ (some 50) _ = _
         simp only [Act.put, List.setIfInBounds_toArray, List.set_cons_zero, List.set_cons_succ, i64_w, i32_w]
         rfl
        refine one_ (i := 8) (N := some 51) #[true, true, true, true, true, true, true, true, true, false, false] rfl rfl (one_of HT_.out (by kernel_rfl)) (by decide) (fun K hK => ?_)
        refine Kd.R_append_step (Kd.int .i64) w.heap.size (by rfl) (.tmp 44) (.tmp 50) 31 3 (.int .i64 0) 8 rfl Try.underlying31 info3 rfl (by decide) (by omega) u222004 x222004_2 t243 [.int .i64 t243] (fun k_ => nb Ao39 x222001_1.length co39 k_ ∧ nb Ao53 y240.length co53 k_) (fun _ => False) rfl rfl ?aP (fun _ hk => hk.elim) ?aF ?aO (Below.refl _ _) ?aS ?aL ?_
        (case aP => exact rfl)
        (case aF => exact (fun k_ hk => ⟨Kd.fresh' (Kd.R_lt (rN HO_222001.out)) k_ hk, Kd.fresh' (Kd.R_lt (rN HO242.out)) k_ hk⟩))
        (case aO => exact (rN HO_222004.out))
        (case aS => exact (keep_size (w := w) (g := g) (row := none) (by repeat (first | (with_reducible first | exact HK.out | apply KeepBut.set_ | apply keep_drewN | apply keep_drew | apply keep_alloc | refine keep_far ?_ GW205.out _ | refine keep_far ?_ GW221.out _) | exact HK.out))))
        (case aL => have := LMc48.out; omega)
        intro v246 w55 ho hb hg hat
        rw [← Ny245.out] at ho
        have n0_ := m_ (Kd.R_over' (rN HO_222000.out) (Kd.R_typed (rN HO_222004.out)) (by decide) hg)
        have n1_ := m_ (Kd.R_after (ok := (fun k_ => nb Ao53 y240.length co53 k_)) (by (with_reducible repeat (first | apply Kd.R_alloc | apply Kd.R_drewN | apply Kd.R_drew)); exact Kd.R_mono HO_222001.out (fun _ hk => ⟨hk.2, hk.1⟩)) hg hat)
        have n2_ := m_ (blk_grown (g := gb205) (o := .cells #[.slice none 0 0, .slice none 0 0, .int .i64 0, .bool false, .slice none 0 0] 33 (0, 0)) (kN BK205.out) hg (Kd.R_ne HO_222004.out BK205.out (by decide)))
        have n3_ := m_ (blk_grown (g := gb221) (o := .cells #[.slice Ao9 t210.length co9, .slice Ao39 x222001_1.length co39, .int .i64 t232, .bool (t234 == 0), u222004] 33 (0, 0)) (kN BK221.out) hg (Kd.R_ne HO_222004.out BK221.out (by decide)))
        have n4_ := m_ (IsS72.grown (by repeat (first | (with_reducible first | exact HI0.out | apply IsS72.alloc | apply IsS72.drewN | apply IsS72.drew | apply IsS72.set_1 | refine IsS72.far ?_ NB0_205.out _ | refine IsS72.far ?_ NB0_221.out _) | exact HI0.out)) hg (IsS72.own_ne HI0.out HO_222004.out (by decide)))
        have n5_ := m_ (Kd.R_after (ok := (fun k_ => nb Ao39 x222001_1.length co39 k_)) (by (with_reducible repeat (first | apply Kd.R_alloc | apply Kd.R_drewN | apply Kd.R_drew)); exact Kd.R_mono HO242.out (fun _ hk => ⟨hk.1.2, hk.2⟩)) hg hat)
        have n6_ := m_ (below_weaken (by repeat (first | (with_reducible first | exact HB.out | apply below_alloc | apply pw_below_drewN | apply below_drew1 | refine below_set ?_ (IsS72.ge HI0.out) | refine below_set ?_ GE205.out | refine below_set ?_ GE221.out) | exact HB.out)) HL.out hb)
        have n7_ := m_ (KeepBut.trans (by repeat (first | (with_reducible first | exact HK.out | apply KeepBut.set_ | apply keep_drewN | apply keep_drew | apply keep_alloc | refine keep_far ?_ GW205.out _ | refine keep_far ?_ GW221.out _) | exact HK.out)) (KeepBut.of_grown hg g) (Kd.R_base2 HO_222004.out))
        have n8_ := m_ (ho)
        clear HO_222000
        clear HO_222001
        clear BK205
        clear BK221
        clear HI0
        clear HO242
        clear HB
        clear HK
        clear HO_222004
        have HO_222000 := n0_
        have HO_222001 := n1_
        have BK205 := n2_
        have BK221 := n3_
        have HI0 := n4_
        have HO242 := n5_
        have HB := n6_
        have HK := n7_
        have HO247 := n8_
        clear n0_ n1_ n2_ n3_ n4_ n5_ n6_ n7_ n8_
        clear ho hb hg hat
        obtain ⟨Ao56, co56, eo56⟩ := Kd.R_slice HO247.out
        (first | subst eo56 | (injection eo56 with f1_ f2_ f3_; have f4_ := f1_.symm; have f5_ := f3_.symm; clear f1_ f2_ f3_; subst f4_; subst f5_))
        refine hK.out _ _ ⟨(blk_cell BK221.out 0).trans rfl, (blk_cell BK221.out 1).trans rfl, (blk_cell BK221.out 2).trans rfl, (blk_cell BK221.out 3).trans rfl, (blk_cell BK221.out 4).trans rfl⟩ (fun hHeld => ?_)
        clear hK K
        refine norm_ (a' := ?_) ?_ ?_
        rotate_left
        ·show Act.put _ (some 51) _ = _
         simp only [Act.put, List.setIfInBounds_toArray, List.set_cons_zero, List.set_cons_succ, i64_w, i32_w]
         rfl
        refine pu 9 52 HT_ (h := ?_)
        refine last_ (i := 10) (N := none) #[true, true, true, true, true, true, true, true, true, true, true] rfl rfl (one_of HT_.out (by kernel_rfl)) (by decide) (fun K hK => ?_)
        have hs57 : w55.cell? ⟨gb221, 4, none⟩ = some (u222004) := (blk_cell BK221.out 4).trans rfl
        have hfs57 := blk_frozen BK221.out 4
        have hns57_0 := NB205_221.out
        have hms57_0 := NB221_205.out
        refine skip_ (w1 := ?_) (by rfl) rfl ?_ ?_
        rotate_left
        ·go_simp
         rfl
        refine hK.out _ _ ?_
        clear hK K
        refine done_ (done_of HT_.out (by kernel_rfl)) ?_
        try go_wp2
        go_roundg k2
        case measure => have := HK1.out; have := HK2.out; omega
        case rel => exact ⟨(wrap64 (x5_2 - 1)), (t244), (y245), (.slice Ao56 y245.length co56), (by first | rfl | (simp; done) | (simp [*]; done)), H', ⟨by have := HK1.out; have := HK2.out; omega⟩, ⟨by (with_reducible repeat (first | apply Kd.R_alloc | apply Kd.R_drewN | apply Kd.R_drew)); exact frM (Kd.R_types HO_222000.out BK221.out (by decide))⟩, ⟨by (with_reducible repeat (first | apply Kd.R_alloc | apply Kd.R_drewN | apply Kd.R_drew)); exact frM (Kd.R_types HO_222001.out BK221.out (by decide))⟩, ⟨by (with_reducible repeat (first | apply Kd.R_alloc | apply Kd.R_drewN | apply Kd.R_drew)); exact frM (Kd.R_types HO247.out BK221.out (by decide))⟩, ⟨by (with_reducible repeat (first | refine blk_drewN ?_ _ | refine blk_drew ?_ | refine blk_alloc ?_ _)); refine blk_far ?_ NB205_221.out _; (with_reducible repeat (first | refine blk_drewN ?_ _ | refine blk_drew ?_ | refine blk_alloc ?_ _)); exact BK205.out⟩, ⟨by (with_reducible repeat (first | refine blk_drewN ?_ _ | refine blk_drew ?_ | refine blk_alloc ?_ _)); refine blk_put (cs := #[.slice Ao9 t210.length co9, .slice Ao39 x222001_1.length co39, .int .i64 t232, .bool (t234 == 0), u222004]) ?_ 4 _ rfl; (with_reducible repeat (first | refine blk_drewN ?_ _ | refine blk_drew ?_ | refine blk_alloc ?_ _)); exact BK221.out⟩, ⟨by repeat (first | (with_reducible first | exact HI0.out | apply IsS72.alloc | apply IsS72.drewN | apply IsS72.drew | apply IsS72.set_1 | refine IsS72.far ?_ NB0_205.out _ | refine IsS72.far ?_ NB0_221.out _) | exact HI0.out)⟩, ⟨by repeat (first | (with_reducible first | exact HK.out | apply KeepBut.set_ | apply keep_drewN | apply keep_drew | apply keep_alloc | refine keep_far ?_ GW205.out _ | refine keep_far ?_ GW221.out _) | exact HK.out)⟩, ⟨by repeat (first | (with_reducible first | exact HB.out | apply below_alloc | apply pw_below_drewN | apply below_drew1 | refine below_set ?_ (IsS72.ge HI0.out) | refine below_set ?_ GE205.out | refine below_set ?_ GE221.out) | exact HB.out)⟩⟩
       ·rw [if_neg c48] at H
        exact absurd H (by simp)
      ·rw [if_neg c45] at H
       have c45b0 : decide (0 < x5_2) = false := decide_eq_false c45
       clear c45
       simp only [Option.some.injEq, Prod.mk.injEq] at H
       obtain ⟨rfl, rfl, rfl, rfl, rfl, rfl⟩ := H
       have hnb58 := NB221_205.out
       have hnc58 := NB205_221.out
       have hnb59 := NB221_0.out
       have hnc59 := NB0_221.out
       have hcz60_0 : wr.cell? ⟨gb221, 0, none⟩ = some (.slice Ao9 t210.length co9) := (blk_cell BK221.out 0).trans rfl
       have hcz60_1 : wr.cell? ⟨gb221, 1, none⟩ = some (.slice Ao39 x222001_1.length co39) := (blk_cell BK221.out 1).trans rfl
       have hcz60_2 : wr.cell? ⟨gb221, 2, none⟩ = some (.int .i64 t232) := (blk_cell BK221.out 2).trans rfl
       have hcz60_3 : wr.cell? ⟨gb221, 3, none⟩ = some (.bool (t234 == 0)) := (blk_cell BK221.out 3).trans rfl
       have hcz60_4 : wr.cell? ⟨gb221, 4, none⟩ = some (u222004) := (blk_cell BK221.out 4).trans rfl
       have hfz60_0 := blk_frozen BK221.out 0
       have hfz60_1 := blk_frozen BK221.out 1
       have hfz60_2 := blk_frozen BK221.out 2
       have hfz60_3 := blk_frozen BK221.out 3
       have hfz60_4 := blk_frozen BK221.out 4
       have hnb61 := NB205_0.out
       have hnc61 := NB0_205.out
       have hcz62_0 : wr.cell? ⟨gb205, 0, none⟩ = some (.slice none 0 0) := (blk_cell BK205.out 0).trans rfl
       have hcz62_1 : wr.cell? ⟨gb205, 1, none⟩ = some (.slice none 0 0) := (blk_cell BK205.out 1).trans rfl
       have hcz62_2 : wr.cell? ⟨gb205, 2, none⟩ = some (.int .i64 0) := (blk_cell BK205.out 2).trans rfl
       have hcz62_3 : wr.cell? ⟨gb205, 3, none⟩ = some (.bool false) := (blk_cell BK205.out 3).trans rfl
       have hcz62_4 : wr.cell? ⟨gb205, 4, none⟩ = some (.slice none 0 0) := (blk_cell BK205.out 4).trans rfl
       have hfz62_0 := blk_frozen BK205.out 0
       have hfz62_1 := blk_frozen BK205.out 1
       have hfz62_2 := blk_frozen BK205.out 2
       have hfz62_3 := blk_frozen BK205.out 3
       have hfz62_4 := blk_frozen BK205.out 4
       obtain ⟨Ao63, co63, eo63⟩ := Kd.R_slice HO_222004.out
       subst eo63
       go_wp2
       refine bodyPost_ret (results_cell_row rfl _ _ gb205 33 #[.slice Ao9 t210.length co9, .slice Ao39 x222001_1.length co39, .int .i64 t232, .bool (t234 == 0), .slice Ao63 x222004_2.length co63] (0, 0) _ rfl (by (with_reducible repeat (first | refine blk_drewN ?_ _ | refine blk_drew ?_ | refine blk_alloc ?_ _)); refine blk_put (cs := #[.slice Ao9 t210.length co9, .slice Ao39 x222001_1.length co39, .int .i64 t232, .bool (t234 == 0), .slice none 0 0]) ?_ 4 _ rfl; (with_reducible repeat (first | refine blk_drewN ?_ _ | refine blk_drew ?_ | refine blk_alloc ?_ _)); refine blk_put (cs := #[.slice Ao9 t210.length co9, .slice Ao39 x222001_1.length co39, .int .i64 t232, .bool false, .slice none 0 0]) ?_ 3 _ rfl; (with_reducible repeat (first | refine blk_drewN ?_ _ | refine blk_drew ?_ | refine blk_alloc ?_ _)); refine blk_put (cs := #[.slice Ao9 t210.length co9, .slice Ao39 x222001_1.length co39, .int .i64 0, .bool false, .slice none 0 0]) ?_ 2 _ rfl; (with_reducible repeat (first | refine blk_drewN ?_ _ | refine blk_drew ?_ | refine blk_alloc ?_ _)); refine blk_put (cs := #[.slice Ao9 t210.length co9, .slice none 0 0, .int .i64 0, .bool false, .slice none 0 0]) ?_ 1 _ rfl; (with_reducible repeat (first | refine blk_drewN ?_ _ | refine blk_drew ?_ | refine blk_alloc ?_ _)); refine blk_put (cs := #[.slice none 0 0, .slice none 0 0, .int .i64 0, .bool false, .slice none 0 0]) ?_ 0 _ rfl; (with_reducible repeat (first | refine blk_drewN ?_ _ | refine blk_drew ?_ | refine blk_alloc ?_ _)); exact BK205.out) Try.underlying33 rfl (by kernel_rfl)) rfl ?_
       exact ⟨_, _, _, by first | rfl | (simp [errW_none, errW_some] <;> rfl) | (simp [*, errW_none, errW_some] <;> rfl), by (with_reducible repeat (first | apply Kd.R_alloc | apply Kd.R_drewN | apply Kd.R_drew)); exact frM (Kd.R_types HO_222000.out BK205.out (by decide)), by (with_reducible repeat (first | apply Kd.R_alloc | apply Kd.R_drewN | apply Kd.R_drew)); exact frM (Kd.R_types HO_222001.out BK205.out (by decide)), by (with_reducible repeat (first | apply Kd.R_alloc | apply Kd.R_drewN | apply Kd.R_drew)); exact frM (Kd.R_types HO_222004.out BK205.out (by decide)), by repeat (first | (with_reducible first | exact HI0.out | apply IsS72.alloc | apply IsS72.drewN | apply IsS72.drew | apply IsS72.set_1 | refine IsS72.far ?_ NB0_205.out _ | refine IsS72.far ?_ NB0_221.out _) | exact HI0.out), by repeat (first | (with_reducible first | exact HB.out | apply below_alloc | apply pw_below_drewN | apply below_drew1 | refine below_set ?_ (IsS72.ge HI0.out) | refine below_set ?_ GE205.out | refine below_set ?_ GE221.out) | exact HB.out), by repeat (first | (with_reducible first | exact HK.out | apply KeepBut.set_ | apply keep_drewN | apply keep_drew | apply keep_alloc | refine keep_far ?_ GW205.out _ | refine keep_far ?_ GW221.out _) | exact HK.out)⟩

end Go.Proofs.Ytmhdphohhheoaaa.P
