/- The machine side of these statements, function by function: what each Go function answers (as a Lean function), and that it does. Written by a program (mp.py) for this claim. -/
import Derived.Test.YtbldbjfmibhffaaDoorPx0
import Derived.Test.YtbldbjfmibhffaaDoorPx2
import Derived.Test.YtbldbjfmibhffaaDoorPx4
namespace Go.Proofs.YtbldbjfmibhffaaDoor.P
open Go.RowKit Go.Proofs.YtbldbjfmibhffaaDoorW.PrintWords Go.Proofs.YtbldbjfmibhffaaDoorW.PrintLast Go.Proofs.YtbldbjfmibhffaaDoorW.PrintMore
attribute [local go_sem] max2_int min2_int max_two min_two max_three min_three max_four min_four   -- for this text's walks alone
set_option linter.unusedVariables false
set_option linter.unusedSimpArgs false

/-! ### spec_HearsDown: function 6 -/
def spec_HearsDown.j0 : Nat → Bool → Int → Bool → ByteArray → Int → Int → Int → Int → Int → ByteArray → ByteArray → Int → Bool → ByteArray → Option (Int × Bool × ByteArray × List ByteArray)
 | 0, _, _, _, _, _, _, _, _, _, _, _, _, _, _ => none
 | k + 1, x41, x167000, x167001, x167002, x168000, x168001, x168002, x168003, x168004, x168005, x168006, x178000, x178001, x178002 => if x41 = true then (if x167002.size + x168005.size ≤ 9223372036854775807 then ((spec_l12Cut.f k (x167002 ++ x168005)).bind fun bt181 => (some (x178000, bt181.2.2, bt181.1, bt181.2.1))) else (none)) else (if x168004 = 2047 then (some (x178000, x178001, x178002, (([] : List ByteArray)))) else (if 0 ≤ x168004 then (if x168004 ≤ (x168005.size : Int) then ((spec_l12Cut.f k (x168005.extract (x168004 : Int).toNat x168005.size)).bind fun bt189 => (some (x178000, bt189.2.2, bt189.1, bt189.2.1))) else (none)) else (none)))
def spec_HearsDown.f (k : Nat) (a0_0 : Int) (a0_1 : Bool) (a0_2 : ByteArray) (a1_0 : Int) (a1_1 : Int) (a1_2 : Int) (a1_3 : Int) (a1_4 : Int) (a1_5 : ByteArray) (a1_6 : ByteArray) : Option (Int × Bool × ByteArray × List ByteArray) := (spec_l12Hears.f a0_0 a0_1 a0_2).bind fun t169 => (if t169 = true then ((spec_l12Ok.f k a1_0 a1_1 a1_2 a1_3 a1_4 a1_5 a1_6).bind fun t173 => (if t173 = true then (if a1_4 = 2046 then (some (Int.tmod (wrap64 (a1_3 + 1)) 256, false, (⟨#[]⟩ : ByteArray), (([] : List ByteArray)))) else (if a0_1 = true then (spec_HearsDown.j0 k (a1_3 == a0_0) a0_0 a0_1 a0_2 a1_0 a1_1 a1_2 a1_3 a1_4 a1_5 a1_6 (Int.tmod (wrap64 (a1_3 + 1)) 256) false (⟨#[]⟩ : ByteArray)) else (spec_HearsDown.j0 k false a0_0 a0_1 a0_2 a1_0 a1_1 a1_2 a1_3 a1_4 a1_5 a1_6 (Int.tmod (wrap64 (a1_3 + 1)) 256) false (⟨#[]⟩ : ByteArray)))) else (some (a0_0, a0_1, a0_2, (([] : List ByteArray)))))) else (some (0, false, (⟨#[]⟩ : ByteArray), (([] : List ByteArray)))))
theorem spec_HearsDown.mono_l : ∀ k, (∀ y0 y1 y2 y3 y4 y5 y6 y7 y8 y9 y10 y11 y12 y13, LeO (spec_HearsDown.j0 k y0 y1 y2 y3 y4 y5 y6 y7 y8 y9 y10 y11 y12 y13) (spec_HearsDown.j0 (k + 1) y0 y1 y2 y3 y4 y5 y6 y7 y8 y9 y10 y11 y12 y13))
 | 0 => fun _ _ _ _ _ _ _ _ _ _ _ _ _ _ r h => by simp [spec_HearsDown.j0] at h
 | k + 1 => by
  have ih0 := spec_HearsDown.mono_l k
  ·intro y0 y1 y2 y3 y4 y5 y6 y7 y8 y9 y10 y11 y12 y13
   unfold spec_HearsDown.j0
   repeat' first
   | (with_reducible exact ih0 _ _ _ _ _ _ _ _ _ _ _ _ _ _)
   | (with_reducible exact spec_l12Cut.mono _ _)
   | (with_reducible exact spec_l12Ok.mono _ _ _ _ _ _ _ _)
   | (with_reducible exact LeO.refl _)
   | (with_reducible exact LeO.none _)
   | (with_reducible refine LeO.ite ?_ ?_)
   | (with_reducible refine LeO.bind ?_ (fun _ => ?_))
   | exact ih0 _ _ _ _ _ _ _ _ _ _ _ _ _ _
   | exact spec_l12Cut.mono _ _
   | exact spec_l12Ok.mono _ _ _ _ _ _ _ _
   | exact LeO.none _
   | refine LeO.ite ?_ ?_
   | refine LeO.bind ?_ (fun _ => ?_)
theorem spec_HearsDown.mono : ∀ a0 a1 a2 a3 a4 a5 a6 a7 a8 a9 k, LeO (spec_HearsDown.f k a0 a1 a2 a3 a4 a5 a6 a7 a8 a9) (spec_HearsDown.f (k + 1) a0 a1 a2 a3 a4 a5 a6 a7 a8 a9) := by
 intro a0 a1 a2 a3 a4 a5 a6 a7 a8 a9 k
 have ih0 := spec_HearsDown.mono_l k
 unfold spec_HearsDown.f
 repeat' first
   | (with_reducible exact ih0 _ _ _ _ _ _ _ _ _ _ _ _ _ _)
   | (with_reducible exact spec_l12Cut.mono _ _)
   | (with_reducible exact spec_l12Ok.mono _ _ _ _ _ _ _ _)
   | (with_reducible exact LeO.refl _)
   | (with_reducible exact LeO.none _)
   | (with_reducible refine LeO.ite ?_ ?_)
   | (with_reducible refine LeO.bind ?_ (fun _ => ?_))
   | exact ih0 _ _ _ _ _ _ _ _ _ _ _ _ _ _
   | exact spec_l12Cut.mono _ _
   | exact spec_l12Ok.mono _ _ _ _ _ _ _ _
   | exact LeO.none _
   | refine LeO.ite ?_ ?_
   | refine LeO.bind ?_ (fun _ => ?_)
set_option maxHeartbeats 8000000 in
set_option maxRecDepth 100000 in
theorem spec_HearsDown.calls (k : Nat) (a0_0 : Int) (a0_1 : Bool) (a0_2 : ByteArray) (a1_0 : Int) (a1_1 : Int) (a1_2 : Int) (a1_3 : Int) (a1_4 : Int) (a1_5 : ByteArray) (a1_6 : ByteArray) (r1 : Int) (r2 : Bool) (r3 : ByteArray) (r4 : List ByteArray) (w : World) (h : spec_HearsDown.f k a0_0 a0_1 a0_2 a1_0 a1_1 a1_2 a1_3 a1_4 a1_5 a1_6 = some (r1, r2, r3, r4)) :
  Calls Tryd.prog 6 #[.agg #[.int .i64 a0_0, .bool a0_1, .string a0_2], .agg #[.int .i64 a1_0, .int .i64 a1_1, .int .i64 a1_2, .int .i64 a1_3, .int .i64 a1_4, .string a1_5, .string a1_6]] w fun e w' => ∃ v3_ : Value, e = .returned (.tuple #[.agg #[.int .i64 r1, .bool r2, .string r3], v3_]) ∧ Kd.R Kd.string 9 w' w.heap.size (fun _ => True) v3_ r4 ∧ Below w.heap.size w w' := by
 have hu28 := Tryd.underlying28
 have hu33 := Tryd.underlying33
 have HB := m_ (Below.refl w.heap.size w)
 have H : ((spec_l12Hears.f a0_0 a0_1 a0_2).bind fun t169 => (if t169 = true then ((spec_l12Ok.f k a1_0 a1_1 a1_2 a1_3 a1_4 a1_5 a1_6).bind fun t173 => (if t173 = true then (if a1_4 = 2046 then (some (Int.tmod (wrap64 (a1_3 + 1)) 256, false, (⟨#[]⟩ : ByteArray), (([] : List ByteArray)))) else (if a0_1 = true then (spec_HearsDown.j0 k (a1_3 == a0_0) a0_0 a0_1 a0_2 a1_0 a1_1 a1_2 a1_3 a1_4 a1_5 a1_6 (Int.tmod (wrap64 (a1_3 + 1)) 256) false (⟨#[]⟩ : ByteArray)) else (spec_HearsDown.j0 k false a0_0 a0_1 a0_2 a1_0 a1_1 a1_2 a1_3 a1_4 a1_5 a1_6 (Int.tmod (wrap64 (a1_3 + 1)) 256) false (⟨#[]⟩ : ByteArray)))) else (some (a0_0, a0_1, a0_2, (([] : List ByteArray)))))) else (some (0, false, (⟨#[]⟩ : ByteArray), (([] : List ByteArray)))))) = some (r1, r2, r3, r4) := h
 clear h
 replace H := Option.bind_eq_some_iff.mp H
 obtain ⟨t169, A30, H⟩ := H
 replace H : (if t169 = true then ((spec_l12Ok.f k a1_0 a1_1 a1_2 a1_3 a1_4 a1_5 a1_6).bind fun t173 => (if t173 = true then (if a1_4 = 2046 then (some (Int.tmod (wrap64 (a1_3 + 1)) 256, false, (⟨#[]⟩ : ByteArray), (([] : List ByteArray)))) else (if a0_1 = true then (spec_HearsDown.j0 k (a1_3 == a0_0) a0_0 a0_1 a0_2 a1_0 a1_1 a1_2 a1_3 a1_4 a1_5 a1_6 (Int.tmod (wrap64 (a1_3 + 1)) 256) false (⟨#[]⟩ : ByteArray)) else (spec_HearsDown.j0 k false a0_0 a0_1 a0_2 a1_0 a1_1 a1_2 a1_3 a1_4 a1_5 a1_6 (Int.tmod (wrap64 (a1_3 + 1)) 256) false (⟨#[]⟩ : ByteArray)))) else (some (a0_0, a0_1, a0_2, (([] : List ByteArray)))))) else (some (0, false, (⟨#[]⟩ : ByteArray), (([] : List ByteArray))))) = some (r1, r2, r3, r4) := H
 have A3 := Aside0.mk A30
 clear A30
 by_cases c4 : t169 = true
 ·subst c4
  have H1 : ((spec_l12Ok.f k a1_0 a1_1 a1_2 a1_3 a1_4 a1_5 a1_6).bind fun t173 => (if t173 = true then (if a1_4 = 2046 then (some (Int.tmod (wrap64 (a1_3 + 1)) 256, false, (⟨#[]⟩ : ByteArray), (([] : List ByteArray)))) else (if a0_1 = true then (spec_HearsDown.j0 k (a1_3 == a0_0) a0_0 a0_1 a0_2 a1_0 a1_1 a1_2 a1_3 a1_4 a1_5 a1_6 (Int.tmod (wrap64 (a1_3 + 1)) 256) false (⟨#[]⟩ : ByteArray)) else (spec_HearsDown.j0 k false a0_0 a0_1 a0_2 a1_0 a1_1 a1_2 a1_3 a1_4 a1_5 a1_6 (Int.tmod (wrap64 (a1_3 + 1)) 256) false (⟨#[]⟩ : ByteArray)))) else (some (a0_0, a0_1, a0_2, (([] : List ByteArray)))))) = some (r1, r2, r3, r4) := by rw [if_pos rfl] at H; exact H
  clear H
  have H := H1
  clear H1
  replace H := Option.bind_eq_some_iff.mp H
  obtain ⟨t173, A50, H⟩ := H
  replace H : (if t173 = true then (if a1_4 = 2046 then (some (Int.tmod (wrap64 (a1_3 + 1)) 256, false, (⟨#[]⟩ : ByteArray), (([] : List ByteArray)))) else (if a0_1 = true then (spec_HearsDown.j0 k (a1_3 == a0_0) a0_0 a0_1 a0_2 a1_0 a1_1 a1_2 a1_3 a1_4 a1_5 a1_6 (Int.tmod (wrap64 (a1_3 + 1)) 256) false (⟨#[]⟩ : ByteArray)) else (spec_HearsDown.j0 k false a0_0 a0_1 a0_2 a1_0 a1_1 a1_2 a1_3 a1_4 a1_5 a1_6 (Int.tmod (wrap64 (a1_3 + 1)) 256) false (⟨#[]⟩ : ByteArray)))) else (some (a0_0, a0_1, a0_2, (([] : List ByteArray))))) = some (r1, r2, r3, r4) := H
  have A5 := Aside0.mk A50
  clear A50
  by_cases c6 : t173 = true
  ·subst c6
   have H1 : (if a1_4 = 2046 then (some (Int.tmod (wrap64 (a1_3 + 1)) 256, false, (⟨#[]⟩ : ByteArray), (([] : List ByteArray)))) else (if a0_1 = true then (spec_HearsDown.j0 k (a1_3 == a0_0) a0_0 a0_1 a0_2 a1_0 a1_1 a1_2 a1_3 a1_4 a1_5 a1_6 (Int.tmod (wrap64 (a1_3 + 1)) 256) false (⟨#[]⟩ : ByteArray)) else (spec_HearsDown.j0 k false a0_0 a0_1 a0_2 a1_0 a1_1 a1_2 a1_3 a1_4 a1_5 a1_6 (Int.tmod (wrap64 (a1_3 + 1)) 256) false (⟨#[]⟩ : ByteArray)))) = some (r1, r2, r3, r4) := by rw [if_pos rfl] at H; exact H
   clear H
   have H := H1
   clear H1
   by_cases c7 : a1_4 = 2046
   ·rw [if_pos c7] at H
    have c7b0 : (a1_4 == 2046) = true := beq_iff_eq.mpr c7
    have c7b1 : (a1_4 != 2046) = false := bne_eq_false_iff_eq.mpr c7
    clear c7
    obtain ⟨y178, hy178⟩ : ∃ y_ : List ByteArray, y_ = (([] : List ByteArray)) := ⟨_, rfl⟩
    replace H : (some (Int.tmod (wrap64 (a1_3 + 1)) 256, false, (⟨#[]⟩ : ByteArray), y178)) = some (r1, r2, r3, r4) := by first | (rw [hy178]; with_reducible exact H) | (have H2_ := (Option.bind_some _ _).symm.trans H; rw [hy178]; with_reducible exact H2_) | (have H2_ := (Option.bind_some _ _).symm.trans H; with_reducible exact H2_) | with_reducible exact H | (rw [hy178]; exact H) | exact H
    have Ny178 := Aside0.mk hy178
    clear hy178
    simp only [Option.some.injEq, Prod.mk.injEq] at H
    obtain ⟨rfl, rfl, rfl, rfl⟩ := H
    go_enter Tryd.func6, Tryd.ntmps6
    go_wp2_with (first | ((with_reducible refine gate_dst (N := 2) rfl ?_); refine box_event ?hg (N := 2) ?hd (cs := #[.int .i64 a0_0, .bool a0_1, .string a0_2]) (t := 28) ?hr ?_; (case hd => rfl); (case hg => rfl); (case hr => first | (go_simp; done) | (go_simp; rfl)); intro gb166 hg w8 hbox hb; have n0_ := m_ (below_step (bN HB.out) hb); have n1_ := m_ (hbox); have n2_ := m_ ((by rw [hg]; exact (below_size (bN HB.out)) : w.heap.size ≤ gb166)); have n3_ := m_ ((by rw [hg]; exact (below_size (bN HB.out)) : w.heap.size ≤ gb166)); clear HB; have HB := n0_; have BK166 := n1_; have GW166 := n2_; have GE166 := n3_; clear n0_ n1_ n2_ n3_; clear hb hbox hg) | ((with_reducible refine gate_dst (N := 3) rfl ?_); refine box_event ?hg (N := 3) ?hd (cs := #[.int .i64 a1_0, .int .i64 a1_1, .int .i64 a1_2, .int .i64 a1_3, .int .i64 a1_4, .string a1_5, .string a1_6]) (t := 33) ?hr ?_; (case hd => rfl); (case hg => rfl); (case hr => first | (go_simp; done) | (go_simp; rfl)); intro gb167 hg w9 hbox hb; have n0_ := m_ (blk_below (kN BK166.out) hb); have n1_ := m_ (below_step (bN HB.out) hb); have n2_ := m_ (hbox); have n3_ := m_ ((by rw [hg]; exact (below_size (bN HB.out)) : w.heap.size ≤ gb167)); have n4_ := m_ ((by rw [hg]; exact (below_size (bN HB.out)) : w.heap.size ≤ gb167)); have n5_ := m_ (nL hg BK166.out); have n6_ := m_ (nG hg BK166.out); clear BK166; clear HB; have BK166 := n0_; have HB := n1_; have BK167 := n2_; have GW167 := n3_; have GE167 := n4_; have NB166_167 := n5_; have NB167_166 := n6_; clear n0_ n1_ n2_ n3_ n4_ n5_ n6_; clear hb hbox hg) | ((with_reducible refine gate_dst (N := 4) rfl ?_); refine box_event ?hg (N := 4) ?hd (cs := #[.int .i64 0, .bool false, .string (⟨#[]⟩ : ByteArray)]) (t := 28) ?hr ?_; (case hd => rfl); (case hg => rfl); (case hr => first | (go_simp; done) | (go_simp; rfl)); intro gb168 hg w10 hbox hb; have n0_ := m_ (blk_below (kN BK166.out) hb); have n1_ := m_ (blk_below (kN BK167.out) hb); have n2_ := m_ (below_step (bN HB.out) hb); have n3_ := m_ (hbox); have n4_ := m_ ((by rw [hg]; exact (below_size (bN HB.out)) : w.heap.size ≤ gb168)); have n5_ := m_ ((by rw [hg]; exact (below_size (bN HB.out)) : w.heap.size ≤ gb168)); have n6_ := m_ (nL hg BK166.out); have n7_ := m_ (nG hg BK166.out); have n8_ := m_ (nL hg BK167.out); have n9_ := m_ (nG hg BK167.out); clear BK166; clear BK167; clear HB; have BK166 := n0_; have BK167 := n1_; have HB := n2_; have BK168 := n3_; have GW168 := n4_; have GE168 := n5_; have NB166_168 := n6_; have NB168_166 := n7_; have NB167_168 := n8_; have NB168_167 := n9_; clear n0_ n1_ n2_ n3_ n4_ n5_ n6_ n7_ n8_ n9_; clear hb hbox hg; have hnb11 := NB166_167.out; have hnc11 := NB167_166.out; have hnb12 := NB166_168.out; have hnc12 := NB168_166.out; have hcz13_0 : w10.cell? ⟨gb166, 0, none⟩ = some (.int .i64 a0_0) := bc BK166 0; have hcz13_1 : w10.cell? ⟨gb166, 1, none⟩ = some (.bool a0_1) := bc BK166 1; have hcz13_2 : w10.cell? ⟨gb166, 2, none⟩ = some (.string a0_2) := bc BK166 2; have hfz13_0 := blk_frozen BK166.out 0; have hfz13_1 := blk_frozen BK166.out 1; have hfz13_2 := blk_frozen BK166.out 2) | ((with_reducible refine gate_callee (f := 14) rfl ?_); refine goesL_ (some 12) rfl rfl Tryd.func14 (by kernel_rfl) rfl #[.agg #[.int .i64 a0_0, .bool a0_1, .string a0_2]] rfl gl_ ?_; (with_reducible refine (spec_l12Hears.calls a0_0 a0_1 a0_2 true _ A3.out).mono ?_); rintro e w14 ⟨rfl, hb⟩; refine ⟨_, rfl, ?_⟩; have n0_ := m_ (blk_below (kN BK166.out) hb); have n1_ := m_ (blk_below (kN BK167.out) hb); have n2_ := m_ (blk_below (g := gb168) (o := .cells #[.int .i64 0, .bool false, .string (⟨#[]⟩ : ByteArray)] 28 (0, 0)) (kN BK168.out) hb); have n3_ := m_ (below_step (bN HB.out) hb); clear BK166; clear BK167; clear BK168; clear HB; have BK166 := n0_; have BK167 := n1_; have BK168 := n2_; have HB := n3_; clear n0_ n1_ n2_ n3_; (try clear hb); (try clear hb2); (try clear hk); (try clear hi); have hnb15 := NB167_168.out; have hnc15 := NB168_167.out; have hcz16_0 : w14.cell? ⟨gb167, 0, none⟩ = some (.int .i64 a1_0) := bc BK167 0; have hcz16_1 : w14.cell? ⟨gb167, 1, none⟩ = some (.int .i64 a1_1) := bc BK167 1; have hcz16_2 : w14.cell? ⟨gb167, 2, none⟩ = some (.int .i64 a1_2) := bc BK167 2; have hcz16_3 : w14.cell? ⟨gb167, 3, none⟩ = some (.int .i64 a1_3) := bc BK167 3; have hcz16_4 : w14.cell? ⟨gb167, 4, none⟩ = some (.int .i64 a1_4) := bc BK167 4; have hcz16_5 : w14.cell? ⟨gb167, 5, none⟩ = some (.string a1_5) := bc BK167 5; have hcz16_6 : w14.cell? ⟨gb167, 6, none⟩ = some (.string a1_6) := bc BK167 6; have hfz16_0 := blk_frozen BK167.out 0; have hfz16_1 := blk_frozen BK167.out 1; have hfz16_2 := blk_frozen BK167.out 2; have hfz16_3 := blk_frozen BK167.out 3; have hfz16_4 := blk_frozen BK167.out 4; have hfz16_5 := blk_frozen BK167.out 5; have hfz16_6 := blk_frozen BK167.out 6) | ((with_reducible refine gate_callee (f := 15) rfl ?_); refine goesL_ (some 17) rfl rfl Tryd.func15 (by kernel_rfl) rfl #[.agg #[.int .i64 a1_0, .int .i64 a1_1, .int .i64 a1_2, .int .i64 a1_3, .int .i64 a1_4, .string a1_5, .string a1_6]] rfl gl_ ?_; (with_reducible refine (spec_l12Ok.calls k a1_0 a1_1 a1_2 a1_3 a1_4 a1_5 a1_6 true _ A5.out).mono ?_); rintro e w17 ⟨rfl, hb⟩; refine ⟨_, rfl, ?_⟩; have n0_ := m_ (blk_below (kN BK166.out) hb); have n1_ := m_ (blk_below (kN BK167.out) hb); have n2_ := m_ (blk_below (g := gb168) (o := .cells #[.int .i64 0, .bool false, .string (⟨#[]⟩ : ByteArray)] 28 (0, 0)) (kN BK168.out) hb); have n3_ := m_ (below_step (bN HB.out) hb); clear BK166; clear BK167; clear BK168; clear HB; have BK166 := n0_; have BK167 := n1_; have BK168 := n2_; have HB := n3_; clear n0_ n1_ n2_ n3_; (try clear hb); (try clear hb2); (try clear hk); (try clear hi); have hcz18_0 : w17.cell? ⟨gb167, 0, none⟩ = some (.int .i64 a1_0) := bc BK167 0; have hcz18_1 : w17.cell? ⟨gb167, 1, none⟩ = some (.int .i64 a1_1) := bc BK167 1; have hcz18_2 : w17.cell? ⟨gb167, 2, none⟩ = some (.int .i64 a1_2) := bc BK167 2; have hcz18_3 : w17.cell? ⟨gb167, 3, none⟩ = some (.int .i64 a1_3) := bc BK167 3; have hcz18_4 : w17.cell? ⟨gb167, 4, none⟩ = some (.int .i64 a1_4) := bc BK167 4; have hcz18_5 : w17.cell? ⟨gb167, 5, none⟩ = some (.string a1_5) := bc BK167 5; have hcz18_6 : w17.cell? ⟨gb167, 6, none⟩ = some (.string a1_6) := bc BK167 6; have hfz18_0 := blk_frozen BK167.out 0; have hfz18_1 := blk_frozen BK167.out 1; have hfz18_2 := blk_frozen BK167.out 2; have hfz18_3 := blk_frozen BK167.out 3; have hfz18_4 := blk_frozen BK167.out 4; have hfz18_5 := blk_frozen BK167.out 5; have hfz18_6 := blk_frozen BK167.out 6) | ((with_reducible refine gate_dst (N := 6) rfl ?_); refine box_event ?hg (N := 6) ?hd (cs := #[.int .i64 0, .bool false, .string (⟨#[]⟩ : ByteArray)]) (t := 28) ?hr ?_; (case hd => rfl); (case hg => rfl); (case hr => first | (go_simp; done) | (go_simp; rfl)); intro gb177 hg w19 hbox hb; have n0_ := m_ (blk_below (kN BK166.out) hb); have n1_ := m_ (blk_below (kN BK167.out) hb); have n2_ := m_ (blk_below (g := gb168) (o := .cells #[.int .i64 0, .bool false, .string (⟨#[]⟩ : ByteArray)] 28 (0, 0)) (kN BK168.out) hb); have n3_ := m_ (below_step (bN HB.out) hb); have n4_ := m_ (hbox); have n5_ := m_ ((by rw [hg]; exact (below_size (bN HB.out)) : w.heap.size ≤ gb177)); have n6_ := m_ ((by rw [hg]; exact (below_size (bN HB.out)) : w.heap.size ≤ gb177)); have n7_ := m_ (nL hg BK166.out); have n8_ := m_ (nG hg BK166.out); have n9_ := m_ (nL hg BK167.out); have n10_ := m_ (nG hg BK167.out); have n11_ := m_ ((by rw [hg]; exact Nat.ne_of_lt (blk_lt (g := gb168) (o := .cells #[.int .i64 0, .bool false, .string (⟨#[]⟩ : ByteArray)] 28 (0, 0)) (kN BK168.out)) : gb168 ≠ gb177)); have n12_ := m_ ((by rw [hg]; exact Nat.ne_of_gt (blk_lt (g := gb168) (o := .cells #[.int .i64 0, .bool false, .string (⟨#[]⟩ : ByteArray)] 28 (0, 0)) (kN BK168.out)) : gb177 ≠ gb168)); clear BK166; clear BK167; clear BK168; clear HB; have BK166 := n0_; have BK167 := n1_; have BK168 := n2_; have HB := n3_; have BK177 := n4_; have GW177 := n5_; have GE177 := n6_; have NB166_177 := n7_; have NB177_166 := n8_; have NB167_177 := n9_; have NB177_167 := n10_; have NB168_177 := n11_; have NB177_168 := n12_; clear n0_ n1_ n2_ n3_ n4_ n5_ n6_ n7_ n8_ n9_ n10_ n11_ n12_; clear hb hbox hg; have hnb20 := NB177_166.out; have hnc20 := NB166_177.out; have hnb21 := NB177_167.out; have hnc21 := NB167_177.out; have hnb22 := NB177_168.out; have hnc22 := NB168_177.out; have hcz23_0 : w19.cell? ⟨gb177, 0, none⟩ = some (.int .i64 0) := bc BK177 0; have hcz23_1 : w19.cell? ⟨gb177, 1, none⟩ = some (.bool false) := bc BK177 1; have hcz23_2 : w19.cell? ⟨gb177, 2, none⟩ = some (.string (⟨#[]⟩ : ByteArray)) := bc BK177 2; have hfz23_0 := blk_frozen BK177.out 0; have hfz23_1 := blk_frozen BK177.out 1; have hfz23_2 := blk_frozen BK177.out 2; have hcz24_0 : w19.cell? ⟨gb167, 0, none⟩ = some (.int .i64 a1_0) := bc BK167 0; have hcz24_1 : w19.cell? ⟨gb167, 1, none⟩ = some (.int .i64 a1_1) := bc BK167 1; have hcz24_2 : w19.cell? ⟨gb167, 2, none⟩ = some (.int .i64 a1_2) := bc BK167 2; have hcz24_3 : w19.cell? ⟨gb167, 3, none⟩ = some (.int .i64 a1_3) := bc BK167 3; have hcz24_4 : w19.cell? ⟨gb167, 4, none⟩ = some (.int .i64 a1_4) := bc BK167 4; have hcz24_5 : w19.cell? ⟨gb167, 5, none⟩ = some (.string a1_5) := bc BK167 5; have hcz24_6 : w19.cell? ⟨gb167, 6, none⟩ = some (.string a1_6) := bc BK167 6; have hfz24_0 := blk_frozen BK167.out 0; have hfz24_1 := blk_frozen BK167.out 1; have hfz24_2 := blk_frozen BK167.out 2; have hfz24_3 := blk_frozen BK167.out 3; have hfz24_4 := blk_frozen BK167.out 4; have hfz24_5 := blk_frozen BK167.out 5; have hfz24_6 := blk_frozen BK167.out 6) | ((with_reducible refine gate_dst (N := 30) rfl ?_); refine Kd.R_lit Kd.string _ 9 ?hg (N := 30) ?hd (xs := ([] : List ByteArray)) (inner := []) (ok := fun _ => True) (okp := fun _ => True) ?hr ?hp (fun _ hk => hk) trivial (Below.refl _ _) (Nat.le_refl _) (by simp) ?_; (case hd => rfl); (case hg => rfl); (case hr => first | (go_simp; done) | (go_simp; rfl)); (case hp => exact (Reps.none _ _)); intro v179 w25 ho26 hb hg_ hnew_; clear hg_ hnew_; (first | rw [← Ny178.out] at ho26 | (simp only [Int.reduceToNat] at ho26; rw [← Ny178.out] at ho26)); have n0_ := m_ (Kd.R_lower ho26 (below_size (bN HB.out))); have n1_ := m_ (blk_below (g := gb166) (o := .cells #[.int .i64 a0_0, .bool a0_1, .string a0_2] 28 (0, 0)) (kF BK166.out NB166_177.out) hb); have n2_ := m_ (blk_below (g := gb167) (o := .cells #[.int .i64 a1_0, .int .i64 a1_1, .int .i64 a1_2, .int .i64 a1_3, .int .i64 a1_4, .string a1_5, .string a1_6] 33 (0, 0)) (kF BK167.out NB167_177.out) hb); have n3_ := m_ (blk_below (g := gb168) (o := .cells #[.int .i64 0, .bool false, .string (⟨#[]⟩ : ByteArray)] 28 (0, 0)) (kF BK168.out NB168_177.out) hb); have n4_ := m_ (blk_below (g := gb177) (o := .cells #[.int .i64 (Int.tmod (wrap64 (a1_3 + 1)) 256), .bool false, .string (⟨#[]⟩ : ByteArray)] 28 (0, 0)) (kP BK177.out) hb); have n5_ := m_ (below_step (bN HB.out) hb); clear BK166; clear BK167; clear BK168; clear BK177; clear HB; have HO180 := n0_; have BK166 := n1_; have BK167 := n2_; have BK168 := n3_; have BK177 := n4_; have HB := n5_; clear n0_ n1_ n2_ n3_ n4_ n5_; clear hb ho26; have hcz27_0 : w25.cell? ⟨gb168, 0, none⟩ = some (.int .i64 0) := bc BK168 0; have hcz27_1 : w25.cell? ⟨gb168, 1, none⟩ = some (.bool false) := bc BK168 1; have hcz27_2 : w25.cell? ⟨gb168, 2, none⟩ = some (.string (⟨#[]⟩ : ByteArray)) := bc BK168 2; have hfz27_0 := blk_frozen BK168.out 0; have hfz27_1 := blk_frozen BK168.out 1; have hfz27_2 := blk_frozen BK168.out 2))
    refine bodyPost_ret (results_ct rfl _ _ gb168 28 #[.int .i64 (Int.tmod (wrap64 (a1_3 + 1)) 256), .bool false, .string (⟨#[]⟩ : ByteArray)] (0, 0) _ rfl (kP BK168.out) Tryd.underlying28 rfl (by kernel_rfl)) rfl ?_
    exact ⟨_, by first | rfl | (simp [errW_none, errW_some] <;> rfl) | (simp [*, errW_none, errW_some] <;> rfl), by (with_reducible repeat (first | apply Kd.R_alloc | apply Kd.R_drewN | apply Kd.R_drew)); exact frM (Kd.R_types HO180.out BK168.out (by decide)), by repeat (first | (with_reducible first | exact HB.out | apply below_alloc | apply pw_below_drewN | apply below_drew1 | refine below_set ?_ GE166.out | refine below_set ?_ GE167.out | refine below_set ?_ GE168.out | refine below_set ?_ GE177.out) | exact HB.out)⟩
   ·rw [if_neg c7] at H
    have c7b0 : (a1_4 == 2046) = false := beq_eq_false_iff_ne.mpr c7
    have c7b1 : (a1_4 != 2046) = true := bne_iff_ne.mpr c7
    have HC28 := Aside0.mk H
    clear H
    go_enter Tryd.func6, Tryd.ntmps6
    go_upto_region 9 with (first | ((with_reducible refine gate_dst (N := 2) rfl ?_); refine box_event ?hg (N := 2) ?hd (cs := #[.int .i64 a0_0, .bool a0_1, .string a0_2]) (t := 28) ?hr ?_; (case hd => rfl); (case hg => rfl); (case hr => first | (go_simp; done) | (go_simp; rfl)); intro gb166 hg w29 hbox hb; have n0_ := m_ (below_step (bN HB.out) hb); have n1_ := m_ (hbox); have n2_ := m_ ((by rw [hg]; exact (below_size (bN HB.out)) : w.heap.size ≤ gb166)); have n3_ := m_ ((by rw [hg]; exact (below_size (bN HB.out)) : w.heap.size ≤ gb166)); clear HB; have HB := n0_; have BK166 := n1_; have GW166 := n2_; have GE166 := n3_; clear n0_ n1_ n2_ n3_; clear hb hbox hg) | ((with_reducible refine gate_dst (N := 3) rfl ?_); refine box_event ?hg (N := 3) ?hd (cs := #[.int .i64 a1_0, .int .i64 a1_1, .int .i64 a1_2, .int .i64 a1_3, .int .i64 a1_4, .string a1_5, .string a1_6]) (t := 33) ?hr ?_; (case hd => rfl); (case hg => rfl); (case hr => first | (go_simp; done) | (go_simp; rfl)); intro gb167 hg w30 hbox hb; have n0_ := m_ (blk_below (kN BK166.out) hb); have n1_ := m_ (below_step (bN HB.out) hb); have n2_ := m_ (hbox); have n3_ := m_ ((by rw [hg]; exact (below_size (bN HB.out)) : w.heap.size ≤ gb167)); have n4_ := m_ ((by rw [hg]; exact (below_size (bN HB.out)) : w.heap.size ≤ gb167)); have n5_ := m_ (nL hg BK166.out); have n6_ := m_ (nG hg BK166.out); clear BK166; clear HB; have BK166 := n0_; have HB := n1_; have BK167 := n2_; have GW167 := n3_; have GE167 := n4_; have NB166_167 := n5_; have NB167_166 := n6_; clear n0_ n1_ n2_ n3_ n4_ n5_ n6_; clear hb hbox hg) | ((with_reducible refine gate_dst (N := 4) rfl ?_); refine box_event ?hg (N := 4) ?hd (cs := #[.int .i64 0, .bool false, .string (⟨#[]⟩ : ByteArray)]) (t := 28) ?hr ?_; (case hd => rfl); (case hg => rfl); (case hr => first | (go_simp; done) | (go_simp; rfl)); intro gb168 hg w31 hbox hb; have n0_ := m_ (blk_below (kN BK166.out) hb); have n1_ := m_ (blk_below (kN BK167.out) hb); have n2_ := m_ (below_step (bN HB.out) hb); have n3_ := m_ (hbox); have n4_ := m_ ((by rw [hg]; exact (below_size (bN HB.out)) : w.heap.size ≤ gb168)); have n5_ := m_ ((by rw [hg]; exact (below_size (bN HB.out)) : w.heap.size ≤ gb168)); have n6_ := m_ (nL hg BK166.out); have n7_ := m_ (nG hg BK166.out); have n8_ := m_ (nL hg BK167.out); have n9_ := m_ (nG hg BK167.out); clear BK166; clear BK167; clear HB; have BK166 := n0_; have BK167 := n1_; have HB := n2_; have BK168 := n3_; have GW168 := n4_; have GE168 := n5_; have NB166_168 := n6_; have NB168_166 := n7_; have NB167_168 := n8_; have NB168_167 := n9_; clear n0_ n1_ n2_ n3_ n4_ n5_ n6_ n7_ n8_ n9_; clear hb hbox hg; have hnb32 := NB166_167.out; have hnc32 := NB167_166.out; have hnb33 := NB166_168.out; have hnc33 := NB168_166.out; have hcz34_0 : w31.cell? ⟨gb166, 0, none⟩ = some (.int .i64 a0_0) := bc BK166 0; have hcz34_1 : w31.cell? ⟨gb166, 1, none⟩ = some (.bool a0_1) := bc BK166 1; have hcz34_2 : w31.cell? ⟨gb166, 2, none⟩ = some (.string a0_2) := bc BK166 2; have hfz34_0 := blk_frozen BK166.out 0; have hfz34_1 := blk_frozen BK166.out 1; have hfz34_2 := blk_frozen BK166.out 2) | ((with_reducible refine gate_callee (f := 14) rfl ?_); refine goesL_ (some 12) rfl rfl Tryd.func14 (by kernel_rfl) rfl #[.agg #[.int .i64 a0_0, .bool a0_1, .string a0_2]] rfl gl_ ?_; (with_reducible refine (spec_l12Hears.calls a0_0 a0_1 a0_2 true _ A3.out).mono ?_); rintro e w35 ⟨rfl, hb⟩; refine ⟨_, rfl, ?_⟩; have n0_ := m_ (blk_below (kN BK166.out) hb); have n1_ := m_ (blk_below (kN BK167.out) hb); have n2_ := m_ (blk_below (g := gb168) (o := .cells #[.int .i64 0, .bool false, .string (⟨#[]⟩ : ByteArray)] 28 (0, 0)) (kN BK168.out) hb); have n3_ := m_ (below_step (bN HB.out) hb); clear BK166; clear BK167; clear BK168; clear HB; have BK166 := n0_; have BK167 := n1_; have BK168 := n2_; have HB := n3_; clear n0_ n1_ n2_ n3_; (try clear hb); (try clear hb2); (try clear hk); (try clear hi); have hnb36 := NB167_168.out; have hnc36 := NB168_167.out; have hcz37_0 : w35.cell? ⟨gb167, 0, none⟩ = some (.int .i64 a1_0) := bc BK167 0; have hcz37_1 : w35.cell? ⟨gb167, 1, none⟩ = some (.int .i64 a1_1) := bc BK167 1; have hcz37_2 : w35.cell? ⟨gb167, 2, none⟩ = some (.int .i64 a1_2) := bc BK167 2; have hcz37_3 : w35.cell? ⟨gb167, 3, none⟩ = some (.int .i64 a1_3) := bc BK167 3; have hcz37_4 : w35.cell? ⟨gb167, 4, none⟩ = some (.int .i64 a1_4) := bc BK167 4; have hcz37_5 : w35.cell? ⟨gb167, 5, none⟩ = some (.string a1_5) := bc BK167 5; have hcz37_6 : w35.cell? ⟨gb167, 6, none⟩ = some (.string a1_6) := bc BK167 6; have hfz37_0 := blk_frozen BK167.out 0; have hfz37_1 := blk_frozen BK167.out 1; have hfz37_2 := blk_frozen BK167.out 2; have hfz37_3 := blk_frozen BK167.out 3; have hfz37_4 := blk_frozen BK167.out 4; have hfz37_5 := blk_frozen BK167.out 5; have hfz37_6 := blk_frozen BK167.out 6) | ((with_reducible refine gate_callee (f := 15) rfl ?_); refine goesL_ (some 17) rfl rfl Tryd.func15 (by kernel_rfl) rfl #[.agg #[.int .i64 a1_0, .int .i64 a1_1, .int .i64 a1_2, .int .i64 a1_3, .int .i64 a1_4, .string a1_5, .string a1_6]] rfl gl_ ?_; (with_reducible refine (spec_l12Ok.calls k a1_0 a1_1 a1_2 a1_3 a1_4 a1_5 a1_6 true _ A5.out).mono ?_); rintro e w38 ⟨rfl, hb⟩; refine ⟨_, rfl, ?_⟩; have n0_ := m_ (blk_below (kN BK166.out) hb); have n1_ := m_ (blk_below (kN BK167.out) hb); have n2_ := m_ (blk_below (g := gb168) (o := .cells #[.int .i64 0, .bool false, .string (⟨#[]⟩ : ByteArray)] 28 (0, 0)) (kN BK168.out) hb); have n3_ := m_ (below_step (bN HB.out) hb); clear BK166; clear BK167; clear BK168; clear HB; have BK166 := n0_; have BK167 := n1_; have BK168 := n2_; have HB := n3_; clear n0_ n1_ n2_ n3_; (try clear hb); (try clear hb2); (try clear hk); (try clear hi); have hcz39_0 : w38.cell? ⟨gb167, 0, none⟩ = some (.int .i64 a1_0) := bc BK167 0; have hcz39_1 : w38.cell? ⟨gb167, 1, none⟩ = some (.int .i64 a1_1) := bc BK167 1; have hcz39_2 : w38.cell? ⟨gb167, 2, none⟩ = some (.int .i64 a1_2) := bc BK167 2; have hcz39_3 : w38.cell? ⟨gb167, 3, none⟩ = some (.int .i64 a1_3) := bc BK167 3; have hcz39_4 : w38.cell? ⟨gb167, 4, none⟩ = some (.int .i64 a1_4) := bc BK167 4; have hcz39_5 : w38.cell? ⟨gb167, 5, none⟩ = some (.string a1_5) := bc BK167 5; have hcz39_6 : w38.cell? ⟨gb167, 6, none⟩ = some (.string a1_6) := bc BK167 6; have hfz39_0 := blk_frozen BK167.out 0; have hfz39_1 := blk_frozen BK167.out 1; have hfz39_2 := blk_frozen BK167.out 2; have hfz39_3 := blk_frozen BK167.out 3; have hfz39_4 := blk_frozen BK167.out 4; have hfz39_5 := blk_frozen BK167.out 5; have hfz39_6 := blk_frozen BK167.out 6) | ((with_reducible refine gate_dst (N := 6) rfl ?_); refine box_event ?hg (N := 6) ?hd (cs := #[.int .i64 0, .bool false, .string (⟨#[]⟩ : ByteArray)]) (t := 28) ?hr ?_; (case hd => rfl); (case hg => rfl); (case hr => first | (go_simp; done) | (go_simp; rfl)); intro gb177 hg w40 hbox hb; have n0_ := m_ (blk_below (kN BK166.out) hb); have n1_ := m_ (blk_below (kN BK167.out) hb); have n2_ := m_ (blk_below (g := gb168) (o := .cells #[.int .i64 0, .bool false, .string (⟨#[]⟩ : ByteArray)] 28 (0, 0)) (kN BK168.out) hb); have n3_ := m_ (below_step (bN HB.out) hb); have n4_ := m_ (hbox); have n5_ := m_ ((by rw [hg]; exact (below_size (bN HB.out)) : w.heap.size ≤ gb177)); have n6_ := m_ ((by rw [hg]; exact (below_size (bN HB.out)) : w.heap.size ≤ gb177)); have n7_ := m_ (nL hg BK166.out); have n8_ := m_ (nG hg BK166.out); have n9_ := m_ (nL hg BK167.out); have n10_ := m_ (nG hg BK167.out); have n11_ := m_ ((by rw [hg]; exact Nat.ne_of_lt (blk_lt (g := gb168) (o := .cells #[.int .i64 0, .bool false, .string (⟨#[]⟩ : ByteArray)] 28 (0, 0)) (kN BK168.out)) : gb168 ≠ gb177)); have n12_ := m_ ((by rw [hg]; exact Nat.ne_of_gt (blk_lt (g := gb168) (o := .cells #[.int .i64 0, .bool false, .string (⟨#[]⟩ : ByteArray)] 28 (0, 0)) (kN BK168.out)) : gb177 ≠ gb168)); clear BK166; clear BK167; clear BK168; clear HB; have BK166 := n0_; have BK167 := n1_; have BK168 := n2_; have HB := n3_; have BK177 := n4_; have GW177 := n5_; have GE177 := n6_; have NB166_177 := n7_; have NB177_166 := n8_; have NB167_177 := n9_; have NB177_167 := n10_; have NB168_177 := n11_; have NB177_168 := n12_; clear n0_ n1_ n2_ n3_ n4_ n5_ n6_ n7_ n8_ n9_ n10_ n11_ n12_; clear hb hbox hg; have hnb41 := NB177_166.out; have hnc41 := NB166_177.out; have hnb42 := NB177_167.out; have hnc42 := NB167_177.out; have hnb43 := NB177_168.out; have hnc43 := NB168_177.out; have hcz44_0 : w40.cell? ⟨gb177, 0, none⟩ = some (.int .i64 0) := bc BK177 0; have hcz44_1 : w40.cell? ⟨gb177, 1, none⟩ = some (.bool false) := bc BK177 1; have hcz44_2 : w40.cell? ⟨gb177, 2, none⟩ = some (.string (⟨#[]⟩ : ByteArray)) := bc BK177 2; have hfz44_0 := blk_frozen BK177.out 0; have hfz44_1 := blk_frozen BK177.out 1; have hfz44_2 := blk_frozen BK177.out 2; have hcz45_0 : w40.cell? ⟨gb167, 0, none⟩ = some (.int .i64 a1_0) := bc BK167 0; have hcz45_1 : w40.cell? ⟨gb167, 1, none⟩ = some (.int .i64 a1_1) := bc BK167 1; have hcz45_2 : w40.cell? ⟨gb167, 2, none⟩ = some (.int .i64 a1_2) := bc BK167 2; have hcz45_3 : w40.cell? ⟨gb167, 3, none⟩ = some (.int .i64 a1_3) := bc BK167 3; have hcz45_4 : w40.cell? ⟨gb167, 4, none⟩ = some (.int .i64 a1_4) := bc BK167 4; have hcz45_5 : w40.cell? ⟨gb167, 5, none⟩ = some (.string a1_5) := bc BK167 5; have hcz45_6 : w40.cell? ⟨gb167, 6, none⟩ = some (.string a1_6) := bc BK167 6; have hfz45_0 := blk_frozen BK167.out 0; have hfz45_1 := blk_frozen BK167.out 1; have hfz45_2 := blk_frozen BK167.out 2; have hfz45_3 := blk_frozen BK167.out 3; have hfz45_4 := blk_frozen BK167.out 4; have hfz45_5 := blk_frozen BK167.out 5; have hfz45_6 := blk_frozen BK167.out 6))
    (try simp only [Act.put, List.setIfInBounds_toArray, List.set_cons_zero, List.set_cons_succ])
    go_cut [41] (fun v41 wc => ∃ (kq : Nat) (x41_27 : Bool), v41 = .bool x41_27 ∧ Aside0 (spec_HearsDown.j0 kq x41_27 a0_0 a0_1 a0_2 a1_0 a1_1 a1_2 a1_3 a1_4 a1_5 a1_6 (Int.tmod (wrap64 (a1_3 + 1)) 256) false (⟨#[]⟩ : ByteArray) = some (r1, r2, r3, r4)) ∧ Aside0 (kq ≤ k) ∧ Aside0 (wc.heap[gb166]? = some (.cells #[.int .i64 a0_0, .bool a0_1, .string a0_2] 28 (0, 0))) ∧ Aside0 (wc.heap[gb167]? = some (.cells #[.int .i64 a1_0, .int .i64 a1_1, .int .i64 a1_2, .int .i64 a1_3, .int .i64 a1_4, .string a1_5, .string a1_6] 33 (0, 0))) ∧ Aside0 (wc.heap[gb168]? = some (.cells #[.int .i64 0, .bool false, .string (⟨#[]⟩ : ByteArray)] 28 (0, 0))) ∧ Aside0 (wc.heap[gb177]? = some (.cells #[.int .i64 (Int.tmod (wrap64 (a1_3 + 1)) 256), .bool false, .string (⟨#[]⟩ : ByteArray)] 28 (0, 0))) ∧ Aside0 (Below w.heap.size w wc))
    case first =>
     have H := HC28.out
     clear HC28
     by_cases c46 : a0_1 = true
     ·subst c46
      have H1 : (spec_HearsDown.j0 k (a1_3 == a0_0) a0_0 true a0_2 a1_0 a1_1 a1_2 a1_3 a1_4 a1_5 a1_6 (Int.tmod (wrap64 (a1_3 + 1)) 256) false (⟨#[]⟩ : ByteArray)) = some (r1, r2, r3, r4) := by rw [if_pos rfl] at H; exact H
      clear H
      have H := H1
      clear H1
      have H' := Aside0.mk H
      clear H
      have hnb47 := NB166_167.out
      have hnc47 := NB167_166.out
      have hnb48 := NB166_168.out
      have hnc48 := NB168_166.out
      have hnb49 := NB166_177.out
      have hnc49 := NB177_166.out
      have hcz50_0 : w40.cell? ⟨gb166, 0, none⟩ = some (.int .i64 a0_0) := bc BK166 0
      have hcz50_1 : w40.cell? ⟨gb166, 1, none⟩ = some (.bool true) := bc BK166 1
      have hcz50_2 : w40.cell? ⟨gb166, 2, none⟩ = some (.string a0_2) := bc BK166 2
      have hfz50_0 := blk_frozen BK166.out 0
      have hfz50_1 := blk_frozen BK166.out 1
      have hfz50_2 := blk_frozen BK166.out 2
      have hnb51 := NB167_168.out
      have hnc51 := NB168_167.out
      have hnb52 := NB167_177.out
      have hnc52 := NB177_167.out
      have hcz53_0 : w40.cell? ⟨gb167, 0, none⟩ = some (.int .i64 a1_0) := bc BK167 0
      have hcz53_1 : w40.cell? ⟨gb167, 1, none⟩ = some (.int .i64 a1_1) := bc BK167 1
      have hcz53_2 : w40.cell? ⟨gb167, 2, none⟩ = some (.int .i64 a1_2) := bc BK167 2
      have hcz53_3 : w40.cell? ⟨gb167, 3, none⟩ = some (.int .i64 a1_3) := bc BK167 3
      have hcz53_4 : w40.cell? ⟨gb167, 4, none⟩ = some (.int .i64 a1_4) := bc BK167 4
      have hcz53_5 : w40.cell? ⟨gb167, 5, none⟩ = some (.string a1_5) := bc BK167 5
      have hcz53_6 : w40.cell? ⟨gb167, 6, none⟩ = some (.string a1_6) := bc BK167 6
      have hfz53_0 := blk_frozen BK167.out 0
      have hfz53_1 := blk_frozen BK167.out 1
      have hfz53_2 := blk_frozen BK167.out 2
      have hfz53_3 := blk_frozen BK167.out 3
      have hfz53_4 := blk_frozen BK167.out 4
      have hfz53_5 := blk_frozen BK167.out 5
      have hfz53_6 := blk_frozen BK167.out 6
      go_wp2
      go_meet
      case rel => exact ⟨_, ((a1_3 == a0_0)), (by first | rfl | (simp; done) | (simp [*]; done)), H', ⟨by first | omega | exact Nat.le_refl _⟩, ⟨kF BK166.out NB166_177.out⟩, ⟨kF BK167.out NB167_177.out⟩, ⟨kF BK168.out NB168_177.out⟩, ⟨kP BK177.out⟩, ⟨by repeat (first | (with_reducible first | exact HB.out | apply below_alloc | apply pw_below_drewN | apply below_drew1 | refine below_set ?_ GE166.out | refine below_set ?_ GE167.out | refine below_set ?_ GE168.out | refine below_set ?_ GE177.out) | exact HB.out)⟩⟩
     ·replace c46 := Bool.eq_false_iff.mpr c46
      subst c46
      have H1 : (spec_HearsDown.j0 k false a0_0 false a0_2 a1_0 a1_1 a1_2 a1_3 a1_4 a1_5 a1_6 (Int.tmod (wrap64 (a1_3 + 1)) 256) false (⟨#[]⟩ : ByteArray)) = some (r1, r2, r3, r4) := by rw [if_neg (show ¬ (false = true) by decide)] at H; exact H
      clear H
      have H := H1
      clear H1
      have H' := Aside0.mk H
      clear H
      have hnb54 := NB166_167.out
      have hnc54 := NB167_166.out
      have hnb55 := NB166_168.out
      have hnc55 := NB168_166.out
      have hnb56 := NB166_177.out
      have hnc56 := NB177_166.out
      have hcz57_0 : w40.cell? ⟨gb166, 0, none⟩ = some (.int .i64 a0_0) := bc BK166 0
      have hcz57_1 : w40.cell? ⟨gb166, 1, none⟩ = some (.bool false) := bc BK166 1
      have hcz57_2 : w40.cell? ⟨gb166, 2, none⟩ = some (.string a0_2) := bc BK166 2
      have hfz57_0 := blk_frozen BK166.out 0
      have hfz57_1 := blk_frozen BK166.out 1
      have hfz57_2 := blk_frozen BK166.out 2
      go_wp2
      go_meet
      case rel => exact ⟨_, (false), (by first | rfl | (simp; done) | (simp [*]; done)), H', ⟨by first | omega | exact Nat.le_refl _⟩, ⟨kF BK166.out NB166_177.out⟩, ⟨kF BK167.out NB167_177.out⟩, ⟨kF BK168.out NB168_177.out⟩, ⟨kP BK177.out⟩, ⟨by repeat (first | (with_reducible first | exact HB.out | apply below_alloc | apply pw_below_drewN | apply below_drew1 | refine below_set ?_ GE166.out | refine below_set ?_ GE167.out | refine below_set ?_ GE168.out | refine below_set ?_ GE177.out) | exact HB.out)⟩⟩
    case rest =>
     clear HC28
     try clear c1
     try clear c2
     try clear p2
     try clear c3
     try clear c4
     try clear c5
     try clear c6
     try clear p6
     try clear c7
     try clear c7b0
     try clear c7b1
     try clear c11
     try clear c12
     try clear c14
     try clear c15
     try clear c20
     try clear c21
     try clear c22
     try clear c32
     try clear c33
     try clear c36
     try clear c41
     try clear c42
     try clear c43
     try clear c46
     try clear c47
     try clear c48
     try clear c49
     try clear c51
     try clear c52
     try clear c54
     try clear c55
     try clear c56
     try clear hcz13_0
     try clear hcz13_1
     try clear hcz13_2
     try clear hcz16_0
     try clear hcz16_1
     try clear hcz16_2
     try clear hcz16_3
     try clear hcz16_4
     try clear hcz16_5
     try clear hcz16_6
     try clear hcz18_0
     try clear hcz18_1
     try clear hcz18_2
     try clear hcz18_3
     try clear hcz18_4
     try clear hcz18_5
     try clear hcz18_6
     try clear hcz23_0
     try clear hcz23_1
     try clear hcz23_2
     try clear hcz24_0
     try clear hcz24_1
     try clear hcz24_2
     try clear hcz24_3
     try clear hcz24_4
     try clear hcz24_5
     try clear hcz24_6
     try clear hcz27_0
     try clear hcz27_1
     try clear hcz27_2
     try clear hcz34_0
     try clear hcz34_1
     try clear hcz34_2
     try clear hcz37_0
     try clear hcz37_1
     try clear hcz37_2
     try clear hcz37_3
     try clear hcz37_4
     try clear hcz37_5
     try clear hcz37_6
     try clear hcz39_0
     try clear hcz39_1
     try clear hcz39_2
     try clear hcz39_3
     try clear hcz39_4
     try clear hcz39_5
     try clear hcz39_6
     try clear hcz44_0
     try clear hcz44_1
     try clear hcz44_2
     try clear hcz45_0
     try clear hcz45_1
     try clear hcz45_2
     try clear hcz45_3
     try clear hcz45_4
     try clear hcz45_5
     try clear hcz45_6
     try clear hcz50_0
     try clear hcz50_1
     try clear hcz50_2
     try clear hcz53_0
     try clear hcz53_1
     try clear hcz53_2
     try clear hcz53_3
     try clear hcz53_4
     try clear hcz53_5
     try clear hcz53_6
     try clear hcz57_0
     try clear hcz57_1
     try clear hcz57_2
     try clear hfz13_0
     try clear hfz13_1
     try clear hfz13_2
     try clear hfz16_0
     try clear hfz16_1
     try clear hfz16_2
     try clear hfz16_3
     try clear hfz16_4
     try clear hfz16_5
     try clear hfz16_6
     try clear hfz18_0
     try clear hfz18_1
     try clear hfz18_2
     try clear hfz18_3
     try clear hfz18_4
     try clear hfz18_5
     try clear hfz18_6
     try clear hfz23_0
     try clear hfz23_1
     try clear hfz23_2
     try clear hfz24_0
     try clear hfz24_1
     try clear hfz24_2
     try clear hfz24_3
     try clear hfz24_4
     try clear hfz24_5
     try clear hfz24_6
     try clear hfz27_0
     try clear hfz27_1
     try clear hfz27_2
     try clear hfz34_0
     try clear hfz34_1
     try clear hfz34_2
     try clear hfz37_0
     try clear hfz37_1
     try clear hfz37_2
     try clear hfz37_3
     try clear hfz37_4
     try clear hfz37_5
     try clear hfz37_6
     try clear hfz39_0
     try clear hfz39_1
     try clear hfz39_2
     try clear hfz39_3
     try clear hfz39_4
     try clear hfz39_5
     try clear hfz39_6
     try clear hfz44_0
     try clear hfz44_1
     try clear hfz44_2
     try clear hfz45_0
     try clear hfz45_1
     try clear hfz45_2
     try clear hfz45_3
     try clear hfz45_4
     try clear hfz45_5
     try clear hfz45_6
     try clear hfz50_0
     try clear hfz50_1
     try clear hfz50_2
     try clear hfz53_0
     try clear hfz53_1
     try clear hfz53_2
     try clear hfz53_3
     try clear hfz53_4
     try clear hfz53_5
     try clear hfz53_6
     try clear hfz57_0
     try clear hfz57_1
     try clear hfz57_2
     obtain ⟨kq, x41_27, rfl, HA, HJ27, BK166, BK167, BK168, BK177, HB⟩ := hcut
     cases kq with
     | zero => exact absurd HA.out (by simp [spec_HearsDown.j0])
     | succ kj27 =>
      have H := HA.out
      clear HA
      simp only [spec_HearsDown.j0] at H
      by_cases c58 : x41_27 = true
      ·subst c58
       have H1 : (if a0_2.size + a1_5.size ≤ 9223372036854775807 then ((spec_l12Cut.f kj27 (a0_2 ++ a1_5)).bind fun bt181 => (some ((Int.tmod (wrap64 (a1_3 + 1)) 256), bt181.2.2, bt181.1, bt181.2.1))) else (none)) = some (r1, r2, r3, r4) := by rw [if_pos rfl] at H; exact H
       clear H
       have H := H1
       clear H1
       by_cases c59 : a0_2.size + a1_5.size ≤ 9223372036854775807
       ·rw [if_pos c59] at H
        have c59b0 := eq_true c59
        have c59b1 : decide (a0_2.size + a1_5.size ≤ 9223372036854775807) = true := decide_eq_true c59
        try have c59b2 : (9223372036854775807 < a0_2.size + a1_5.size) = False := eq_false (Nat.not_lt.2 c59)
        replace H := Option.bind_eq_some_iff.mp H
        obtain ⟨⟨t181, t182, t183⟩, A600, H⟩ := H
        replace H : (some ((Int.tmod (wrap64 (a1_3 + 1)) 256), t183, t181, t182)) = some (r1, r2, r3, r4) := H
        have A60 := Aside0.mk A600
        clear A600
        simp only [Option.some.injEq, Prod.mk.injEq] at H
        obtain ⟨rfl, rfl, rfl, rfl⟩ := H
        have hnb61 := NB166_167.out
        have hnc61 := NB167_166.out
        have hnb62 := NB166_168.out
        have hnc62 := NB168_166.out
        have hnb63 := NB166_177.out
        have hnc63 := NB177_166.out
        have hcz64_0 : wc.cell? ⟨gb166, 0, none⟩ = some (.int .i64 a0_0) := bc BK166 0
        have hcz64_1 : wc.cell? ⟨gb166, 1, none⟩ = some (.bool a0_1) := bc BK166 1
        have hcz64_2 : wc.cell? ⟨gb166, 2, none⟩ = some (.string a0_2) := bc BK166 2
        have hfz64_0 := blk_frozen BK166.out 0
        have hfz64_1 := blk_frozen BK166.out 1
        have hfz64_2 := blk_frozen BK166.out 2
        have hnb65 := NB167_168.out
        have hnc65 := NB168_167.out
        have hnb66 := NB167_177.out
        have hnc66 := NB177_167.out
        have hcz67_0 : wc.cell? ⟨gb167, 0, none⟩ = some (.int .i64 a1_0) := bc BK167 0
        have hcz67_1 : wc.cell? ⟨gb167, 1, none⟩ = some (.int .i64 a1_1) := bc BK167 1
        have hcz67_2 : wc.cell? ⟨gb167, 2, none⟩ = some (.int .i64 a1_2) := bc BK167 2
        have hcz67_3 : wc.cell? ⟨gb167, 3, none⟩ = some (.int .i64 a1_3) := bc BK167 3
        have hcz67_4 : wc.cell? ⟨gb167, 4, none⟩ = some (.int .i64 a1_4) := bc BK167 4
        have hcz67_5 : wc.cell? ⟨gb167, 5, none⟩ = some (.string a1_5) := bc BK167 5
        have hcz67_6 : wc.cell? ⟨gb167, 6, none⟩ = some (.string a1_6) := bc BK167 6
        have hfz67_0 := blk_frozen BK167.out 0
        have hfz67_1 := blk_frozen BK167.out 1
        have hfz67_2 := blk_frozen BK167.out 2
        have hfz67_3 := blk_frozen BK167.out 3
        have hfz67_4 := blk_frozen BK167.out 4
        have hfz67_5 := blk_frozen BK167.out 5
        have hfz67_6 := blk_frozen BK167.out 6
        go_wp2_with (first | ((with_reducible refine gate_callee (f := 16) rfl ?_); refine goesL_ (some 59) rfl rfl Tryd.func16 (by kernel_rfl) rfl #[.string (a0_2 ++ a1_5)] rfl gl_ ?_; (with_reducible refine (spec_l12Cut.calls kj27 (a0_2 ++ a1_5) t181 t182 t183 _ A60.out).mono ?_); rintro e w68 ⟨v184, rfl, ho0, hb⟩; refine ⟨_, rfl, ?_⟩; have n0_ := m_ (Kd.R_lower ho0 (below_size (bN HB.out))); have n1_ := m_ (blk_below (kN BK166.out) hb); have n2_ := m_ (blk_below (kN BK167.out) hb); have n3_ := m_ (blk_below (g := gb168) (o := .cells #[.int .i64 0, .bool false, .string (⟨#[]⟩ : ByteArray)] 28 (0, 0)) (kN BK168.out) hb); have n4_ := m_ (blk_below (g := gb177) (o := .cells #[.int .i64 (Int.tmod (wrap64 (a1_3 + 1)) 256), .bool false, .string (⟨#[]⟩ : ByteArray)] 28 (0, 0)) (kN BK177.out) hb); have n5_ := m_ (below_step (bN HB.out) hb); clear BK166; clear BK167; clear BK168; clear BK177; clear HB; have HO185 := n0_; have BK166 := n1_; have BK167 := n2_; have BK168 := n3_; have BK177 := n4_; have HB := n5_; clear n0_ n1_ n2_ n3_ n4_ n5_; (try clear hb); (try clear hb2); (try clear hk); (try clear hi); (try clear ho0); have hnb69 := NB177_168.out; have hnc69 := NB168_177.out; have hcz70_0 : w68.cell? ⟨gb177, 0, none⟩ = some (.int .i64 (Int.tmod (wrap64 (a1_3 + 1)) 256)) := bc BK177 0; have hcz70_1 : w68.cell? ⟨gb177, 1, none⟩ = some (.bool false) := bc BK177 1; have hcz70_2 : w68.cell? ⟨gb177, 2, none⟩ = some (.string (⟨#[]⟩ : ByteArray)) := bc BK177 2; have hfz70_0 := blk_frozen BK177.out 0; have hfz70_1 := blk_frozen BK177.out 1; have hfz70_2 := blk_frozen BK177.out 2; have hcz71_0 : w68.cell? ⟨gb168, 0, none⟩ = some (.int .i64 0) := bc BK168 0; have hcz71_1 : w68.cell? ⟨gb168, 1, none⟩ = some (.bool false) := bc BK168 1; have hcz71_2 : w68.cell? ⟨gb168, 2, none⟩ = some (.string (⟨#[]⟩ : ByteArray)) := bc BK168 2; have hfz71_0 := blk_frozen BK168.out 0; have hfz71_1 := blk_frozen BK168.out 1; have hfz71_2 := blk_frozen BK168.out 2))
        refine bodyPost_ret (results_ct rfl _ _ gb168 28 #[.int .i64 (Int.tmod (wrap64 (a1_3 + 1)) 256), .bool t183, .string t181] (0, 0) _ rfl (kR BK168.out NB168_177.out) Tryd.underlying28 rfl (by kernel_rfl)) rfl ?_
        exact ⟨_, by first | rfl | (simp [errW_none, errW_some] <;> rfl) | (simp [*, errW_none, errW_some] <;> rfl), by (with_reducible repeat (first | apply Kd.R_alloc | apply Kd.R_drewN | apply Kd.R_drew)); exact frM (Kd.R_types (Kd.R_types HO185.out BK177.out (by decide)) BK168.out (by decide)), by repeat (first | (with_reducible first | exact HB.out | apply below_alloc | apply pw_below_drewN | apply below_drew1 | refine below_set ?_ GE166.out | refine below_set ?_ GE167.out | refine below_set ?_ GE168.out | refine below_set ?_ GE177.out) | exact HB.out)⟩
       ·rw [if_neg c59] at H
        exact absurd H (by simp)
      ·replace c58 := Bool.eq_false_iff.mpr c58
       subst c58
       have H1 : (if a1_4 = 2047 then (some ((Int.tmod (wrap64 (a1_3 + 1)) 256), false, (⟨#[]⟩ : ByteArray), (([] : List ByteArray)))) else (if 0 ≤ a1_4 then (if a1_4 ≤ (a1_5.size : Int) then ((spec_l12Cut.f kj27 (a1_5.extract (a1_4 : Int).toNat a1_5.size)).bind fun bt189 => (some ((Int.tmod (wrap64 (a1_3 + 1)) 256), bt189.2.2, bt189.1, bt189.2.1))) else (none)) else (none))) = some (r1, r2, r3, r4) := by rw [if_neg (show ¬ (false = true) by decide)] at H; exact H
       clear H
       have H := H1
       clear H1
       by_cases c72 : a1_4 = 2047
       ·rw [if_pos c72] at H
        have c72b0 : (a1_4 == 2047) = true := beq_iff_eq.mpr c72
        have c72b1 : (a1_4 != 2047) = false := bne_eq_false_iff_eq.mpr c72
        clear c72
        obtain ⟨y186, hy186⟩ : ∃ y_ : List ByteArray, y_ = (([] : List ByteArray)) := ⟨_, rfl⟩
        replace H : (some ((Int.tmod (wrap64 (a1_3 + 1)) 256), false, (⟨#[]⟩ : ByteArray), y186)) = some (r1, r2, r3, r4) := by first | (rw [hy186]; with_reducible exact H) | (have H2_ := (Option.bind_some _ _).symm.trans H; rw [hy186]; with_reducible exact H2_) | (have H2_ := (Option.bind_some _ _).symm.trans H; with_reducible exact H2_) | with_reducible exact H | (rw [hy186]; exact H) | exact H
        have Ny186 := Aside0.mk hy186
        clear hy186
        simp only [Option.some.injEq, Prod.mk.injEq] at H
        obtain ⟨rfl, rfl, rfl, rfl⟩ := H
        have hnb73 := NB167_166.out
        have hnc73 := NB166_167.out
        have hnb74 := NB167_168.out
        have hnc74 := NB168_167.out
        have hnb75 := NB167_177.out
        have hnc75 := NB177_167.out
        have hcz76_0 : wc.cell? ⟨gb167, 0, none⟩ = some (.int .i64 a1_0) := bc BK167 0
        have hcz76_1 : wc.cell? ⟨gb167, 1, none⟩ = some (.int .i64 a1_1) := bc BK167 1
        have hcz76_2 : wc.cell? ⟨gb167, 2, none⟩ = some (.int .i64 a1_2) := bc BK167 2
        have hcz76_3 : wc.cell? ⟨gb167, 3, none⟩ = some (.int .i64 a1_3) := bc BK167 3
        have hcz76_4 : wc.cell? ⟨gb167, 4, none⟩ = some (.int .i64 a1_4) := bc BK167 4
        have hcz76_5 : wc.cell? ⟨gb167, 5, none⟩ = some (.string a1_5) := bc BK167 5
        have hcz76_6 : wc.cell? ⟨gb167, 6, none⟩ = some (.string a1_6) := bc BK167 6
        have hfz76_0 := blk_frozen BK167.out 0
        have hfz76_1 := blk_frozen BK167.out 1
        have hfz76_2 := blk_frozen BK167.out 2
        have hfz76_3 := blk_frozen BK167.out 3
        have hfz76_4 := blk_frozen BK167.out 4
        have hfz76_5 := blk_frozen BK167.out 5
        have hfz76_6 := blk_frozen BK167.out 6
        have hnb77 := NB177_166.out
        have hnc77 := NB166_177.out
        have hnb78 := NB177_168.out
        have hnc78 := NB168_177.out
        have hcz79_0 : wc.cell? ⟨gb177, 0, none⟩ = some (.int .i64 (Int.tmod (wrap64 (a1_3 + 1)) 256)) := bc BK177 0
        have hcz79_1 : wc.cell? ⟨gb177, 1, none⟩ = some (.bool false) := bc BK177 1
        have hcz79_2 : wc.cell? ⟨gb177, 2, none⟩ = some (.string (⟨#[]⟩ : ByteArray)) := bc BK177 2
        have hfz79_0 := blk_frozen BK177.out 0
        have hfz79_1 := blk_frozen BK177.out 1
        have hfz79_2 := blk_frozen BK177.out 2
        go_wp2_with (first | ((with_reducible refine gate_dst (N := 51) rfl ?_); refine Kd.R_lit Kd.string _ 9 ?hg (N := 51) ?hd (xs := ([] : List ByteArray)) (inner := []) (ok := fun _ => True) (okp := fun _ => True) ?hr ?hp (fun _ hk => hk) trivial (Below.refl _ _) (Nat.le_refl _) (by simp) ?_; (case hd => rfl); (case hg => rfl); (case hr => first | (go_simp; done) | (go_simp; rfl)); (case hp => exact (Reps.none _ _)); intro v187 w80 ho81 hb hg_ hnew_; clear hg_ hnew_; (first | rw [← Ny186.out] at ho81 | (simp only [Int.reduceToNat] at ho81; rw [← Ny186.out] at ho81)); have n0_ := m_ (Kd.R_lower ho81 (below_size (bN HB.out))); have n1_ := m_ (blk_below (kN BK166.out) hb); have n2_ := m_ (blk_below (kN BK167.out) hb); have n3_ := m_ (blk_below (g := gb168) (o := .cells #[.int .i64 0, .bool false, .string (⟨#[]⟩ : ByteArray)] 28 (0, 0)) (kN BK168.out) hb); have n4_ := m_ (blk_below (g := gb177) (o := .cells #[.int .i64 (Int.tmod (wrap64 (a1_3 + 1)) 256), .bool false, .string (⟨#[]⟩ : ByteArray)] 28 (0, 0)) (kN BK177.out) hb); have n5_ := m_ (below_step (bN HB.out) hb); clear BK166; clear BK167; clear BK168; clear BK177; clear HB; have HO188 := n0_; have BK166 := n1_; have BK167 := n2_; have BK168 := n3_; have BK177 := n4_; have HB := n5_; clear n0_ n1_ n2_ n3_ n4_ n5_; clear hb ho81; have hnb82 := NB168_166.out; have hnc82 := NB166_168.out; have hcz83_0 : w80.cell? ⟨gb168, 0, none⟩ = some (.int .i64 0) := bc BK168 0; have hcz83_1 : w80.cell? ⟨gb168, 1, none⟩ = some (.bool false) := bc BK168 1; have hcz83_2 : w80.cell? ⟨gb168, 2, none⟩ = some (.string (⟨#[]⟩ : ByteArray)) := bc BK168 2; have hfz83_0 := blk_frozen BK168.out 0; have hfz83_1 := blk_frozen BK168.out 1; have hfz83_2 := blk_frozen BK168.out 2))
        refine bodyPost_ret (results_ct rfl _ _ gb168 28 #[.int .i64 (Int.tmod (wrap64 (a1_3 + 1)) 256), .bool false, .string (⟨#[]⟩ : ByteArray)] (0, 0) _ rfl (kP BK168.out) Tryd.underlying28 rfl (by kernel_rfl)) rfl ?_
        exact ⟨_, by first | rfl | (simp [errW_none, errW_some] <;> rfl) | (simp [*, errW_none, errW_some] <;> rfl), by (with_reducible repeat (first | apply Kd.R_alloc | apply Kd.R_drewN | apply Kd.R_drew)); exact frM (Kd.R_types HO188.out BK168.out (by decide)), by repeat (first | (with_reducible first | exact HB.out | apply below_alloc | apply pw_below_drewN | apply below_drew1 | refine below_set ?_ GE166.out | refine below_set ?_ GE167.out | refine below_set ?_ GE168.out | refine below_set ?_ GE177.out) | exact HB.out)⟩
       ·rw [if_neg c72] at H
        have c72b0 : (a1_4 == 2047) = false := beq_eq_false_iff_ne.mpr c72
        have c72b1 : (a1_4 != 2047) = true := bne_iff_ne.mpr c72
        by_cases c84 : 0 ≤ a1_4
        ·rw [if_pos c84] at H
         have c84b0 := eq_true c84
         have c84b1 : decide (0 ≤ a1_4) = true := decide_eq_true c84
         clear c84
         by_cases c85 : a1_4 ≤ (a1_5.size : Int)
         ·rw [if_pos c85] at H
          have c85b0 := eq_true c85
          have c85b1 : decide (a1_4 ≤ (a1_5.size : Int)) = true := decide_eq_true c85
          clear c85
          replace H := Option.bind_eq_some_iff.mp H
          obtain ⟨⟨t189, t190, t191⟩, A860, H⟩ := H
          replace H : (some ((Int.tmod (wrap64 (a1_3 + 1)) 256), t191, t189, t190)) = some (r1, r2, r3, r4) := H
          have A86 := Aside0.mk A860
          clear A860
          simp only [Option.some.injEq, Prod.mk.injEq] at H
          obtain ⟨rfl, rfl, rfl, rfl⟩ := H
          have hnb87 := NB167_166.out
          have hnc87 := NB166_167.out
          have hnb88 := NB167_168.out
          have hnc88 := NB168_167.out
          have hnb89 := NB167_177.out
          have hnc89 := NB177_167.out
          have hcz90_0 : wc.cell? ⟨gb167, 0, none⟩ = some (.int .i64 a1_0) := bc BK167 0
          have hcz90_1 : wc.cell? ⟨gb167, 1, none⟩ = some (.int .i64 a1_1) := bc BK167 1
          have hcz90_2 : wc.cell? ⟨gb167, 2, none⟩ = some (.int .i64 a1_2) := bc BK167 2
          have hcz90_3 : wc.cell? ⟨gb167, 3, none⟩ = some (.int .i64 a1_3) := bc BK167 3
          have hcz90_4 : wc.cell? ⟨gb167, 4, none⟩ = some (.int .i64 a1_4) := bc BK167 4
          have hcz90_5 : wc.cell? ⟨gb167, 5, none⟩ = some (.string a1_5) := bc BK167 5
          have hcz90_6 : wc.cell? ⟨gb167, 6, none⟩ = some (.string a1_6) := bc BK167 6
          have hfz90_0 := blk_frozen BK167.out 0
          have hfz90_1 := blk_frozen BK167.out 1
          have hfz90_2 := blk_frozen BK167.out 2
          have hfz90_3 := blk_frozen BK167.out 3
          have hfz90_4 := blk_frozen BK167.out 4
          have hfz90_5 := blk_frozen BK167.out 5
          have hfz90_6 := blk_frozen BK167.out 6
          go_wp2_with (first | ((with_reducible refine gate_callee (f := 16) rfl ?_); refine goesL_ (some 59) rfl rfl Tryd.func16 (by kernel_rfl) rfl #[.string (a1_5.extract (a1_4 : Int).toNat a1_5.size)] rfl gl_ ?_; (with_reducible refine (spec_l12Cut.calls kj27 (a1_5.extract (a1_4 : Int).toNat a1_5.size) t189 t190 t191 _ A86.out).mono ?_); rintro e w91 ⟨v192, rfl, ho0, hb⟩; refine ⟨_, rfl, ?_⟩; have n0_ := m_ (Kd.R_lower ho0 (below_size (bN HB.out))); have n1_ := m_ (blk_below (kN BK166.out) hb); have n2_ := m_ (blk_below (kN BK167.out) hb); have n3_ := m_ (blk_below (g := gb168) (o := .cells #[.int .i64 0, .bool false, .string (⟨#[]⟩ : ByteArray)] 28 (0, 0)) (kN BK168.out) hb); have n4_ := m_ (blk_below (g := gb177) (o := .cells #[.int .i64 (Int.tmod (wrap64 (a1_3 + 1)) 256), .bool false, .string (⟨#[]⟩ : ByteArray)] 28 (0, 0)) (kN BK177.out) hb); have n5_ := m_ (below_step (bN HB.out) hb); clear BK166; clear BK167; clear BK168; clear BK177; clear HB; have HO193 := n0_; have BK166 := n1_; have BK167 := n2_; have BK168 := n3_; have BK177 := n4_; have HB := n5_; clear n0_ n1_ n2_ n3_ n4_ n5_; (try clear hb); (try clear hb2); (try clear hk); (try clear hi); (try clear ho0); have hnb92 := NB177_166.out; have hnc92 := NB166_177.out; have hnb93 := NB177_168.out; have hnc93 := NB168_177.out; have hcz94_0 : w91.cell? ⟨gb177, 0, none⟩ = some (.int .i64 (Int.tmod (wrap64 (a1_3 + 1)) 256)) := bc BK177 0; have hcz94_1 : w91.cell? ⟨gb177, 1, none⟩ = some (.bool false) := bc BK177 1; have hcz94_2 : w91.cell? ⟨gb177, 2, none⟩ = some (.string (⟨#[]⟩ : ByteArray)) := bc BK177 2; have hfz94_0 := blk_frozen BK177.out 0; have hfz94_1 := blk_frozen BK177.out 1; have hfz94_2 := blk_frozen BK177.out 2; have hnb95 := NB168_166.out; have hnc95 := NB166_168.out; have hcz96_0 : w91.cell? ⟨gb168, 0, none⟩ = some (.int .i64 0) := bc BK168 0; have hcz96_1 : w91.cell? ⟨gb168, 1, none⟩ = some (.bool false) := bc BK168 1; have hcz96_2 : w91.cell? ⟨gb168, 2, none⟩ = some (.string (⟨#[]⟩ : ByteArray)) := bc BK168 2; have hfz96_0 := blk_frozen BK168.out 0; have hfz96_1 := blk_frozen BK168.out 1; have hfz96_2 := blk_frozen BK168.out 2))
          refine bodyPost_ret (results_ct rfl _ _ gb168 28 #[.int .i64 (Int.tmod (wrap64 (a1_3 + 1)) 256), .bool t191, .string t189] (0, 0) _ rfl (kR BK168.out NB168_177.out) Tryd.underlying28 rfl (by kernel_rfl)) rfl ?_
          exact ⟨_, by first | rfl | (simp [errW_none, errW_some] <;> rfl) | (simp [*, errW_none, errW_some] <;> rfl), by (with_reducible repeat (first | apply Kd.R_alloc | apply Kd.R_drewN | apply Kd.R_drew)); exact frM (Kd.R_types (Kd.R_types HO193.out BK177.out (by decide)) BK168.out (by decide)), by repeat (first | (with_reducible first | exact HB.out | apply below_alloc | apply pw_below_drewN | apply below_drew1 | refine below_set ?_ GE166.out | refine below_set ?_ GE167.out | refine below_set ?_ GE168.out | refine below_set ?_ GE177.out) | exact HB.out)⟩
         ·rw [if_neg c85] at H
          exact absurd H (by simp)
        ·rw [if_neg c84] at H
         exact absurd H (by simp)
  ·replace c6 := Bool.eq_false_iff.mpr c6
   subst c6
   have H1 : (some (a0_0, a0_1, a0_2, (([] : List ByteArray)))) = some (r1, r2, r3, r4) := by rw [if_neg (show ¬ (false = true) by decide)] at H; exact H
   clear H
   have H := H1
   clear H1
   obtain ⟨y174, hy174⟩ : ∃ y_ : List ByteArray, y_ = (([] : List ByteArray)) := ⟨_, rfl⟩
   replace H : (some (a0_0, a0_1, a0_2, y174)) = some (r1, r2, r3, r4) := by first | (rw [hy174]; with_reducible exact H) | (have H2_ := (Option.bind_some _ _).symm.trans H; rw [hy174]; with_reducible exact H2_) | (have H2_ := (Option.bind_some _ _).symm.trans H; with_reducible exact H2_) | with_reducible exact H | (rw [hy174]; exact H) | exact H
   have Ny174 := Aside0.mk hy174
   clear hy174
   simp only [Option.some.injEq, Prod.mk.injEq] at H
   obtain ⟨rfl, rfl, rfl, rfl⟩ := H
   go_enter Tryd.func6, Tryd.ntmps6
   go_wp2_with (first | ((with_reducible refine gate_dst (N := 2) rfl ?_); refine box_event ?hg (N := 2) ?hd (cs := #[.int .i64 a0_0, .bool a0_1, .string a0_2]) (t := 28) ?hr ?_; (case hd => rfl); (case hg => rfl); (case hr => first | (go_simp; done) | (go_simp; rfl)); intro gb166 hg w97 hbox hb; have n0_ := m_ (below_step (bN HB.out) hb); have n1_ := m_ (hbox); have n2_ := m_ ((by rw [hg]; exact (below_size (bN HB.out)) : w.heap.size ≤ gb166)); have n3_ := m_ ((by rw [hg]; exact (below_size (bN HB.out)) : w.heap.size ≤ gb166)); clear HB; have HB := n0_; have BK166 := n1_; have GW166 := n2_; have GE166 := n3_; clear n0_ n1_ n2_ n3_; clear hb hbox hg) | ((with_reducible refine gate_dst (N := 3) rfl ?_); refine box_event ?hg (N := 3) ?hd (cs := #[.int .i64 a1_0, .int .i64 a1_1, .int .i64 a1_2, .int .i64 a1_3, .int .i64 a1_4, .string a1_5, .string a1_6]) (t := 33) ?hr ?_; (case hd => rfl); (case hg => rfl); (case hr => first | (go_simp; done) | (go_simp; rfl)); intro gb167 hg w98 hbox hb; have n0_ := m_ (blk_below (kN BK166.out) hb); have n1_ := m_ (below_step (bN HB.out) hb); have n2_ := m_ (hbox); have n3_ := m_ ((by rw [hg]; exact (below_size (bN HB.out)) : w.heap.size ≤ gb167)); have n4_ := m_ ((by rw [hg]; exact (below_size (bN HB.out)) : w.heap.size ≤ gb167)); have n5_ := m_ (nL hg BK166.out); have n6_ := m_ (nG hg BK166.out); clear BK166; clear HB; have BK166 := n0_; have HB := n1_; have BK167 := n2_; have GW167 := n3_; have GE167 := n4_; have NB166_167 := n5_; have NB167_166 := n6_; clear n0_ n1_ n2_ n3_ n4_ n5_ n6_; clear hb hbox hg) | ((with_reducible refine gate_dst (N := 4) rfl ?_); refine box_event ?hg (N := 4) ?hd (cs := #[.int .i64 0, .bool false, .string (⟨#[]⟩ : ByteArray)]) (t := 28) ?hr ?_; (case hd => rfl); (case hg => rfl); (case hr => first | (go_simp; done) | (go_simp; rfl)); intro gb168 hg w99 hbox hb; have n0_ := m_ (blk_below (kN BK166.out) hb); have n1_ := m_ (blk_below (kN BK167.out) hb); have n2_ := m_ (below_step (bN HB.out) hb); have n3_ := m_ (hbox); have n4_ := m_ ((by rw [hg]; exact (below_size (bN HB.out)) : w.heap.size ≤ gb168)); have n5_ := m_ ((by rw [hg]; exact (below_size (bN HB.out)) : w.heap.size ≤ gb168)); have n6_ := m_ (nL hg BK166.out); have n7_ := m_ (nG hg BK166.out); have n8_ := m_ (nL hg BK167.out); have n9_ := m_ (nG hg BK167.out); clear BK166; clear BK167; clear HB; have BK166 := n0_; have BK167 := n1_; have HB := n2_; have BK168 := n3_; have GW168 := n4_; have GE168 := n5_; have NB166_168 := n6_; have NB168_166 := n7_; have NB167_168 := n8_; have NB168_167 := n9_; clear n0_ n1_ n2_ n3_ n4_ n5_ n6_ n7_ n8_ n9_; clear hb hbox hg; have hnb100 := NB166_167.out; have hnc100 := NB167_166.out; have hnb101 := NB166_168.out; have hnc101 := NB168_166.out; have hcz102_0 : w99.cell? ⟨gb166, 0, none⟩ = some (.int .i64 a0_0) := bc BK166 0; have hcz102_1 : w99.cell? ⟨gb166, 1, none⟩ = some (.bool a0_1) := bc BK166 1; have hcz102_2 : w99.cell? ⟨gb166, 2, none⟩ = some (.string a0_2) := bc BK166 2; have hfz102_0 := blk_frozen BK166.out 0; have hfz102_1 := blk_frozen BK166.out 1; have hfz102_2 := blk_frozen BK166.out 2) | ((with_reducible refine gate_callee (f := 14) rfl ?_); refine goesL_ (some 12) rfl rfl Tryd.func14 (by kernel_rfl) rfl #[.agg #[.int .i64 a0_0, .bool a0_1, .string a0_2]] rfl gl_ ?_; (with_reducible refine (spec_l12Hears.calls a0_0 a0_1 a0_2 true _ A3.out).mono ?_); rintro e w103 ⟨rfl, hb⟩; refine ⟨_, rfl, ?_⟩; have n0_ := m_ (blk_below (kN BK166.out) hb); have n1_ := m_ (blk_below (kN BK167.out) hb); have n2_ := m_ (blk_below (g := gb168) (o := .cells #[.int .i64 0, .bool false, .string (⟨#[]⟩ : ByteArray)] 28 (0, 0)) (kN BK168.out) hb); have n3_ := m_ (below_step (bN HB.out) hb); clear BK166; clear BK167; clear BK168; clear HB; have BK166 := n0_; have BK167 := n1_; have BK168 := n2_; have HB := n3_; clear n0_ n1_ n2_ n3_; (try clear hb); (try clear hb2); (try clear hk); (try clear hi); have hnb104 := NB167_168.out; have hnc104 := NB168_167.out; have hcz105_0 : w103.cell? ⟨gb167, 0, none⟩ = some (.int .i64 a1_0) := bc BK167 0; have hcz105_1 : w103.cell? ⟨gb167, 1, none⟩ = some (.int .i64 a1_1) := bc BK167 1; have hcz105_2 : w103.cell? ⟨gb167, 2, none⟩ = some (.int .i64 a1_2) := bc BK167 2; have hcz105_3 : w103.cell? ⟨gb167, 3, none⟩ = some (.int .i64 a1_3) := bc BK167 3; have hcz105_4 : w103.cell? ⟨gb167, 4, none⟩ = some (.int .i64 a1_4) := bc BK167 4; have hcz105_5 : w103.cell? ⟨gb167, 5, none⟩ = some (.string a1_5) := bc BK167 5; have hcz105_6 : w103.cell? ⟨gb167, 6, none⟩ = some (.string a1_6) := bc BK167 6; have hfz105_0 := blk_frozen BK167.out 0; have hfz105_1 := blk_frozen BK167.out 1; have hfz105_2 := blk_frozen BK167.out 2; have hfz105_3 := blk_frozen BK167.out 3; have hfz105_4 := blk_frozen BK167.out 4; have hfz105_5 := blk_frozen BK167.out 5; have hfz105_6 := blk_frozen BK167.out 6) | ((with_reducible refine gate_callee (f := 15) rfl ?_); refine goesL_ (some 17) rfl rfl Tryd.func15 (by kernel_rfl) rfl #[.agg #[.int .i64 a1_0, .int .i64 a1_1, .int .i64 a1_2, .int .i64 a1_3, .int .i64 a1_4, .string a1_5, .string a1_6]] rfl gl_ ?_; (with_reducible refine (spec_l12Ok.calls k a1_0 a1_1 a1_2 a1_3 a1_4 a1_5 a1_6 false _ A5.out).mono ?_); rintro e w106 ⟨rfl, hb⟩; refine ⟨_, rfl, ?_⟩; have n0_ := m_ (blk_below (kN BK166.out) hb); have n1_ := m_ (blk_below (kN BK167.out) hb); have n2_ := m_ (blk_below (g := gb168) (o := .cells #[.int .i64 0, .bool false, .string (⟨#[]⟩ : ByteArray)] 28 (0, 0)) (kN BK168.out) hb); have n3_ := m_ (below_step (bN HB.out) hb); clear BK166; clear BK167; clear BK168; clear HB; have BK166 := n0_; have BK167 := n1_; have BK168 := n2_; have HB := n3_; clear n0_ n1_ n2_ n3_; (try clear hb); (try clear hb2); (try clear hk); (try clear hi); have hcz107_0 : w106.cell? ⟨gb166, 0, none⟩ = some (.int .i64 a0_0) := bc BK166 0; have hcz107_1 : w106.cell? ⟨gb166, 1, none⟩ = some (.bool a0_1) := bc BK166 1; have hcz107_2 : w106.cell? ⟨gb166, 2, none⟩ = some (.string a0_2) := bc BK166 2; have hfz107_0 := blk_frozen BK166.out 0; have hfz107_1 := blk_frozen BK166.out 1; have hfz107_2 := blk_frozen BK166.out 2) | ((with_reducible refine gate_dst (N := 20) rfl ?_); refine Kd.R_lit Kd.string _ 9 ?hg (N := 20) ?hd (xs := ([] : List ByteArray)) (inner := []) (ok := fun _ => True) (okp := fun _ => True) ?hr ?hp (fun _ hk => hk) trivial (Below.refl _ _) (Nat.le_refl _) (by simp) ?_; (case hd => rfl); (case hg => rfl); (case hr => first | (go_simp; done) | (go_simp; rfl)); (case hp => exact (Reps.none _ _)); intro v175 w108 ho109 hb hg_ hnew_; clear hg_ hnew_; (first | rw [← Ny174.out] at ho109 | (simp only [Int.reduceToNat] at ho109; rw [← Ny174.out] at ho109)); have n0_ := m_ (Kd.R_lower ho109 (below_size (bN HB.out))); have n1_ := m_ (blk_below (kN BK166.out) hb); have n2_ := m_ (blk_below (kN BK167.out) hb); have n3_ := m_ (blk_below (g := gb168) (o := .cells #[.int .i64 0, .bool false, .string (⟨#[]⟩ : ByteArray)] 28 (0, 0)) (kN BK168.out) hb); have n4_ := m_ (below_step (bN HB.out) hb); clear BK166; clear BK167; clear BK168; clear HB; have HO176 := n0_; have BK166 := n1_; have BK167 := n2_; have BK168 := n3_; have HB := n4_; clear n0_ n1_ n2_ n3_ n4_; clear hb ho109; have hcz110_0 : w108.cell? ⟨gb168, 0, none⟩ = some (.int .i64 0) := bc BK168 0; have hcz110_1 : w108.cell? ⟨gb168, 1, none⟩ = some (.bool false) := bc BK168 1; have hcz110_2 : w108.cell? ⟨gb168, 2, none⟩ = some (.string (⟨#[]⟩ : ByteArray)) := bc BK168 2; have hfz110_0 := blk_frozen BK168.out 0; have hfz110_1 := blk_frozen BK168.out 1; have hfz110_2 := blk_frozen BK168.out 2))
   refine bodyPost_ret (results_ct rfl _ _ gb168 28 #[.int .i64 a0_0, .bool a0_1, .string a0_2] (0, 0) _ rfl (kP BK168.out) Tryd.underlying28 rfl (by kernel_rfl)) rfl ?_
   exact ⟨_, by first | rfl | (simp [errW_none, errW_some] <;> rfl) | (simp [*, errW_none, errW_some] <;> rfl), by (with_reducible repeat (first | apply Kd.R_alloc | apply Kd.R_drewN | apply Kd.R_drew)); exact frM (Kd.R_types HO176.out BK168.out (by decide)), by repeat (first | (with_reducible first | exact HB.out | apply below_alloc | apply pw_below_drewN | apply below_drew1 | refine below_set ?_ GE166.out | refine below_set ?_ GE167.out | refine below_set ?_ GE168.out) | exact HB.out)⟩
 ·replace c4 := Bool.eq_false_iff.mpr c4
  subst c4
  have H1 : (some (0, false, (⟨#[]⟩ : ByteArray), (([] : List ByteArray)))) = some (r1, r2, r3, r4) := by rw [if_neg (show ¬ (false = true) by decide)] at H; exact H
  clear H
  have H := H1
  clear H1
  obtain ⟨y170, hy170⟩ : ∃ y_ : List ByteArray, y_ = (([] : List ByteArray)) := ⟨_, rfl⟩
  replace H : (some (0, false, (⟨#[]⟩ : ByteArray), y170)) = some (r1, r2, r3, r4) := by first | (rw [hy170]; with_reducible exact H) | (have H2_ := (Option.bind_some _ _).symm.trans H; rw [hy170]; with_reducible exact H2_) | (have H2_ := (Option.bind_some _ _).symm.trans H; with_reducible exact H2_) | with_reducible exact H | (rw [hy170]; exact H) | exact H
  have Ny170 := Aside0.mk hy170
  clear hy170
  simp only [Option.some.injEq, Prod.mk.injEq] at H
  obtain ⟨rfl, rfl, rfl, rfl⟩ := H
  go_enter Tryd.func6, Tryd.ntmps6
  go_wp2_with (first | ((with_reducible refine gate_dst (N := 2) rfl ?_); refine box_event ?hg (N := 2) ?hd (cs := #[.int .i64 a0_0, .bool a0_1, .string a0_2]) (t := 28) ?hr ?_; (case hd => rfl); (case hg => rfl); (case hr => first | (go_simp; done) | (go_simp; rfl)); intro gb166 hg w111 hbox hb; have n0_ := m_ (below_step (bN HB.out) hb); have n1_ := m_ (hbox); have n2_ := m_ ((by rw [hg]; exact (below_size (bN HB.out)) : w.heap.size ≤ gb166)); have n3_ := m_ ((by rw [hg]; exact (below_size (bN HB.out)) : w.heap.size ≤ gb166)); clear HB; have HB := n0_; have BK166 := n1_; have GW166 := n2_; have GE166 := n3_; clear n0_ n1_ n2_ n3_; clear hb hbox hg) | ((with_reducible refine gate_dst (N := 3) rfl ?_); refine box_event ?hg (N := 3) ?hd (cs := #[.int .i64 a1_0, .int .i64 a1_1, .int .i64 a1_2, .int .i64 a1_3, .int .i64 a1_4, .string a1_5, .string a1_6]) (t := 33) ?hr ?_; (case hd => rfl); (case hg => rfl); (case hr => first | (go_simp; done) | (go_simp; rfl)); intro gb167 hg w112 hbox hb; have n0_ := m_ (blk_below (kN BK166.out) hb); have n1_ := m_ (below_step (bN HB.out) hb); have n2_ := m_ (hbox); have n3_ := m_ ((by rw [hg]; exact (below_size (bN HB.out)) : w.heap.size ≤ gb167)); have n4_ := m_ ((by rw [hg]; exact (below_size (bN HB.out)) : w.heap.size ≤ gb167)); have n5_ := m_ (nL hg BK166.out); have n6_ := m_ (nG hg BK166.out); clear BK166; clear HB; have BK166 := n0_; have HB := n1_; have BK167 := n2_; have GW167 := n3_; have GE167 := n4_; have NB166_167 := n5_; have NB167_166 := n6_; clear n0_ n1_ n2_ n3_ n4_ n5_ n6_; clear hb hbox hg) | ((with_reducible refine gate_dst (N := 4) rfl ?_); refine box_event ?hg (N := 4) ?hd (cs := #[.int .i64 0, .bool false, .string (⟨#[]⟩ : ByteArray)]) (t := 28) ?hr ?_; (case hd => rfl); (case hg => rfl); (case hr => first | (go_simp; done) | (go_simp; rfl)); intro gb168 hg w113 hbox hb; have n0_ := m_ (blk_below (kN BK166.out) hb); have n1_ := m_ (blk_below (kN BK167.out) hb); have n2_ := m_ (below_step (bN HB.out) hb); have n3_ := m_ (hbox); have n4_ := m_ ((by rw [hg]; exact (below_size (bN HB.out)) : w.heap.size ≤ gb168)); have n5_ := m_ ((by rw [hg]; exact (below_size (bN HB.out)) : w.heap.size ≤ gb168)); have n6_ := m_ (nL hg BK166.out); have n7_ := m_ (nG hg BK166.out); have n8_ := m_ (nL hg BK167.out); have n9_ := m_ (nG hg BK167.out); clear BK166; clear BK167; clear HB; have BK166 := n0_; have BK167 := n1_; have HB := n2_; have BK168 := n3_; have GW168 := n4_; have GE168 := n5_; have NB166_168 := n6_; have NB168_166 := n7_; have NB167_168 := n8_; have NB168_167 := n9_; clear n0_ n1_ n2_ n3_ n4_ n5_ n6_ n7_ n8_ n9_; clear hb hbox hg; have hnb114 := NB166_167.out; have hnc114 := NB167_166.out; have hnb115 := NB166_168.out; have hnc115 := NB168_166.out; have hcz116_0 : w113.cell? ⟨gb166, 0, none⟩ = some (.int .i64 a0_0) := bc BK166 0; have hcz116_1 : w113.cell? ⟨gb166, 1, none⟩ = some (.bool a0_1) := bc BK166 1; have hcz116_2 : w113.cell? ⟨gb166, 2, none⟩ = some (.string a0_2) := bc BK166 2; have hfz116_0 := blk_frozen BK166.out 0; have hfz116_1 := blk_frozen BK166.out 1; have hfz116_2 := blk_frozen BK166.out 2) | ((with_reducible refine gate_callee (f := 14) rfl ?_); refine goesL_ (some 12) rfl rfl Tryd.func14 (by kernel_rfl) rfl #[.agg #[.int .i64 a0_0, .bool a0_1, .string a0_2]] rfl gl_ ?_; (with_reducible refine (spec_l12Hears.calls a0_0 a0_1 a0_2 false _ A3.out).mono ?_); rintro e w117 ⟨rfl, hb⟩; refine ⟨_, rfl, ?_⟩; have n0_ := m_ (blk_below (kN BK166.out) hb); have n1_ := m_ (blk_below (kN BK167.out) hb); have n2_ := m_ (blk_below (g := gb168) (o := .cells #[.int .i64 0, .bool false, .string (⟨#[]⟩ : ByteArray)] 28 (0, 0)) (kN BK168.out) hb); have n3_ := m_ (below_step (bN HB.out) hb); clear BK166; clear BK167; clear BK168; clear HB; have BK166 := n0_; have BK167 := n1_; have BK168 := n2_; have HB := n3_; clear n0_ n1_ n2_ n3_; (try clear hb); (try clear hb2); (try clear hk); (try clear hi)) | ((with_reducible refine gate_dst (N := 15) rfl ?_); refine Kd.R_lit Kd.string _ 9 ?hg (N := 15) ?hd (xs := ([] : List ByteArray)) (inner := []) (ok := fun _ => True) (okp := fun _ => True) ?hr ?hp (fun _ hk => hk) trivial (Below.refl _ _) (Nat.le_refl _) (by simp) ?_; (case hd => rfl); (case hg => rfl); (case hr => first | (go_simp; done) | (go_simp; rfl)); (case hp => exact (Reps.none _ _)); intro v171 w118 ho119 hb hg_ hnew_; clear hg_ hnew_; (first | rw [← Ny170.out] at ho119 | (simp only [Int.reduceToNat] at ho119; rw [← Ny170.out] at ho119)); have n0_ := m_ (Kd.R_lower ho119 (below_size (bN HB.out))); have n1_ := m_ (blk_below (kN BK166.out) hb); have n2_ := m_ (blk_below (kN BK167.out) hb); have n3_ := m_ (blk_below (g := gb168) (o := .cells #[.int .i64 0, .bool false, .string (⟨#[]⟩ : ByteArray)] 28 (0, 0)) (kN BK168.out) hb); have n4_ := m_ (below_step (bN HB.out) hb); clear BK166; clear BK167; clear BK168; clear HB; have HO172 := n0_; have BK166 := n1_; have BK167 := n2_; have BK168 := n3_; have HB := n4_; clear n0_ n1_ n2_ n3_ n4_; clear hb ho119; have hnb120 := NB168_167.out; have hnc120 := NB167_168.out; have hcz121_0 : w118.cell? ⟨gb168, 0, none⟩ = some (.int .i64 0) := bc BK168 0; have hcz121_1 : w118.cell? ⟨gb168, 1, none⟩ = some (.bool false) := bc BK168 1; have hcz121_2 : w118.cell? ⟨gb168, 2, none⟩ = some (.string (⟨#[]⟩ : ByteArray)) := bc BK168 2; have hfz121_0 := blk_frozen BK168.out 0; have hfz121_1 := blk_frozen BK168.out 1; have hfz121_2 := blk_frozen BK168.out 2))
  refine bodyPost_ret (results_ct rfl _ _ gb168 28 #[.int .i64 0, .bool false, .string (⟨#[]⟩ : ByteArray)] (0, 0) _ rfl (kP BK168.out) Tryd.underlying28 rfl (by kernel_rfl)) rfl ?_
  exact ⟨_, by first | rfl | (simp [errW_none, errW_some] <;> rfl) | (simp [*, errW_none, errW_some] <;> rfl), by (with_reducible repeat (first | apply Kd.R_alloc | apply Kd.R_drewN | apply Kd.R_drew)); exact frM (Kd.R_types HO172.out BK168.out (by decide)), by repeat (first | (with_reducible first | exact HB.out | apply below_alloc | apply pw_below_drewN | apply below_drew1 | refine below_set ?_ GE166.out | refine below_set ?_ GE167.out | refine below_set ?_ GE168.out) | exact HB.out)⟩

/-! ### laws_toHears: function 7 -/
def laws_toHears.f (a0_0 : Int) (a0_1 : Bool) (a0_2 : ByteArray) : Option (Int × Bool × ByteArray) := some (a0_0, a0_1, a0_2)
set_option maxHeartbeats 8000000 in
set_option maxRecDepth 100000 in
theorem laws_toHears.calls (a0_0 : Int) (a0_1 : Bool) (a0_2 : ByteArray) (r1 : Int) (r2 : Bool) (r3 : ByteArray) (w : World) (h : laws_toHears.f a0_0 a0_1 a0_2 = some (r1, r2, r3)) :
  Calls Tryd.prog 7 #[.agg #[.int .i64 a0_0, .bool a0_1, .string a0_2]] w fun e w' => e = .returned (.agg #[.int .i64 r1, .bool r2, .string r3]) ∧ Below w.heap.size w w' := by
 have hu23 := Tryd.underlying23
 have hu28 := Tryd.underlying28
 have HB := m_ (Below.refl w.heap.size w)
 have H : (some (a0_0, a0_1, a0_2)) = some (r1, r2, r3) := h
 clear h
 simp only [Option.some.injEq, Prod.mk.injEq] at H
 obtain ⟨rfl, rfl, rfl⟩ := H
 go_enter Tryd.func7, Tryd.ntmps7
 go_wp2_with (first | ((with_reducible refine gate_dst (N := 1) rfl ?_); refine box_event ?hg (N := 1) ?hd (cs := #[.int .i64 a0_0, .bool a0_1, .string a0_2]) (t := 23) ?hr ?_; (case hd => rfl); (case hg => rfl); (case hr => first | (go_simp; done) | (go_simp; rfl)); intro gb194 hg w2 hbox hb; have n0_ := m_ (below_step (bN HB.out) hb); have n1_ := m_ (hbox); have n2_ := m_ ((by rw [hg]; exact (below_size (bN HB.out)) : w.heap.size ≤ gb194)); have n3_ := m_ ((by rw [hg]; exact (below_size (bN HB.out)) : w.heap.size ≤ gb194)); clear HB; have HB := n0_; have BK194 := n1_; have GW194 := n2_; have GE194 := n3_; clear n0_ n1_ n2_ n3_; clear hb hbox hg) | ((with_reducible refine gate_dst (N := 2) rfl ?_); refine box_event ?hg (N := 2) ?hd (cs := #[.int .i64 0, .bool false, .string (⟨#[]⟩ : ByteArray)]) (t := 28) ?hr ?_; (case hd => rfl); (case hg => rfl); (case hr => first | (go_simp; done) | (go_simp; rfl)); intro gb195 hg w3 hbox hb; have n0_ := m_ (blk_below (kN BK194.out) hb); have n1_ := m_ (below_step (bN HB.out) hb); have n2_ := m_ (hbox); have n3_ := m_ ((by rw [hg]; exact (below_size (bN HB.out)) : w.heap.size ≤ gb195)); have n4_ := m_ ((by rw [hg]; exact (below_size (bN HB.out)) : w.heap.size ≤ gb195)); have n5_ := m_ (nL hg BK194.out); have n6_ := m_ (nG hg BK194.out); clear BK194; clear HB; have BK194 := n0_; have HB := n1_; have BK195 := n2_; have GW195 := n3_; have GE195 := n4_; have NB194_195 := n5_; have NB195_194 := n6_; clear n0_ n1_ n2_ n3_ n4_ n5_ n6_; clear hb hbox hg) | ((with_reducible refine gate_dst (N := 3) rfl ?_); refine box_event ?hg (N := 3) ?hd (cs := #[.int .i64 0, .bool false, .string (⟨#[]⟩ : ByteArray)]) (t := 28) ?hr ?_; (case hd => rfl); (case hg => rfl); (case hr => first | (go_simp; done) | (go_simp; rfl)); intro gb196 hg w4 hbox hb; have n0_ := m_ (blk_below (kN BK194.out) hb); have n1_ := m_ (blk_below (g := gb195) (o := .cells #[.int .i64 0, .bool false, .string (⟨#[]⟩ : ByteArray)] 28 (0, 0)) (kN BK195.out) hb); have n2_ := m_ (below_step (bN HB.out) hb); have n3_ := m_ (hbox); have n4_ := m_ ((by rw [hg]; exact (below_size (bN HB.out)) : w.heap.size ≤ gb196)); have n5_ := m_ ((by rw [hg]; exact (below_size (bN HB.out)) : w.heap.size ≤ gb196)); have n6_ := m_ (nL hg BK194.out); have n7_ := m_ (nG hg BK194.out); have n8_ := m_ ((by rw [hg]; exact Nat.ne_of_lt (blk_lt (g := gb195) (o := .cells #[.int .i64 0, .bool false, .string (⟨#[]⟩ : ByteArray)] 28 (0, 0)) (kN BK195.out)) : gb195 ≠ gb196)); have n9_ := m_ ((by rw [hg]; exact Nat.ne_of_gt (blk_lt (g := gb195) (o := .cells #[.int .i64 0, .bool false, .string (⟨#[]⟩ : ByteArray)] 28 (0, 0)) (kN BK195.out)) : gb196 ≠ gb195)); clear BK194; clear BK195; clear HB; have BK194 := n0_; have BK195 := n1_; have HB := n2_; have BK196 := n3_; have GW196 := n4_; have GE196 := n5_; have NB194_196 := n6_; have NB196_194 := n7_; have NB195_196 := n8_; have NB196_195 := n9_; clear n0_ n1_ n2_ n3_ n4_ n5_ n6_ n7_ n8_ n9_; clear hb hbox hg; have hnb5 := NB194_195.out; have hnc5 := NB195_194.out; have hnb6 := NB194_196.out; have hnc6 := NB196_194.out; have hcz7_0 : w4.cell? ⟨gb194, 0, none⟩ = some (.int .i64 a0_0) := bc BK194 0; have hcz7_1 : w4.cell? ⟨gb194, 1, none⟩ = some (.bool a0_1) := bc BK194 1; have hcz7_2 : w4.cell? ⟨gb194, 2, none⟩ = some (.string a0_2) := bc BK194 2; have hfz7_0 := blk_frozen BK194.out 0; have hfz7_1 := blk_frozen BK194.out 1; have hfz7_2 := blk_frozen BK194.out 2; have hnb8 := NB196_195.out; have hnc8 := NB195_196.out; have hcz9_0 : w4.cell? ⟨gb196, 0, none⟩ = some (.int .i64 0) := bc BK196 0; have hcz9_1 : w4.cell? ⟨gb196, 1, none⟩ = some (.bool false) := bc BK196 1; have hcz9_2 : w4.cell? ⟨gb196, 2, none⟩ = some (.string (⟨#[]⟩ : ByteArray)) := bc BK196 2; have hfz9_0 := blk_frozen BK196.out 0; have hfz9_1 := blk_frozen BK196.out 1; have hfz9_2 := blk_frozen BK196.out 2; have hcz10_0 : w4.cell? ⟨gb195, 0, none⟩ = some (.int .i64 0) := bc BK195 0; have hcz10_1 : w4.cell? ⟨gb195, 1, none⟩ = some (.bool false) := bc BK195 1; have hcz10_2 : w4.cell? ⟨gb195, 2, none⟩ = some (.string (⟨#[]⟩ : ByteArray)) := bc BK195 2; have hfz10_0 := blk_frozen BK195.out 0; have hfz10_1 := blk_frozen BK195.out 1; have hfz10_2 := blk_frozen BK195.out 2))
 refine bodyPost_ret (results_cell_row rfl _ _ gb195 28 #[.int .i64 a0_0, .bool a0_1, .string a0_2] (0, 0) _ rfl (kR BK195.out NB195_196.out) Tryd.underlying28 rfl (by kernel_rfl)) rfl ?_
 exact ⟨by first | rfl | (simp [errW_none, errW_some] <;> rfl) | (simp [*, errW_none, errW_some] <;> rfl), by repeat (first | (with_reducible first | exact HB.out | apply below_alloc | apply pw_below_drewN | apply below_drew1 | refine below_set ?_ GE194.out | refine below_set ?_ GE195.out | refine below_set ?_ GE196.out) | exact HB.out)⟩

/-! ### laws_toDown: function 8 -/
def laws_toDown.f (a0_0 : Int) (a0_1 : Int) (a0_2 : Int) (a0_3 : Int) (a0_4 : Int) (a0_5 : ByteArray) (a0_6 : ByteArray) : Option (Int × Int × Int × Int × Int × ByteArray × ByteArray) := some (a0_0, a0_1, a0_2, a0_3, a0_4, a0_5, a0_6)
set_option maxHeartbeats 8000000 in
set_option maxRecDepth 100000 in
theorem laws_toDown.calls (a0_0 : Int) (a0_1 : Int) (a0_2 : Int) (a0_3 : Int) (a0_4 : Int) (a0_5 : ByteArray) (a0_6 : ByteArray) (r1 : Int) (r2 : Int) (r3 : Int) (r4 : Int) (r5 : Int) (r6 : ByteArray) (r7 : ByteArray) (w : World) (h : laws_toDown.f a0_0 a0_1 a0_2 a0_3 a0_4 a0_5 a0_6 = some (r1, r2, r3, r4, r5, r6, r7)) :
  Calls Tryd.prog 8 #[.agg #[.int .i64 a0_0, .int .i64 a0_1, .int .i64 a0_2, .int .i64 a0_3, .int .i64 a0_4, .string a0_5, .string a0_6]] w fun e w' => e = .returned (.agg #[.int .i64 r1, .int .i64 r2, .int .i64 r3, .int .i64 r4, .int .i64 r5, .string r6, .string r7]) ∧ Below w.heap.size w w' := by
 have hu25 := Tryd.underlying25
 have hu33 := Tryd.underlying33
 have HB := m_ (Below.refl w.heap.size w)
 have H : (some (a0_0, a0_1, a0_2, a0_3, a0_4, a0_5, a0_6)) = some (r1, r2, r3, r4, r5, r6, r7) := h
 clear h
 simp only [Option.some.injEq, Prod.mk.injEq] at H
 obtain ⟨rfl, rfl, rfl, rfl, rfl, rfl, rfl⟩ := H
 go_enter Tryd.func8, Tryd.ntmps8
 go_wp2_with (first | ((with_reducible refine gate_dst (N := 1) rfl ?_); refine box_event ?hg (N := 1) ?hd (cs := #[.int .i64 a0_0, .int .i64 a0_1, .int .i64 a0_2, .int .i64 a0_3, .int .i64 a0_4, .string a0_5, .string a0_6]) (t := 25) ?hr ?_; (case hd => rfl); (case hg => rfl); (case hr => first | (go_simp; done) | (go_simp; rfl)); intro gb197 hg w2 hbox hb; have n0_ := m_ (below_step (bN HB.out) hb); have n1_ := m_ (hbox); have n2_ := m_ ((by rw [hg]; exact (below_size (bN HB.out)) : w.heap.size ≤ gb197)); have n3_ := m_ ((by rw [hg]; exact (below_size (bN HB.out)) : w.heap.size ≤ gb197)); clear HB; have HB := n0_; have BK197 := n1_; have GW197 := n2_; have GE197 := n3_; clear n0_ n1_ n2_ n3_; clear hb hbox hg) | ((with_reducible refine gate_dst (N := 2) rfl ?_); refine box_event ?hg (N := 2) ?hd (cs := #[.int .i64 0, .int .i64 0, .int .i64 0, .int .i64 0, .int .i64 0, .string (⟨#[]⟩ : ByteArray), .string (⟨#[]⟩ : ByteArray)]) (t := 33) ?hr ?_; (case hd => rfl); (case hg => rfl); (case hr => first | (go_simp; done) | (go_simp; rfl)); intro gb198 hg w3 hbox hb; have n0_ := m_ (blk_below (kN BK197.out) hb); have n1_ := m_ (below_step (bN HB.out) hb); have n2_ := m_ (hbox); have n3_ := m_ ((by rw [hg]; exact (below_size (bN HB.out)) : w.heap.size ≤ gb198)); have n4_ := m_ ((by rw [hg]; exact (below_size (bN HB.out)) : w.heap.size ≤ gb198)); have n5_ := m_ (nL hg BK197.out); have n6_ := m_ (nG hg BK197.out); clear BK197; clear HB; have BK197 := n0_; have HB := n1_; have BK198 := n2_; have GW198 := n3_; have GE198 := n4_; have NB197_198 := n5_; have NB198_197 := n6_; clear n0_ n1_ n2_ n3_ n4_ n5_ n6_; clear hb hbox hg) | ((with_reducible refine gate_dst (N := 3) rfl ?_); refine box_event ?hg (N := 3) ?hd (cs := #[.int .i64 0, .int .i64 0, .int .i64 0, .int .i64 0, .int .i64 0, .string (⟨#[]⟩ : ByteArray), .string (⟨#[]⟩ : ByteArray)]) (t := 33) ?hr ?_; (case hd => rfl); (case hg => rfl); (case hr => first | (go_simp; done) | (go_simp; rfl)); intro gb199 hg w4 hbox hb; have n0_ := m_ (blk_below (kN BK197.out) hb); have n1_ := m_ (blk_below (g := gb198) (o := .cells #[.int .i64 0, .int .i64 0, .int .i64 0, .int .i64 0, .int .i64 0, .string (⟨#[]⟩ : ByteArray), .string (⟨#[]⟩ : ByteArray)] 33 (0, 0)) (kN BK198.out) hb); have n2_ := m_ (below_step (bN HB.out) hb); have n3_ := m_ (hbox); have n4_ := m_ ((by rw [hg]; exact (below_size (bN HB.out)) : w.heap.size ≤ gb199)); have n5_ := m_ ((by rw [hg]; exact (below_size (bN HB.out)) : w.heap.size ≤ gb199)); have n6_ := m_ (nL hg BK197.out); have n7_ := m_ (nG hg BK197.out); have n8_ := m_ ((by rw [hg]; exact Nat.ne_of_lt (blk_lt (g := gb198) (o := .cells #[.int .i64 0, .int .i64 0, .int .i64 0, .int .i64 0, .int .i64 0, .string (⟨#[]⟩ : ByteArray), .string (⟨#[]⟩ : ByteArray)] 33 (0, 0)) (kN BK198.out)) : gb198 ≠ gb199)); have n9_ := m_ ((by rw [hg]; exact Nat.ne_of_gt (blk_lt (g := gb198) (o := .cells #[.int .i64 0, .int .i64 0, .int .i64 0, .int .i64 0, .int .i64 0, .string (⟨#[]⟩ : ByteArray), .string (⟨#[]⟩ : ByteArray)] 33 (0, 0)) (kN BK198.out)) : gb199 ≠ gb198)); clear BK197; clear BK198; clear HB; have BK197 := n0_; have BK198 := n1_; have HB := n2_; have BK199 := n3_; have GW199 := n4_; have GE199 := n5_; have NB197_199 := n6_; have NB199_197 := n7_; have NB198_199 := n8_; have NB199_198 := n9_; clear n0_ n1_ n2_ n3_ n4_ n5_ n6_ n7_ n8_ n9_; clear hb hbox hg; have hnb5 := NB197_198.out; have hnc5 := NB198_197.out; have hnb6 := NB197_199.out; have hnc6 := NB199_197.out; have hcz7_0 : w4.cell? ⟨gb197, 0, none⟩ = some (.int .i64 a0_0) := bc BK197 0; have hcz7_1 : w4.cell? ⟨gb197, 1, none⟩ = some (.int .i64 a0_1) := bc BK197 1; have hcz7_2 : w4.cell? ⟨gb197, 2, none⟩ = some (.int .i64 a0_2) := bc BK197 2; have hcz7_3 : w4.cell? ⟨gb197, 3, none⟩ = some (.int .i64 a0_3) := bc BK197 3; have hcz7_4 : w4.cell? ⟨gb197, 4, none⟩ = some (.int .i64 a0_4) := bc BK197 4; have hcz7_5 : w4.cell? ⟨gb197, 5, none⟩ = some (.string a0_5) := bc BK197 5; have hcz7_6 : w4.cell? ⟨gb197, 6, none⟩ = some (.string a0_6) := bc BK197 6; have hfz7_0 := blk_frozen BK197.out 0; have hfz7_1 := blk_frozen BK197.out 1; have hfz7_2 := blk_frozen BK197.out 2; have hfz7_3 := blk_frozen BK197.out 3; have hfz7_4 := blk_frozen BK197.out 4; have hfz7_5 := blk_frozen BK197.out 5; have hfz7_6 := blk_frozen BK197.out 6; have hnb8 := NB199_198.out; have hnc8 := NB198_199.out; have hcz9_0 : w4.cell? ⟨gb199, 0, none⟩ = some (.int .i64 0) := bc BK199 0; have hcz9_1 : w4.cell? ⟨gb199, 1, none⟩ = some (.int .i64 0) := bc BK199 1; have hcz9_2 : w4.cell? ⟨gb199, 2, none⟩ = some (.int .i64 0) := bc BK199 2; have hcz9_3 : w4.cell? ⟨gb199, 3, none⟩ = some (.int .i64 0) := bc BK199 3; have hcz9_4 : w4.cell? ⟨gb199, 4, none⟩ = some (.int .i64 0) := bc BK199 4; have hcz9_5 : w4.cell? ⟨gb199, 5, none⟩ = some (.string (⟨#[]⟩ : ByteArray)) := bc BK199 5; have hcz9_6 : w4.cell? ⟨gb199, 6, none⟩ = some (.string (⟨#[]⟩ : ByteArray)) := bc BK199 6; have hfz9_0 := blk_frozen BK199.out 0; have hfz9_1 := blk_frozen BK199.out 1; have hfz9_2 := blk_frozen BK199.out 2; have hfz9_3 := blk_frozen BK199.out 3; have hfz9_4 := blk_frozen BK199.out 4; have hfz9_5 := blk_frozen BK199.out 5; have hfz9_6 := blk_frozen BK199.out 6; have hcz10_0 : w4.cell? ⟨gb198, 0, none⟩ = some (.int .i64 0) := bc BK198 0; have hcz10_1 : w4.cell? ⟨gb198, 1, none⟩ = some (.int .i64 0) := bc BK198 1; have hcz10_2 : w4.cell? ⟨gb198, 2, none⟩ = some (.int .i64 0) := bc BK198 2; have hcz10_3 : w4.cell? ⟨gb198, 3, none⟩ = some (.int .i64 0) := bc BK198 3; have hcz10_4 : w4.cell? ⟨gb198, 4, none⟩ = some (.int .i64 0) := bc BK198 4; have hcz10_5 : w4.cell? ⟨gb198, 5, none⟩ = some (.string (⟨#[]⟩ : ByteArray)) := bc BK198 5; have hcz10_6 : w4.cell? ⟨gb198, 6, none⟩ = some (.string (⟨#[]⟩ : ByteArray)) := bc BK198 6; have hfz10_0 := blk_frozen BK198.out 0; have hfz10_1 := blk_frozen BK198.out 1; have hfz10_2 := blk_frozen BK198.out 2; have hfz10_3 := blk_frozen BK198.out 3; have hfz10_4 := blk_frozen BK198.out 4; have hfz10_5 := blk_frozen BK198.out 5; have hfz10_6 := blk_frozen BK198.out 6))
 refine bodyPost_ret (results_cell_row rfl _ _ gb198 33 #[.int .i64 a0_0, .int .i64 a0_1, .int .i64 a0_2, .int .i64 a0_3, .int .i64 a0_4, .string a0_5, .string a0_6] (0, 0) _ rfl (by (with_reducible repeat (first | refine blk_drewN ?_ _ | refine blk_drew ?_ | refine blk_alloc ?_ _)); refine blk_put (cs := #[.int .i64 a0_0, .int .i64 a0_1, .int .i64 a0_2, .int .i64 a0_3, .int .i64 a0_4, .string a0_5, .string (⟨#[]⟩ : ByteArray)]) ?_ 6 _ rfl; (with_reducible repeat (first | refine blk_drewN ?_ _ | refine blk_drew ?_ | refine blk_alloc ?_ _)); refine blk_put (cs := #[.int .i64 a0_0, .int .i64 a0_1, .int .i64 a0_2, .int .i64 a0_3, .int .i64 a0_4, .string (⟨#[]⟩ : ByteArray), .string (⟨#[]⟩ : ByteArray)]) ?_ 5 _ rfl; (with_reducible repeat (first | refine blk_drewN ?_ _ | refine blk_drew ?_ | refine blk_alloc ?_ _)); refine blk_put (cs := #[.int .i64 a0_0, .int .i64 a0_1, .int .i64 a0_2, .int .i64 a0_3, .int .i64 0, .string (⟨#[]⟩ : ByteArray), .string (⟨#[]⟩ : ByteArray)]) ?_ 4 _ rfl; (with_reducible repeat (first | refine blk_drewN ?_ _ | refine blk_drew ?_ | refine blk_alloc ?_ _)); refine blk_put (cs := #[.int .i64 a0_0, .int .i64 a0_1, .int .i64 a0_2, .int .i64 0, .int .i64 0, .string (⟨#[]⟩ : ByteArray), .string (⟨#[]⟩ : ByteArray)]) ?_ 3 _ rfl; (with_reducible repeat (first | refine blk_drewN ?_ _ | refine blk_drew ?_ | refine blk_alloc ?_ _)); refine blk_put (cs := #[.int .i64 a0_0, .int .i64 a0_1, .int .i64 0, .int .i64 0, .int .i64 0, .string (⟨#[]⟩ : ByteArray), .string (⟨#[]⟩ : ByteArray)]) ?_ 2 _ rfl; (with_reducible repeat (first | refine blk_drewN ?_ _ | refine blk_drew ?_ | refine blk_alloc ?_ _)); refine blk_put (cs := #[.int .i64 a0_0, .int .i64 0, .int .i64 0, .int .i64 0, .int .i64 0, .string (⟨#[]⟩ : ByteArray), .string (⟨#[]⟩ : ByteArray)]) ?_ 1 _ rfl; (with_reducible repeat (first | refine blk_drewN ?_ _ | refine blk_drew ?_ | refine blk_alloc ?_ _)); refine blk_put (cs := #[.int .i64 0, .int .i64 0, .int .i64 0, .int .i64 0, .int .i64 0, .string (⟨#[]⟩ : ByteArray), .string (⟨#[]⟩ : ByteArray)]) ?_ 0 _ rfl; (with_reducible repeat (first | refine blk_drewN ?_ _ | refine blk_drew ?_ | refine blk_alloc ?_ _)); refine blk_far ?_ NB198_199.out _; (with_reducible repeat (first | refine blk_drewN ?_ _ | refine blk_drew ?_ | refine blk_alloc ?_ _)); refine blk_far ?_ NB198_199.out _; (with_reducible repeat (first | refine blk_drewN ?_ _ | refine blk_drew ?_ | refine blk_alloc ?_ _)); refine blk_far ?_ NB198_199.out _; (with_reducible repeat (first | refine blk_drewN ?_ _ | refine blk_drew ?_ | refine blk_alloc ?_ _)); refine blk_far ?_ NB198_199.out _; (with_reducible repeat (first | refine blk_drewN ?_ _ | refine blk_drew ?_ | refine blk_alloc ?_ _)); refine blk_far ?_ NB198_199.out _; (with_reducible repeat (first | refine blk_drewN ?_ _ | refine blk_drew ?_ | refine blk_alloc ?_ _)); refine blk_far ?_ NB198_199.out _; (with_reducible repeat (first | refine blk_drewN ?_ _ | refine blk_drew ?_ | refine blk_alloc ?_ _)); refine blk_far ?_ NB198_199.out _; (with_reducible repeat (first | refine blk_drewN ?_ _ | refine blk_drew ?_ | refine blk_alloc ?_ _)); exact BK198.out) Tryd.underlying33 rfl (by kernel_rfl)) rfl ?_
 exact ⟨by first | rfl | (simp [errW_none, errW_some] <;> rfl) | (simp [*, errW_none, errW_some] <;> rfl), by repeat (first | (with_reducible first | exact HB.out | apply below_alloc | apply pw_below_drewN | apply below_drew1 | refine below_set ?_ GE197.out | refine below_set ?_ GE198.out | refine below_set ?_ GE199.out) | exact HB.out)⟩

/-! ### impl_within: function 25 -/
def impl_within.f (a0 : Int) (a1 : Int) : Option (Bool) := if a0 ≥ 0 then (some (decide (a0 ≤ a1))) else (some false)
set_option maxHeartbeats 8000000 in
set_option maxRecDepth 100000 in
theorem impl_within.calls (a0 : Int) (a1 : Int) (r : Bool) (w : World) (h : impl_within.f a0 a1 = some r) :
  Calls Tryd.prog 25 #[.int .i64 a0, .int .i64 a1] w fun e w' => e = .returned (.bool r) ∧ Drawn0 w w' := by
 have H : (if a0 ≥ 0 then (some (decide (a0 ≤ a1))) else (some false)) = some r := h
 clear h
 by_cases c3 : a0 ≥ 0
 ·rw [if_pos c3] at H
  have c3b0 : decide (0 ≤ a0) = true := decide_eq_true c3
  clear c3
  obtain rfl := Option.some.inj H
  go_enter Tryd.func25, Tryd.ntmps25
  go_wp2
  go_ret
  exact ⟨by first | rfl | (simp; done) | (simp [*]; done), by repeat (first | exact Drawn0.refl _ | apply Drawn0.step)⟩
 ·rw [if_neg c3] at H
  have c3b0 : decide (0 ≤ a0) = false := decide_eq_false c3
  clear c3
  obtain rfl := Option.some.inj H
  go_enter Tryd.func25, Tryd.ntmps25
  go_wp2
  go_ret
  exact ⟨by first | rfl | (simp; done) | (simp [*]; done), by repeat (first | exact Drawn0.refl _ | apply Drawn0.step)⟩

/-! ### impl_hearsOk: function 17 -/
def impl_hearsOk.f (a0_0 : Int) (a0_1 : Bool) (a0_2 : ByteArray) : Option (Bool) := (impl_within.f a0_0 255).bind fun t201 => (if t201 = true then (if (a0_2.size : Int) ≤ 106 then (if a0_1 = true then (some true) else (some (a0_2.toList == ([] : List UInt8)))) else (some false)) else (some false))
set_option maxHeartbeats 8000000 in
set_option maxRecDepth 100000 in
theorem impl_hearsOk.calls (a0_0 : Int) (a0_1 : Bool) (a0_2 : ByteArray) (r : Bool) (w : World) (h : impl_hearsOk.f a0_0 a0_1 a0_2 = some r) :
  Calls Tryd.prog 17 #[.agg #[.int .i64 a0_0, .bool a0_1, .string a0_2]] w fun e w' => e = .returned (.bool r) ∧ Below w.heap.size w w' := by
 have hu28 := Tryd.underlying28
 have HB := m_ (Below.refl w.heap.size w)
 have H : ((impl_within.f a0_0 255).bind fun t201 => (if t201 = true then (if (a0_2.size : Int) ≤ 106 then (if a0_1 = true then (some true) else (some (a0_2.toList == ([] : List UInt8)))) else (some false)) else (some false))) = some r := h
 clear h
 replace H := Option.bind_eq_some_iff.mp H
 obtain ⟨t201, A20, H⟩ := H
 replace H : (if t201 = true then (if (a0_2.size : Int) ≤ 106 then (if a0_1 = true then (some true) else (some (a0_2.toList == ([] : List UInt8)))) else (some false)) else (some false)) = some r := H
 have A2 := Aside0.mk A20
 clear A20
 by_cases c3 : t201 = true
 ·subst c3
  have H1 : (if (a0_2.size : Int) ≤ 106 then (if a0_1 = true then (some true) else (some (a0_2.toList == ([] : List UInt8)))) else (some false)) = some r := by rw [if_pos rfl] at H; exact H
  clear H
  have H := H1
  clear H1
  by_cases c4 : (a0_2.size : Int) ≤ 106
  ·rw [if_pos c4] at H
   have c4b0 : decide ((a0_2.size : Int) ≤ 106) = true := decide_eq_true c4
   have c4b1 : decide (a0_2.size ≤ 106) = true := decide_eq_true (by omega)
   clear c4
   by_cases c5 : a0_1 = true
   ·subst c5
    have H1 : (some true) = some r := by rw [if_pos rfl] at H; exact H
    clear H
    have H := H1
    clear H1
    obtain rfl := Option.some.inj H
    go_enter Tryd.func17, Tryd.ntmps17
    go_wp2_with (first | ((with_reducible refine gate_dst (N := 1) rfl ?_); (try (refine gate_guard (by rfl) ?_; dsimp only)); refine box_event ?hg (N := 1) ?hd (cs := #[.int .i64 a0_0, .bool true, .string a0_2]) (t := 28) ?hr ?_; (case hd => rfl); (case hg => rfl); (case hr => first | (go_simp; done) | (go_simp; rfl)); intro gb200 hg w6 hbox hb; have n0_ := m_ (below_step (bN HB.out) hb); have n1_ := m_ (hbox); have n2_ := m_ ((by rw [hg]; exact (below_size (bN HB.out)) : w.heap.size ≤ gb200)); have n3_ := m_ ((by rw [hg]; exact (below_size (bN HB.out)) : w.heap.size ≤ gb200)); clear HB; have HB := n0_; have BK200 := n1_; have GW200 := n2_; have GE200 := n3_; clear n0_ n1_ n2_ n3_; clear hb hbox hg; have hcz7_0 : w6.cell? ⟨gb200, 0, none⟩ = some (.int .i64 a0_0) := bc BK200 0; have hcz7_1 : w6.cell? ⟨gb200, 1, none⟩ = some (.bool true) := bc BK200 1; have hcz7_2 : w6.cell? ⟨gb200, 2, none⟩ = some (.string a0_2) := bc BK200 2; have hfz7_0 := blk_frozen BK200.out 0; have hfz7_1 := blk_frozen BK200.out 1; have hfz7_2 := blk_frozen BK200.out 2) | ((with_reducible refine gate_callee (f := 25) rfl ?_); refine goesL_ (some 5) rfl rfl Tryd.func25 (by kernel_rfl) rfl #[.int .i64 a0_0, .int .i64 255] rfl gl_ ?_; (with_reducible refine (impl_within.calls a0_0 255 true _ A2.out).mono ?_); rintro e w' ⟨rfl, ⟨nd, rfl⟩⟩; refine ⟨_, rfl, ?_⟩))
    go_ret
    exact ⟨by first | rfl | (simp [errW_none, errW_some] <;> rfl) | (simp [*, errW_none, errW_some] <;> rfl), by repeat (first | (with_reducible first | exact HB.out | apply below_alloc | apply pw_below_drewN | apply below_drew1 | refine below_set ?_ GE200.out) | exact HB.out)⟩
   ·replace c5 := Bool.eq_false_iff.mpr c5
    subst c5
    have H1 : (some (a0_2.toList == ([] : List UInt8))) = some r := by rw [if_neg (show ¬ (false = true) by decide)] at H; exact H
    clear H
    have H := H1
    clear H1
    obtain rfl := Option.some.inj H
    go_enter Tryd.func17, Tryd.ntmps17
    go_wp2_with (first | ((with_reducible refine gate_dst (N := 1) rfl ?_); (try (refine gate_guard (by rfl) ?_; dsimp only)); refine box_event ?hg (N := 1) ?hd (cs := #[.int .i64 a0_0, .bool false, .string a0_2]) (t := 28) ?hr ?_; (case hd => rfl); (case hg => rfl); (case hr => first | (go_simp; done) | (go_simp; rfl)); intro gb200 hg w8 hbox hb; have n0_ := m_ (below_step (bN HB.out) hb); have n1_ := m_ (hbox); have n2_ := m_ ((by rw [hg]; exact (below_size (bN HB.out)) : w.heap.size ≤ gb200)); have n3_ := m_ ((by rw [hg]; exact (below_size (bN HB.out)) : w.heap.size ≤ gb200)); clear HB; have HB := n0_; have BK200 := n1_; have GW200 := n2_; have GE200 := n3_; clear n0_ n1_ n2_ n3_; clear hb hbox hg; have hcz9_0 : w8.cell? ⟨gb200, 0, none⟩ = some (.int .i64 a0_0) := bc BK200 0; have hcz9_1 : w8.cell? ⟨gb200, 1, none⟩ = some (.bool false) := bc BK200 1; have hcz9_2 : w8.cell? ⟨gb200, 2, none⟩ = some (.string a0_2) := bc BK200 2; have hfz9_0 := blk_frozen BK200.out 0; have hfz9_1 := blk_frozen BK200.out 1; have hfz9_2 := blk_frozen BK200.out 2) | ((with_reducible refine gate_callee (f := 25) rfl ?_); refine goesL_ (some 5) rfl rfl Tryd.func25 (by kernel_rfl) rfl #[.int .i64 a0_0, .int .i64 255] rfl gl_ ?_; (with_reducible refine (impl_within.calls a0_0 255 true _ A2.out).mono ?_); rintro e w' ⟨rfl, ⟨nd, rfl⟩⟩; refine ⟨_, rfl, ?_⟩))
    go_ret
    exact ⟨by first | rfl | (simp [errW_none, errW_some] <;> rfl) | (simp [*, errW_none, errW_some] <;> rfl), by repeat (first | (with_reducible first | exact HB.out | apply below_alloc | apply pw_below_drewN | apply below_drew1 | refine below_set ?_ GE200.out) | exact HB.out)⟩
  ·rw [if_neg c4] at H
   have c4b0 : decide ((a0_2.size : Int) ≤ 106) = false := decide_eq_false c4
   have c4b1 : decide (a0_2.size ≤ 106) = false := decide_eq_false (by omega)
   clear c4
   obtain rfl := Option.some.inj H
   go_enter Tryd.func17, Tryd.ntmps17
   go_wp2_with (first | ((with_reducible refine gate_dst (N := 1) rfl ?_); (try (refine gate_guard (by rfl) ?_; dsimp only)); refine box_event ?hg (N := 1) ?hd (cs := #[.int .i64 a0_0, .bool a0_1, .string a0_2]) (t := 28) ?hr ?_; (case hd => rfl); (case hg => rfl); (case hr => first | (go_simp; done) | (go_simp; rfl)); intro gb200 hg w10 hbox hb; have n0_ := m_ (below_step (bN HB.out) hb); have n1_ := m_ (hbox); have n2_ := m_ ((by rw [hg]; exact (below_size (bN HB.out)) : w.heap.size ≤ gb200)); have n3_ := m_ ((by rw [hg]; exact (below_size (bN HB.out)) : w.heap.size ≤ gb200)); clear HB; have HB := n0_; have BK200 := n1_; have GW200 := n2_; have GE200 := n3_; clear n0_ n1_ n2_ n3_; clear hb hbox hg; have hcz11_0 : w10.cell? ⟨gb200, 0, none⟩ = some (.int .i64 a0_0) := bc BK200 0; have hcz11_1 : w10.cell? ⟨gb200, 1, none⟩ = some (.bool a0_1) := bc BK200 1; have hcz11_2 : w10.cell? ⟨gb200, 2, none⟩ = some (.string a0_2) := bc BK200 2; have hfz11_0 := blk_frozen BK200.out 0; have hfz11_1 := blk_frozen BK200.out 1; have hfz11_2 := blk_frozen BK200.out 2) | ((with_reducible refine gate_callee (f := 25) rfl ?_); refine goesL_ (some 5) rfl rfl Tryd.func25 (by kernel_rfl) rfl #[.int .i64 a0_0, .int .i64 255] rfl gl_ ?_; (with_reducible refine (impl_within.calls a0_0 255 true _ A2.out).mono ?_); rintro e w' ⟨rfl, ⟨nd, rfl⟩⟩; refine ⟨_, rfl, ?_⟩))
   go_ret
   exact ⟨by first | rfl | (simp [errW_none, errW_some] <;> rfl) | (simp [*, errW_none, errW_some] <;> rfl), by repeat (first | (with_reducible first | exact HB.out | apply below_alloc | apply pw_below_drewN | apply below_drew1 | refine below_set ?_ GE200.out) | exact HB.out)⟩
 ·replace c3 := Bool.eq_false_iff.mpr c3
  subst c3
  have H1 : (some false) = some r := by rw [if_neg (show ¬ (false = true) by decide)] at H; exact H
  clear H
  have H := H1
  clear H1
  obtain rfl := Option.some.inj H
  go_enter Tryd.func17, Tryd.ntmps17
  go_wp2_with (first | ((with_reducible refine gate_dst (N := 1) rfl ?_); (try (refine gate_guard (by rfl) ?_; dsimp only)); refine box_event ?hg (N := 1) ?hd (cs := #[.int .i64 a0_0, .bool a0_1, .string a0_2]) (t := 28) ?hr ?_; (case hd => rfl); (case hg => rfl); (case hr => first | (go_simp; done) | (go_simp; rfl)); intro gb200 hg w12 hbox hb; have n0_ := m_ (below_step (bN HB.out) hb); have n1_ := m_ (hbox); have n2_ := m_ ((by rw [hg]; exact (below_size (bN HB.out)) : w.heap.size ≤ gb200)); have n3_ := m_ ((by rw [hg]; exact (below_size (bN HB.out)) : w.heap.size ≤ gb200)); clear HB; have HB := n0_; have BK200 := n1_; have GW200 := n2_; have GE200 := n3_; clear n0_ n1_ n2_ n3_; clear hb hbox hg; have hcz13_0 : w12.cell? ⟨gb200, 0, none⟩ = some (.int .i64 a0_0) := bc BK200 0; have hcz13_1 : w12.cell? ⟨gb200, 1, none⟩ = some (.bool a0_1) := bc BK200 1; have hcz13_2 : w12.cell? ⟨gb200, 2, none⟩ = some (.string a0_2) := bc BK200 2; have hfz13_0 := blk_frozen BK200.out 0; have hfz13_1 := blk_frozen BK200.out 1; have hfz13_2 := blk_frozen BK200.out 2) | ((with_reducible refine gate_callee (f := 25) rfl ?_); refine goesL_ (some 5) rfl rfl Tryd.func25 (by kernel_rfl) rfl #[.int .i64 a0_0, .int .i64 255] rfl gl_ ?_; (with_reducible refine (impl_within.calls a0_0 255 false _ A2.out).mono ?_); rintro e w' ⟨rfl, ⟨nd, rfl⟩⟩; refine ⟨_, rfl, ?_⟩))
  go_ret
  exact ⟨by first | rfl | (simp [errW_none, errW_some] <;> rfl) | (simp [*, errW_none, errW_some] <;> rfl), by repeat (first | (with_reducible first | exact HB.out | apply below_alloc | apply pw_below_drewN | apply below_drew1 | refine below_set ?_ GE200.out) | exact HB.out)⟩

/-! ### impl_FarmOk: function 38 -/
def impl_FarmOk.f (a0_0 : Bool) (a0_1 : Bool) (a0_2 : Bool) (a0_3 : Int) (a0_4 : Int) : Option (Bool) := (impl_within.f a0_3 3).bind fun t203 => (if t203 = true then ((impl_within.f a0_4 255).bind fun t204 => (if t204 = true then (if a0_2 = true then (some true) else (some (!a0_1))) else (some false))) else (some false))
set_option maxHeartbeats 8000000 in
set_option maxRecDepth 100000 in
theorem impl_FarmOk.calls (a0_0 : Bool) (a0_1 : Bool) (a0_2 : Bool) (a0_3 : Int) (a0_4 : Int) (r : Bool) (w : World) (h : impl_FarmOk.f a0_0 a0_1 a0_2 a0_3 a0_4 = some r) :
  Calls Tryd.prog 38 #[.agg #[.bool a0_0, .bool a0_1, .bool a0_2, .int .i64 a0_3, .int .i64 a0_4]] w fun e w' => e = .returned (.bool r) ∧ Below w.heap.size w w' := by
 have hu48 := Tryd.underlying48
 have HB := m_ (Below.refl w.heap.size w)
 have H : ((impl_within.f a0_3 3).bind fun t203 => (if t203 = true then ((impl_within.f a0_4 255).bind fun t204 => (if t204 = true then (if a0_2 = true then (some true) else (some (!a0_1))) else (some false))) else (some false))) = some r := h
 clear h
 replace H := Option.bind_eq_some_iff.mp H
 obtain ⟨t203, A20, H⟩ := H
 replace H : (if t203 = true then ((impl_within.f a0_4 255).bind fun t204 => (if t204 = true then (if a0_2 = true then (some true) else (some (!a0_1))) else (some false))) else (some false)) = some r := H
 have A2 := Aside0.mk A20
 clear A20
 by_cases c3 : t203 = true
 ·subst c3
  have H1 : ((impl_within.f a0_4 255).bind fun t204 => (if t204 = true then (if a0_2 = true then (some true) else (some (!a0_1))) else (some false))) = some r := by rw [if_pos rfl] at H; exact H
  clear H
  have H := H1
  clear H1
  replace H := Option.bind_eq_some_iff.mp H
  obtain ⟨t204, A40, H⟩ := H
  replace H : (if t204 = true then (if a0_2 = true then (some true) else (some (!a0_1))) else (some false)) = some r := H
  have A4 := Aside0.mk A40
  clear A40
  by_cases c5 : t204 = true
  ·subst c5
   have H1 : (if a0_2 = true then (some true) else (some (!a0_1))) = some r := by rw [if_pos rfl] at H; exact H
   clear H
   have H := H1
   clear H1
   by_cases c6 : a0_2 = true
   ·subst c6
    have H1 : (some true) = some r := by rw [if_pos rfl] at H; exact H
    clear H
    have H := H1
    clear H1
    obtain rfl := Option.some.inj H
    go_enter Tryd.func38, Tryd.ntmps38
    go_wp2_with (first | ((with_reducible refine gate_dst (N := 1) rfl ?_); refine box_event ?hg (N := 1) ?hd (cs := #[.bool a0_0, .bool a0_1, .bool true, .int .i64 a0_3, .int .i64 a0_4]) (t := 48) ?hr ?_; (case hd => rfl); (case hg => rfl); (case hr => first | (go_simp; done) | (go_simp; rfl)); intro gb202 hg w7 hbox hb; have n0_ := m_ (below_step (bN HB.out) hb); have n1_ := m_ (hbox); have n2_ := m_ ((by rw [hg]; exact (below_size (bN HB.out)) : w.heap.size ≤ gb202)); have n3_ := m_ ((by rw [hg]; exact (below_size (bN HB.out)) : w.heap.size ≤ gb202)); clear HB; have HB := n0_; have BK202 := n1_; have GW202 := n2_; have GE202 := n3_; clear n0_ n1_ n2_ n3_; clear hb hbox hg; have hcz8_0 : w7.cell? ⟨gb202, 0, none⟩ = some (.bool a0_0) := bc BK202 0; have hcz8_1 : w7.cell? ⟨gb202, 1, none⟩ = some (.bool a0_1) := bc BK202 1; have hcz8_2 : w7.cell? ⟨gb202, 2, none⟩ = some (.bool true) := bc BK202 2; have hcz8_3 : w7.cell? ⟨gb202, 3, none⟩ = some (.int .i64 a0_3) := bc BK202 3; have hcz8_4 : w7.cell? ⟨gb202, 4, none⟩ = some (.int .i64 a0_4) := bc BK202 4; have hfz8_0 := blk_frozen BK202.out 0; have hfz8_1 := blk_frozen BK202.out 1; have hfz8_2 := blk_frozen BK202.out 2; have hfz8_3 := blk_frozen BK202.out 3; have hfz8_4 := blk_frozen BK202.out 4) | ((with_reducible refine gate_callee (f := 25) rfl ?_); refine goesL_ (some 5) rfl rfl Tryd.func25 (by kernel_rfl) rfl #[.int .i64 a0_3, .int .i64 3] rfl gl_ ?_; (with_reducible refine (impl_within.calls a0_3 3 true _ A2.out).mono ?_); rintro e w' ⟨rfl, ⟨nd, rfl⟩⟩; refine ⟨_, rfl, ?_⟩) | (go_at_call 25; (with_reducible refine (impl_within.calls a0_4 255 true _ A4.out).mono ?_); rintro e w' ⟨rfl, ⟨nd, rfl⟩⟩))
    go_ret
    exact ⟨by first | rfl | (simp [errW_none, errW_some] <;> rfl) | (simp [*, errW_none, errW_some] <;> rfl), by repeat (first | (with_reducible first | exact HB.out | apply below_alloc | apply pw_below_drewN | apply below_drew1 | refine below_set ?_ GE202.out) | exact HB.out)⟩
   ·replace c6 := Bool.eq_false_iff.mpr c6
    subst c6
    have H1 : (some (!a0_1)) = some r := by rw [if_neg (show ¬ (false = true) by decide)] at H; exact H
    clear H
    have H := H1
    clear H1
    obtain rfl := Option.some.inj H
    go_enter Tryd.func38, Tryd.ntmps38
    go_wp2_with (first | ((with_reducible refine gate_dst (N := 1) rfl ?_); refine box_event ?hg (N := 1) ?hd (cs := #[.bool a0_0, .bool a0_1, .bool false, .int .i64 a0_3, .int .i64 a0_4]) (t := 48) ?hr ?_; (case hd => rfl); (case hg => rfl); (case hr => first | (go_simp; done) | (go_simp; rfl)); intro gb202 hg w9 hbox hb; have n0_ := m_ (below_step (bN HB.out) hb); have n1_ := m_ (hbox); have n2_ := m_ ((by rw [hg]; exact (below_size (bN HB.out)) : w.heap.size ≤ gb202)); have n3_ := m_ ((by rw [hg]; exact (below_size (bN HB.out)) : w.heap.size ≤ gb202)); clear HB; have HB := n0_; have BK202 := n1_; have GW202 := n2_; have GE202 := n3_; clear n0_ n1_ n2_ n3_; clear hb hbox hg; have hcz10_0 : w9.cell? ⟨gb202, 0, none⟩ = some (.bool a0_0) := bc BK202 0; have hcz10_1 : w9.cell? ⟨gb202, 1, none⟩ = some (.bool a0_1) := bc BK202 1; have hcz10_2 : w9.cell? ⟨gb202, 2, none⟩ = some (.bool false) := bc BK202 2; have hcz10_3 : w9.cell? ⟨gb202, 3, none⟩ = some (.int .i64 a0_3) := bc BK202 3; have hcz10_4 : w9.cell? ⟨gb202, 4, none⟩ = some (.int .i64 a0_4) := bc BK202 4; have hfz10_0 := blk_frozen BK202.out 0; have hfz10_1 := blk_frozen BK202.out 1; have hfz10_2 := blk_frozen BK202.out 2; have hfz10_3 := blk_frozen BK202.out 3; have hfz10_4 := blk_frozen BK202.out 4) | ((with_reducible refine gate_callee (f := 25) rfl ?_); refine goesL_ (some 5) rfl rfl Tryd.func25 (by kernel_rfl) rfl #[.int .i64 a0_3, .int .i64 3] rfl gl_ ?_; (with_reducible refine (impl_within.calls a0_3 3 true _ A2.out).mono ?_); rintro e w' ⟨rfl, ⟨nd, rfl⟩⟩; refine ⟨_, rfl, ?_⟩) | (go_at_call 25; (with_reducible refine (impl_within.calls a0_4 255 true _ A4.out).mono ?_); rintro e w' ⟨rfl, ⟨nd, rfl⟩⟩))
    go_ret
    exact ⟨by first | rfl | (simp [errW_none, errW_some] <;> rfl) | (simp [*, errW_none, errW_some] <;> rfl), by repeat (first | (with_reducible first | exact HB.out | apply below_alloc | apply pw_below_drewN | apply below_drew1 | refine below_set ?_ GE202.out) | exact HB.out)⟩
  ·replace c5 := Bool.eq_false_iff.mpr c5
   subst c5
   have H1 : (some false) = some r := by rw [if_neg (show ¬ (false = true) by decide)] at H; exact H
   clear H
   have H := H1
   clear H1
   obtain rfl := Option.some.inj H
   go_enter Tryd.func38, Tryd.ntmps38
   go_wp2_with (first | ((with_reducible refine gate_dst (N := 1) rfl ?_); refine box_event ?hg (N := 1) ?hd (cs := #[.bool a0_0, .bool a0_1, .bool a0_2, .int .i64 a0_3, .int .i64 a0_4]) (t := 48) ?hr ?_; (case hd => rfl); (case hg => rfl); (case hr => first | (go_simp; done) | (go_simp; rfl)); intro gb202 hg w11 hbox hb; have n0_ := m_ (below_step (bN HB.out) hb); have n1_ := m_ (hbox); have n2_ := m_ ((by rw [hg]; exact (below_size (bN HB.out)) : w.heap.size ≤ gb202)); have n3_ := m_ ((by rw [hg]; exact (below_size (bN HB.out)) : w.heap.size ≤ gb202)); clear HB; have HB := n0_; have BK202 := n1_; have GW202 := n2_; have GE202 := n3_; clear n0_ n1_ n2_ n3_; clear hb hbox hg; have hcz12_0 : w11.cell? ⟨gb202, 0, none⟩ = some (.bool a0_0) := bc BK202 0; have hcz12_1 : w11.cell? ⟨gb202, 1, none⟩ = some (.bool a0_1) := bc BK202 1; have hcz12_2 : w11.cell? ⟨gb202, 2, none⟩ = some (.bool a0_2) := bc BK202 2; have hcz12_3 : w11.cell? ⟨gb202, 3, none⟩ = some (.int .i64 a0_3) := bc BK202 3; have hcz12_4 : w11.cell? ⟨gb202, 4, none⟩ = some (.int .i64 a0_4) := bc BK202 4; have hfz12_0 := blk_frozen BK202.out 0; have hfz12_1 := blk_frozen BK202.out 1; have hfz12_2 := blk_frozen BK202.out 2; have hfz12_3 := blk_frozen BK202.out 3; have hfz12_4 := blk_frozen BK202.out 4) | ((with_reducible refine gate_callee (f := 25) rfl ?_); refine goesL_ (some 5) rfl rfl Tryd.func25 (by kernel_rfl) rfl #[.int .i64 a0_3, .int .i64 3] rfl gl_ ?_; (with_reducible refine (impl_within.calls a0_3 3 true _ A2.out).mono ?_); rintro e w' ⟨rfl, ⟨nd, rfl⟩⟩; refine ⟨_, rfl, ?_⟩) | (go_at_call 25; (with_reducible refine (impl_within.calls a0_4 255 false _ A4.out).mono ?_); rintro e w' ⟨rfl, ⟨nd, rfl⟩⟩))
   go_ret
   exact ⟨by first | rfl | (simp [errW_none, errW_some] <;> rfl) | (simp [*, errW_none, errW_some] <;> rfl), by repeat (first | (with_reducible first | exact HB.out | apply below_alloc | apply pw_below_drewN | apply below_drew1 | refine below_set ?_ GE202.out) | exact HB.out)⟩
 ·replace c3 := Bool.eq_false_iff.mpr c3
  subst c3
  have H1 : (some false) = some r := by rw [if_neg (show ¬ (false = true) by decide)] at H; exact H
  clear H
  have H := H1
  clear H1
  obtain rfl := Option.some.inj H
  go_enter Tryd.func38, Tryd.ntmps38
  go_wp2_with (first | ((with_reducible refine gate_dst (N := 1) rfl ?_); refine box_event ?hg (N := 1) ?hd (cs := #[.bool a0_0, .bool a0_1, .bool a0_2, .int .i64 a0_3, .int .i64 a0_4]) (t := 48) ?hr ?_; (case hd => rfl); (case hg => rfl); (case hr => first | (go_simp; done) | (go_simp; rfl)); intro gb202 hg w13 hbox hb; have n0_ := m_ (below_step (bN HB.out) hb); have n1_ := m_ (hbox); have n2_ := m_ ((by rw [hg]; exact (below_size (bN HB.out)) : w.heap.size ≤ gb202)); have n3_ := m_ ((by rw [hg]; exact (below_size (bN HB.out)) : w.heap.size ≤ gb202)); clear HB; have HB := n0_; have BK202 := n1_; have GW202 := n2_; have GE202 := n3_; clear n0_ n1_ n2_ n3_; clear hb hbox hg; have hcz14_0 : w13.cell? ⟨gb202, 0, none⟩ = some (.bool a0_0) := bc BK202 0; have hcz14_1 : w13.cell? ⟨gb202, 1, none⟩ = some (.bool a0_1) := bc BK202 1; have hcz14_2 : w13.cell? ⟨gb202, 2, none⟩ = some (.bool a0_2) := bc BK202 2; have hcz14_3 : w13.cell? ⟨gb202, 3, none⟩ = some (.int .i64 a0_3) := bc BK202 3; have hcz14_4 : w13.cell? ⟨gb202, 4, none⟩ = some (.int .i64 a0_4) := bc BK202 4; have hfz14_0 := blk_frozen BK202.out 0; have hfz14_1 := blk_frozen BK202.out 1; have hfz14_2 := blk_frozen BK202.out 2; have hfz14_3 := blk_frozen BK202.out 3; have hfz14_4 := blk_frozen BK202.out 4) | ((with_reducible refine gate_callee (f := 25) rfl ?_); refine goesL_ (some 5) rfl rfl Tryd.func25 (by kernel_rfl) rfl #[.int .i64 a0_3, .int .i64 3] rfl gl_ ?_; (with_reducible refine (impl_within.calls a0_3 3 false _ A2.out).mono ?_); rintro e w' ⟨rfl, ⟨nd, rfl⟩⟩; refine ⟨_, rfl, ?_⟩))
  go_ret
  exact ⟨by first | rfl | (simp [errW_none, errW_some] <;> rfl) | (simp [*, errW_none, errW_some] <;> rfl), by repeat (first | (with_reducible first | exact HB.out | apply below_alloc | apply pw_below_drewN | apply below_drew1 | refine below_set ?_ GE202.out) | exact HB.out)⟩

end Go.Proofs.YtbldbjfmibhffaaDoor.P
