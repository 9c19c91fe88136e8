/- The machine side of these statements, function by function: what each Go function answers (as a Lean function), and that it does. Written by a program (mp.py) for this claim. -/
import Derived.Test.YtcenmlpfbpogoaaDoorPx0
import Derived.Test.YtcenmlpfbpogoaaDoorPx3
import Derived.Test.YtcenmlpfbpogoaaDoorPx5
import Derived.Test.YtcenmlpfbpogoaaDoorPx6
namespace Go.Proofs.YtcenmlpfbpogoaaDoor.P
open Go.RowKit Go.Proofs.YtcenmlpfbpogoaaDoorW.PrintWords Go.Proofs.YtcenmlpfbpogoaaDoorW.PrintLast Go.Proofs.YtcenmlpfbpogoaaDoorW.PrintMore
attribute [local go_sem] max2_int min2_int max_two min_two max_three min_three max_four min_four   -- for this text's walks alone
set_option linter.unusedVariables false
set_option linter.unusedSimpArgs false

/-! ### impl_Conf_fault: function 37 -/
mutual
def impl_Conf_fault.j0 : Nat → Int → Bool → Int → Int → List (List (S107)) → List Int → List Int → List Int → List Int → List Int → List (S78) → Int → Option (Option Int)
 | 0, _, _, _, _, _, _, _, _, _, _, _, _ => none
 | k + 1, x3, x7, x229000, x229001, x229002, x229003, x229004, x229005, x229006, x229007, x229008, x229009 => if x7 = true then (some (some 1)) else ((impl_progsOk.f k x229002).bind fun t231 => (if t231 = true then ((impl_apidsOk.f k x229003 x3).bind fun t232 => (if t232 = true then (if (x229004.length : Int) = x3 then ((impl_allWithin.f k x229004 1 40).bind fun t233 => (impl_Conf_fault.j1 k x3 (!t233) x229000 x229001 x229002 x229003 x229004 x229005 x229006 x229007 x229008 x229009)) else (impl_Conf_fault.j1 k x3 true x229000 x229001 x229002 x229003 x229004 x229005 x229006 x229007 x229008 x229009)) else (some (some 3)))) else (some (some 2))))
def impl_Conf_fault.j1 : Nat → Int → Bool → Int → Int → List (List (S107)) → List Int → List Int → List Int → List Int → List Int → List (S78) → Int → Option (Option Int)
 | 0, _, _, _, _, _, _, _, _, _, _, _, _ => none
 | k + 1, x3, x35, x229000, x229001, x229002, x229003, x229004, x229005, x229006, x229007, x229008, x229009 => if x35 = true then (some (some 4)) else ((impl_turnsOk.f k x229005 x229006 x3).bind fun t234 => (if t234 = true then (if (x229007.length : Int) < 1 then (impl_Conf_fault.j2 k true x229000 x229001 x229002 x229003 x229004 x229005 x229006 x229007 x229008 x229009) else (if (x229007.length : Int) > 8 then (impl_Conf_fault.j2 k true x229000 x229001 x229002 x229003 x229004 x229005 x229006 x229007 x229008 x229009) else ((impl_allWithin.f k x229007 0 x3).bind fun t235 => (impl_Conf_fault.j2 k (!t235) x229000 x229001 x229002 x229003 x229004 x229005 x229006 x229007 x229008 x229009)))) else (some (some 5))))
def impl_Conf_fault.j2 : Nat → Bool → Int → Int → List (List (S107)) → List Int → List Int → List Int → List Int → List Int → List (S78) → Int → Option (Option Int)
 | 0, _, _, _, _, _, _, _, _, _, _, _ => none
 | k + 1, x59, x229000, x229001, x229002, x229003, x229004, x229005, x229006, x229007, x229008, x229009 => if x59 = true then (some (some 6)) else ((impl_RulesOk.f k x229008).bind fun t236 => (if t236 = true then ((impl_within.f x229009 9999).bind fun t237 => (if t237 = true then (some none) else (some (some 8)))) else (some (some 7))))
end
def impl_Conf_fault.f (k : Nat) (a0_0 : Int) (a0_1 : Int) (l0_2 : List (List (S107))) (l0_3 : List Int) (l0_4 : List Int) (l0_5 : List Int) (l0_6 : List Int) (l0_7 : List Int) (l0_8 : List (S78)) (a0_9 : Int) : Option (Option Int) := (impl_within.f a0_0 1023).bind fun t229 => (if t229 = true then ((impl_within.f a0_1 63).bind fun t230 => (impl_Conf_fault.j0 k (l0_2.length : Int) (!t230) a0_0 a0_1 l0_2 l0_3 l0_4 l0_5 l0_6 l0_7 l0_8 a0_9)) else (impl_Conf_fault.j0 k (l0_2.length : Int) true a0_0 a0_1 l0_2 l0_3 l0_4 l0_5 l0_6 l0_7 l0_8 a0_9))
theorem impl_Conf_fault.mono_l : ∀ k, (∀ y0 y1 y2 y3 y4 y5 y6 y7 y8 y9 y10 y11, LeO (impl_Conf_fault.j0 k y0 y1 y2 y3 y4 y5 y6 y7 y8 y9 y10 y11) (impl_Conf_fault.j0 (k + 1) y0 y1 y2 y3 y4 y5 y6 y7 y8 y9 y10 y11)) ∧ (∀ y0 y1 y2 y3 y4 y5 y6 y7 y8 y9 y10 y11, LeO (impl_Conf_fault.j1 k y0 y1 y2 y3 y4 y5 y6 y7 y8 y9 y10 y11) (impl_Conf_fault.j1 (k + 1) y0 y1 y2 y3 y4 y5 y6 y7 y8 y9 y10 y11)) ∧ (∀ y0 y1 y2 y3 y4 y5 y6 y7 y8 y9 y10, LeO (impl_Conf_fault.j2 k y0 y1 y2 y3 y4 y5 y6 y7 y8 y9 y10) (impl_Conf_fault.j2 (k + 1) y0 y1 y2 y3 y4 y5 y6 y7 y8 y9 y10))
 | 0 => ⟨fun _ _ _ _ _ _ _ _ _ _ _ _ r h => by simp [impl_Conf_fault.j0] at h, fun _ _ _ _ _ _ _ _ _ _ _ _ r h => by simp [impl_Conf_fault.j1] at h, fun _ _ _ _ _ _ _ _ _ _ _ r h => by simp [impl_Conf_fault.j2] at h⟩
 | k + 1 => by
  obtain ⟨ih0, ih1, ih2⟩ := impl_Conf_fault.mono_l k
  refine ⟨?_, ?_, ?_⟩
  ·intro y0 y1 y2 y3 y4 y5 y6 y7 y8 y9 y10 y11
   unfold impl_Conf_fault.j0
   repeat' first
   | (with_reducible exact ih0 _ _ _ _ _ _ _ _ _ _ _ _)
   | (with_reducible exact ih1 _ _ _ _ _ _ _ _ _ _ _ _)
   | (with_reducible exact ih2 _ _ _ _ _ _ _ _ _ _ _)
   | (with_reducible exact impl_RulesOk.mono _ _)
   | (with_reducible exact impl_allWithin.mono _ _ _ _)
   | (with_reducible exact impl_apidsOk.mono _ _ _)
   | (with_reducible exact impl_progsOk.mono _ _)
   | (with_reducible exact impl_turnsOk.mono _ _ _ _)
   | (with_reducible exact LeO.refl _)
   | (with_reducible exact LeO.none _)
   | (with_reducible refine LeO.ite ?_ ?_)
   | (with_reducible refine LeO.bind ?_ (fun _ => ?_))
   | exact ih0 _ _ _ _ _ _ _ _ _ _ _ _
   | exact ih1 _ _ _ _ _ _ _ _ _ _ _ _
   | exact ih2 _ _ _ _ _ _ _ _ _ _ _
   | exact impl_RulesOk.mono _ _
   | exact impl_allWithin.mono _ _ _ _
   | exact impl_apidsOk.mono _ _ _
   | exact impl_progsOk.mono _ _
   | exact impl_turnsOk.mono _ _ _ _
   | exact LeO.none _
   | refine LeO.ite ?_ ?_
   | refine LeO.bind ?_ (fun _ => ?_)
  ·intro y0 y1 y2 y3 y4 y5 y6 y7 y8 y9 y10 y11
   unfold impl_Conf_fault.j1
   repeat' first
   | (with_reducible exact ih0 _ _ _ _ _ _ _ _ _ _ _ _)
   | (with_reducible exact ih1 _ _ _ _ _ _ _ _ _ _ _ _)
   | (with_reducible exact ih2 _ _ _ _ _ _ _ _ _ _ _)
   | (with_reducible exact impl_RulesOk.mono _ _)
   | (with_reducible exact impl_allWithin.mono _ _ _ _)
   | (with_reducible exact impl_apidsOk.mono _ _ _)
   | (with_reducible exact impl_progsOk.mono _ _)
   | (with_reducible exact impl_turnsOk.mono _ _ _ _)
   | (with_reducible exact LeO.refl _)
   | (with_reducible exact LeO.none _)
   | (with_reducible refine LeO.ite ?_ ?_)
   | (with_reducible refine LeO.bind ?_ (fun _ => ?_))
   | exact ih0 _ _ _ _ _ _ _ _ _ _ _ _
   | exact ih1 _ _ _ _ _ _ _ _ _ _ _ _
   | exact ih2 _ _ _ _ _ _ _ _ _ _ _
   | exact impl_RulesOk.mono _ _
   | exact impl_allWithin.mono _ _ _ _
   | exact impl_apidsOk.mono _ _ _
   | exact impl_progsOk.mono _ _
   | exact impl_turnsOk.mono _ _ _ _
   | exact LeO.none _
   | refine LeO.ite ?_ ?_
   | refine LeO.bind ?_ (fun _ => ?_)
  ·intro y0 y1 y2 y3 y4 y5 y6 y7 y8 y9 y10
   unfold impl_Conf_fault.j2
   repeat' first
   | (with_reducible exact ih0 _ _ _ _ _ _ _ _ _ _ _ _)
   | (with_reducible exact ih1 _ _ _ _ _ _ _ _ _ _ _ _)
   | (with_reducible exact ih2 _ _ _ _ _ _ _ _ _ _ _)
   | (with_reducible exact impl_RulesOk.mono _ _)
   | (with_reducible exact impl_allWithin.mono _ _ _ _)
   | (with_reducible exact impl_apidsOk.mono _ _ _)
   | (with_reducible exact impl_progsOk.mono _ _)
   | (with_reducible exact impl_turnsOk.mono _ _ _ _)
   | (with_reducible exact LeO.refl _)
   | (with_reducible exact LeO.none _)
   | (with_reducible refine LeO.ite ?_ ?_)
   | (with_reducible refine LeO.bind ?_ (fun _ => ?_))
   | exact ih0 _ _ _ _ _ _ _ _ _ _ _ _
   | exact ih1 _ _ _ _ _ _ _ _ _ _ _ _
   | exact ih2 _ _ _ _ _ _ _ _ _ _ _
   | exact impl_RulesOk.mono _ _
   | exact impl_allWithin.mono _ _ _ _
   | exact impl_apidsOk.mono _ _ _
   | exact impl_progsOk.mono _ _
   | exact impl_turnsOk.mono _ _ _ _
   | exact LeO.none _
   | refine LeO.ite ?_ ?_
   | refine LeO.bind ?_ (fun _ => ?_)
theorem impl_Conf_fault.mono : ∀ a0 a1 a2 a3 a4 a5 a6 a7 a8 a9 k, LeO (impl_Conf_fault.f k a0 a1 a2 a3 a4 a5 a6 a7 a8 a9) (impl_Conf_fault.f (k + 1) a0 a1 a2 a3 a4 a5 a6 a7 a8 a9) := by
 intro a0 a1 a2 a3 a4 a5 a6 a7 a8 a9 k
 obtain ⟨ih0, ih1, ih2⟩ := impl_Conf_fault.mono_l k
 unfold impl_Conf_fault.f
 repeat' first
   | (with_reducible exact ih0 _ _ _ _ _ _ _ _ _ _ _ _)
   | (with_reducible exact ih1 _ _ _ _ _ _ _ _ _ _ _ _)
   | (with_reducible exact ih2 _ _ _ _ _ _ _ _ _ _ _)
   | (with_reducible exact impl_RulesOk.mono _ _)
   | (with_reducible exact impl_allWithin.mono _ _ _ _)
   | (with_reducible exact impl_apidsOk.mono _ _ _)
   | (with_reducible exact impl_progsOk.mono _ _)
   | (with_reducible exact impl_turnsOk.mono _ _ _ _)
   | (with_reducible exact LeO.refl _)
   | (with_reducible exact LeO.none _)
   | (with_reducible refine LeO.ite ?_ ?_)
   | (with_reducible refine LeO.bind ?_ (fun _ => ?_))
   | exact ih0 _ _ _ _ _ _ _ _ _ _ _ _
   | exact ih1 _ _ _ _ _ _ _ _ _ _ _ _
   | exact ih2 _ _ _ _ _ _ _ _ _ _ _
   | exact impl_RulesOk.mono _ _
   | exact impl_allWithin.mono _ _ _ _
   | exact impl_apidsOk.mono _ _ _
   | exact impl_progsOk.mono _ _
   | exact impl_turnsOk.mono _ _ _ _
   | exact LeO.none _
   | refine LeO.ite ?_ ?_
   | refine LeO.bind ?_ (fun _ => ?_)
set_option maxHeartbeats 8000000 in
set_option maxRecDepth 100000 in
theorem impl_Conf_fault.calls (k : Nat) (a0_0 : Int) (a0_1 : Int) (A0_2 : Option Addr) (c0_2 : Nat) (l0_2 : List (List (S107))) (A0_3 : Option Addr) (c0_3 : Nat) (l0_3 : List Int) (A0_4 : Option Addr) (c0_4 : Nat) (l0_4 : List Int) (A0_5 : Option Addr) (c0_5 : Nat) (l0_5 : List Int) (A0_6 : Option Addr) (c0_6 : Nat) (l0_6 : List Int) (A0_7 : Option Addr) (c0_7 : Nat) (l0_7 : List Int) (A0_8 : Option Addr) (c0_8 : Nat) (l0_8 : List (S78)) (a0_9 : Int) (r : Option Int) (w : World) (hr0_2 : Kd.C (Kd.slice 107 k107) w A0_2 l0_2.length l0_2) (hc0_2 : l0_2.length ≤ c0_2) (hr0_3 : Kd.C (Kd.int .i64) w A0_3 l0_3.length l0_3) (hc0_3 : l0_3.length ≤ c0_3) (hr0_4 : Kd.C (Kd.int .i64) w A0_4 l0_4.length l0_4) (hc0_4 : l0_4.length ≤ c0_4) (hr0_5 : Kd.C (Kd.int .i64) w A0_5 l0_5.length l0_5) (hc0_5 : l0_5.length ≤ c0_5) (hr0_6 : Kd.C (Kd.int .i64) w A0_6 l0_6.length l0_6) (hc0_6 : l0_6.length ≤ c0_6) (hr0_7 : Kd.C (Kd.int .i64) w A0_7 l0_7.length l0_7) (hc0_7 : l0_7.length ≤ c0_7) (hr0_8 : Kd.C k78 w A0_8 l0_8.length l0_8) (hc0_8 : l0_8.length ≤ c0_8) (h : impl_Conf_fault.f k a0_0 a0_1 l0_2 l0_3 l0_4 l0_5 l0_6 l0_7 l0_8 a0_9 = some r) :
  Calls Tryd.prog 37 #[.agg #[.int .i64 a0_0, .int .i64 a0_1, .slice A0_2 l0_2.length c0_2, .slice A0_3 l0_3.length c0_3, .slice A0_4 l0_4.length c0_4, .slice A0_5 l0_5.length c0_5, .slice A0_6 l0_6.length c0_6, .slice A0_7 l0_7.length c0_7, .slice A0_8 l0_8.length c0_8, .int .i64 a0_9]] w fun e w' => e = .returned (errW r) ∧ Below w.heap.size w w' := by
 have hu32 := Tryd.underlying32
 have hu101 := Tryd.underlying101
 have hu64 := Tryd.underlying64
 have HR0_2 := Aside0.mk hr0_2
 have HC0_2 := Aside0.mk hc0_2
 clear hr0_2 hc0_2
 have HR0_3 := Aside0.mk hr0_3
 have HC0_3 := Aside0.mk hc0_3
 clear hr0_3 hc0_3
 have HR0_4 := Aside0.mk hr0_4
 have HC0_4 := Aside0.mk hc0_4
 clear hr0_4 hc0_4
 have HR0_5 := Aside0.mk hr0_5
 have HC0_5 := Aside0.mk hc0_5
 clear hr0_5 hc0_5
 have HR0_6 := Aside0.mk hr0_6
 have HC0_6 := Aside0.mk hc0_6
 clear hr0_6 hc0_6
 have HR0_7 := Aside0.mk hr0_7
 have HC0_7 := Aside0.mk hc0_7
 clear hr0_7 hc0_7
 have HR0_8 := Aside0.mk hr0_8
 have HC0_8 := Aside0.mk hc0_8
 clear hr0_8 hc0_8
 have HB := m_ (Below.refl w.heap.size w)
 have H : ((impl_within.f a0_0 1023).bind fun t229 => (if t229 = true then ((impl_within.f a0_1 63).bind fun t230 => (impl_Conf_fault.j0 k (l0_2.length : Int) (!t230) a0_0 a0_1 l0_2 l0_3 l0_4 l0_5 l0_6 l0_7 l0_8 a0_9)) else (impl_Conf_fault.j0 k (l0_2.length : Int) true a0_0 a0_1 l0_2 l0_3 l0_4 l0_5 l0_6 l0_7 l0_8 a0_9))) = some r := h
 clear h
 have HC2 := Aside0.mk H
 clear H
 go_enter Tryd.func37, Tryd.ntmps37
 go_upto_region 2 with (first | ((with_reducible refine gate_dst (N := 1) rfl ?_); (try (refine gate_guard (by rfl) ?_; dsimp only)); refine box_event ?hg (N := 1) ?hd (cs := #[.int .i64 a0_0, .int .i64 a0_1, .slice A0_2 l0_2.length c0_2, .slice A0_3 l0_3.length c0_3, .slice A0_4 l0_4.length c0_4, .slice A0_5 l0_5.length c0_5, .slice A0_6 l0_6.length c0_6, .slice A0_7 l0_7.length c0_7, .slice A0_8 l0_8.length c0_8, .int .i64 a0_9]) (t := 32) ?hr ?_; (case hd => rfl); (case hg => rfl); (case hr => first | (go_simp; done) | (go_simp; rfl)); intro gb228 hg w3 hbox hb; have n0_ := m_ (below_step (bN HB.out) hb); have n1_ := m_ (hbox); have n2_ := m_ ((by rw [hg]; exact (below_size (bN HB.out)) : w.heap.size ≤ gb228)); have n3_ := m_ ((by rw [hg]; exact (below_size (bN HB.out)) : w.heap.size ≤ gb228)); clear HB; have HB := n0_; have BK228 := n1_; have GW228 := n2_; have GE228 := n3_; clear n0_ n1_ n2_ n3_; clear hb hbox hg; have hcz4_0 : w3.cell? ⟨gb228, 0, none⟩ = some (.int .i64 a0_0) := bc BK228 0; have hcz4_1 : w3.cell? ⟨gb228, 1, none⟩ = some (.int .i64 a0_1) := bc BK228 1; have hcz4_2 : w3.cell? ⟨gb228, 2, none⟩ = some (.slice A0_2 l0_2.length c0_2) := bc BK228 2; have hcz4_3 : w3.cell? ⟨gb228, 3, none⟩ = some (.slice A0_3 l0_3.length c0_3) := bc BK228 3; have hcz4_4 : w3.cell? ⟨gb228, 4, none⟩ = some (.slice A0_4 l0_4.length c0_4) := bc BK228 4; have hcz4_5 : w3.cell? ⟨gb228, 5, none⟩ = some (.slice A0_5 l0_5.length c0_5) := bc BK228 5; have hcz4_6 : w3.cell? ⟨gb228, 6, none⟩ = some (.slice A0_6 l0_6.length c0_6) := bc BK228 6; have hcz4_7 : w3.cell? ⟨gb228, 7, none⟩ = some (.slice A0_7 l0_7.length c0_7) := bc BK228 7; have hcz4_8 : w3.cell? ⟨gb228, 8, none⟩ = some (.slice A0_8 l0_8.length c0_8) := bc BK228 8; have hcz4_9 : w3.cell? ⟨gb228, 9, none⟩ = some (.int .i64 a0_9) := bc BK228 9; have hfz4_0 := blk_frozen BK228.out 0; have hfz4_1 := blk_frozen BK228.out 1; have hfz4_2 := blk_frozen BK228.out 2; have hfz4_3 := blk_frozen BK228.out 3; have hfz4_4 := blk_frozen BK228.out 4; have hfz4_5 := blk_frozen BK228.out 5; have hfz4_6 := blk_frozen BK228.out 6; have hfz4_7 := blk_frozen BK228.out 7; have hfz4_8 := blk_frozen BK228.out 8; have hfz4_9 := blk_frozen BK228.out 9))
 (try simp only [Act.put, List.setIfInBounds_toArray, List.set_cons_zero, List.set_cons_succ])
 go_cut [7] (fun v7 wc => ∃ (kq : Nat) (x7_1 : Bool), v7 = .bool x7_1 ∧ Aside0 (impl_Conf_fault.j0 kq (l0_2.length : Int) x7_1 a0_0 a0_1 l0_2 l0_3 l0_4 l0_5 l0_6 l0_7 l0_8 a0_9 = some r) ∧ Aside0 (kq ≤ k) ∧ Aside0 (wc.heap[gb228]? = some (.cells #[.int .i64 a0_0, .int .i64 a0_1, (.slice A0_2 l0_2.length c0_2), (.slice A0_3 l0_3.length c0_3), (.slice A0_4 l0_4.length c0_4), (.slice A0_5 l0_5.length c0_5), (.slice A0_6 l0_6.length c0_6), (.slice A0_7 l0_7.length c0_7), (.slice A0_8 l0_8.length c0_8), .int .i64 a0_9] 32 (0, 0))) ∧ Aside0 (Below w.heap.size w wc))
 case first =>
  have H := HC2.out
  clear HC2
  replace H := Option.bind_eq_some_iff.mp H
  obtain ⟨t229, A50, H⟩ := H
  replace H : (if t229 = true then ((impl_within.f a0_1 63).bind fun t230 => (impl_Conf_fault.j0 k (l0_2.length : Int) (!t230) a0_0 a0_1 l0_2 l0_3 l0_4 l0_5 l0_6 l0_7 l0_8 a0_9)) else (impl_Conf_fault.j0 k (l0_2.length : Int) true a0_0 a0_1 l0_2 l0_3 l0_4 l0_5 l0_6 l0_7 l0_8 a0_9)) = some r := H
  have A5 := Aside0.mk A50
  clear A50
  by_cases c6 : t229 = true
  ·subst c6
   have H1 : ((impl_within.f a0_1 63).bind fun t230 => (impl_Conf_fault.j0 k (l0_2.length : Int) (!t230) a0_0 a0_1 l0_2 l0_3 l0_4 l0_5 l0_6 l0_7 l0_8 a0_9)) = some r := by rw [if_pos rfl] at H; exact H
   clear H
   have H := H1
   clear H1
   replace H := Option.bind_eq_some_iff.mp H
   obtain ⟨t230, A70, H⟩ := H
   replace H : (impl_Conf_fault.j0 k (l0_2.length : Int) (!t230) a0_0 a0_1 l0_2 l0_3 l0_4 l0_5 l0_6 l0_7 l0_8 a0_9) = some r := H
   have A7 := Aside0.mk A70
   clear A70
   have H' := Aside0.mk H
   clear H
   have hcz8_0 : w3.cell? ⟨gb228, 0, none⟩ = some (.int .i64 a0_0) := bc BK228 0
   have hcz8_1 : w3.cell? ⟨gb228, 1, none⟩ = some (.int .i64 a0_1) := bc BK228 1
   have hcz8_2 : w3.cell? ⟨gb228, 2, none⟩ = some (.slice A0_2 l0_2.length c0_2) := bc BK228 2
   have hcz8_3 : w3.cell? ⟨gb228, 3, none⟩ = some (.slice A0_3 l0_3.length c0_3) := bc BK228 3
   have hcz8_4 : w3.cell? ⟨gb228, 4, none⟩ = some (.slice A0_4 l0_4.length c0_4) := bc BK228 4
   have hcz8_5 : w3.cell? ⟨gb228, 5, none⟩ = some (.slice A0_5 l0_5.length c0_5) := bc BK228 5
   have hcz8_6 : w3.cell? ⟨gb228, 6, none⟩ = some (.slice A0_6 l0_6.length c0_6) := bc BK228 6
   have hcz8_7 : w3.cell? ⟨gb228, 7, none⟩ = some (.slice A0_7 l0_7.length c0_7) := bc BK228 7
   have hcz8_8 : w3.cell? ⟨gb228, 8, none⟩ = some (.slice A0_8 l0_8.length c0_8) := bc BK228 8
   have hcz8_9 : w3.cell? ⟨gb228, 9, none⟩ = some (.int .i64 a0_9) := bc BK228 9
   have hfz8_0 := blk_frozen BK228.out 0
   have hfz8_1 := blk_frozen BK228.out 1
   have hfz8_2 := blk_frozen BK228.out 2
   have hfz8_3 := blk_frozen BK228.out 3
   have hfz8_4 := blk_frozen BK228.out 4
   have hfz8_5 := blk_frozen BK228.out 5
   have hfz8_6 := blk_frozen BK228.out 6
   have hfz8_7 := blk_frozen BK228.out 7
   have hfz8_8 := blk_frozen BK228.out 8
   have hfz8_9 := blk_frozen BK228.out 9
   go_wp2_with (first | ((with_reducible refine gate_callee (f := 30) rfl ?_); refine goesL_ (some 10) rfl rfl Tryd.func30 (by kernel_rfl) rfl #[.int .i64 a0_0, .int .i64 1023] rfl gl_ ?_; (with_reducible refine (impl_within.calls a0_0 1023 true _ A5.out).mono ?_); rintro e w' ⟨rfl, ⟨nd, rfl⟩⟩; refine ⟨_, rfl, ?_⟩) | (go_at_call 30; (with_reducible refine (impl_within.calls a0_1 63 t230 _ A7.out).mono ?_); rintro e w' ⟨rfl, ⟨nd, rfl⟩⟩))
   go_meet
   case rel => exact ⟨_, (!t230), (by first | rfl | (simp; done) | (simp [*]; done)), H', ⟨by first | omega | exact Nat.le_refl _⟩, ⟨kN BK228.out⟩, ⟨by repeat (first | (with_reducible first | exact HB.out | apply below_alloc | apply pw_below_drewN | apply below_drew1 | refine below_set ?_ GE228.out) | exact HB.out)⟩⟩
  ·replace c6 := Bool.eq_false_iff.mpr c6
   subst c6
   have H1 : (impl_Conf_fault.j0 k (l0_2.length : Int) true a0_0 a0_1 l0_2 l0_3 l0_4 l0_5 l0_6 l0_7 l0_8 a0_9) = some r := by rw [if_neg (show ¬ (false = true) by decide)] at H; exact H
   clear H
   have H := H1
   clear H1
   have H' := Aside0.mk H
   clear H
   have hcz9_0 : w3.cell? ⟨gb228, 0, none⟩ = some (.int .i64 a0_0) := bc BK228 0
   have hcz9_1 : w3.cell? ⟨gb228, 1, none⟩ = some (.int .i64 a0_1) := bc BK228 1
   have hcz9_2 : w3.cell? ⟨gb228, 2, none⟩ = some (.slice A0_2 l0_2.length c0_2) := bc BK228 2
   have hcz9_3 : w3.cell? ⟨gb228, 3, none⟩ = some (.slice A0_3 l0_3.length c0_3) := bc BK228 3
   have hcz9_4 : w3.cell? ⟨gb228, 4, none⟩ = some (.slice A0_4 l0_4.length c0_4) := bc BK228 4
   have hcz9_5 : w3.cell? ⟨gb228, 5, none⟩ = some (.slice A0_5 l0_5.length c0_5) := bc BK228 5
   have hcz9_6 : w3.cell? ⟨gb228, 6, none⟩ = some (.slice A0_6 l0_6.length c0_6) := bc BK228 6
   have hcz9_7 : w3.cell? ⟨gb228, 7, none⟩ = some (.slice A0_7 l0_7.length c0_7) := bc BK228 7
   have hcz9_8 : w3.cell? ⟨gb228, 8, none⟩ = some (.slice A0_8 l0_8.length c0_8) := bc BK228 8
   have hcz9_9 : w3.cell? ⟨gb228, 9, none⟩ = some (.int .i64 a0_9) := bc BK228 9
   have hfz9_0 := blk_frozen BK228.out 0
   have hfz9_1 := blk_frozen BK228.out 1
   have hfz9_2 := blk_frozen BK228.out 2
   have hfz9_3 := blk_frozen BK228.out 3
   have hfz9_4 := blk_frozen BK228.out 4
   have hfz9_5 := blk_frozen BK228.out 5
   have hfz9_6 := blk_frozen BK228.out 6
   have hfz9_7 := blk_frozen BK228.out 7
   have hfz9_8 := blk_frozen BK228.out 8
   have hfz9_9 := blk_frozen BK228.out 9
   go_wp2_with (first | ((with_reducible refine gate_callee (f := 30) rfl ?_); refine goesL_ (some 10) rfl rfl Tryd.func30 (by kernel_rfl) rfl #[.int .i64 a0_0, .int .i64 1023] rfl gl_ ?_; (with_reducible refine (impl_within.calls a0_0 1023 false _ A5.out).mono ?_); rintro e w' ⟨rfl, ⟨nd, rfl⟩⟩; refine ⟨_, rfl, ?_⟩))
   go_meet
   case rel => exact ⟨_, (true), (by first | rfl | (simp; done) | (simp [*]; done)), H', ⟨by first | omega | exact Nat.le_refl _⟩, ⟨kN BK228.out⟩, ⟨by repeat (first | (with_reducible first | exact HB.out | apply below_alloc | apply pw_below_drewN | apply below_drew1 | refine below_set ?_ GE228.out) | exact HB.out)⟩⟩
 case rest =>
  clear HC2
  try clear p2
  try clear c3
  try clear c6
  try clear hcz4_0
  try clear hcz4_1
  try clear hcz4_2
  try clear hcz4_3
  try clear hcz4_4
  try clear hcz4_5
  try clear hcz4_6
  try clear hcz4_7
  try clear hcz4_8
  try clear hcz4_9
  try clear hcz8_0
  try clear hcz8_1
  try clear hcz8_2
  try clear hcz8_3
  try clear hcz8_4
  try clear hcz8_5
  try clear hcz8_6
  try clear hcz8_7
  try clear hcz8_8
  try clear hcz8_9
  try clear hcz9_0
  try clear hcz9_1
  try clear hcz9_2
  try clear hcz9_3
  try clear hcz9_4
  try clear hcz9_5
  try clear hcz9_6
  try clear hcz9_7
  try clear hcz9_8
  try clear hcz9_9
  try clear hfz4_0
  try clear hfz4_1
  try clear hfz4_2
  try clear hfz4_3
  try clear hfz4_4
  try clear hfz4_5
  try clear hfz4_6
  try clear hfz4_7
  try clear hfz4_8
  try clear hfz4_9
  try clear hfz8_0
  try clear hfz8_1
  try clear hfz8_2
  try clear hfz8_3
  try clear hfz8_4
  try clear hfz8_5
  try clear hfz8_6
  try clear hfz8_7
  try clear hfz8_8
  try clear hfz8_9
  try clear hfz9_0
  try clear hfz9_1
  try clear hfz9_2
  try clear hfz9_3
  try clear hfz9_4
  try clear hfz9_5
  try clear hfz9_6
  try clear hfz9_7
  try clear hfz9_8
  try clear hfz9_9
  obtain ⟨kq, x7_1, rfl, HA, HJ1, BK228, HB⟩ := hcut
  cases kq with
  | zero => exact absurd HA.out (by simp [impl_Conf_fault.j0])
  | succ kj1 =>
   have H := HA.out
   clear HA
   simp only [impl_Conf_fault.j0] at H
   by_cases c10 : x7_1 = true
   ·subst c10
    have H1 : (some (some 1)) = some r := by rw [if_pos rfl] at H; exact H
    clear H
    have H := H1
    clear H1
    obtain rfl := Option.some.inj H
    go_wp2
    go_ret
    exact ⟨by first | rfl | (simp [errW_none, errW_some] <;> rfl) | (simp [*, errW_none, errW_some] <;> rfl), by repeat (first | (with_reducible first | exact HB.out | apply below_alloc | apply pw_below_drewN | apply below_drew1 | refine below_set ?_ GE228.out) | exact HB.out)⟩
   ·replace c10 := Bool.eq_false_iff.mpr c10
    subst c10
    have H1 : ((impl_progsOk.f kj1 l0_2).bind fun t231 => (if t231 = true then ((impl_apidsOk.f kj1 l0_3 (l0_2.length : Int)).bind fun t232 => (if t232 = true then (if (l0_4.length : Int) = (l0_2.length : Int) then ((impl_allWithin.f kj1 l0_4 1 40).bind fun t233 => (impl_Conf_fault.j1 kj1 (l0_2.length : Int) (!t233) a0_0 a0_1 l0_2 l0_3 l0_4 l0_5 l0_6 l0_7 l0_8 a0_9)) else (impl_Conf_fault.j1 kj1 (l0_2.length : Int) true a0_0 a0_1 l0_2 l0_3 l0_4 l0_5 l0_6 l0_7 l0_8 a0_9)) else (some (some 3)))) else (some (some 2)))) = some r := by rw [if_neg (show ¬ (false = true) by decide)] at H; exact H
    clear H
    have H := H1
    clear H1
    replace H := Option.bind_eq_some_iff.mp H
    obtain ⟨t231, A110, H⟩ := H
    replace H : (if t231 = true then ((impl_apidsOk.f kj1 l0_3 (l0_2.length : Int)).bind fun t232 => (if t232 = true then (if (l0_4.length : Int) = (l0_2.length : Int) then ((impl_allWithin.f kj1 l0_4 1 40).bind fun t233 => (impl_Conf_fault.j1 kj1 (l0_2.length : Int) (!t233) a0_0 a0_1 l0_2 l0_3 l0_4 l0_5 l0_6 l0_7 l0_8 a0_9)) else (impl_Conf_fault.j1 kj1 (l0_2.length : Int) true a0_0 a0_1 l0_2 l0_3 l0_4 l0_5 l0_6 l0_7 l0_8 a0_9)) else (some (some 3)))) else (some (some 2))) = some r := H
    have A11 := Aside0.mk A110
    clear A110
    by_cases c12 : t231 = true
    ·subst c12
     have H1 : ((impl_apidsOk.f kj1 l0_3 (l0_2.length : Int)).bind fun t232 => (if t232 = true then (if (l0_4.length : Int) = (l0_2.length : Int) then ((impl_allWithin.f kj1 l0_4 1 40).bind fun t233 => (impl_Conf_fault.j1 kj1 (l0_2.length : Int) (!t233) a0_0 a0_1 l0_2 l0_3 l0_4 l0_5 l0_6 l0_7 l0_8 a0_9)) else (impl_Conf_fault.j1 kj1 (l0_2.length : Int) true a0_0 a0_1 l0_2 l0_3 l0_4 l0_5 l0_6 l0_7 l0_8 a0_9)) else (some (some 3)))) = some r := by rw [if_pos rfl] at H; exact H
     clear H
     have H := H1
     clear H1
     replace H := Option.bind_eq_some_iff.mp H
     obtain ⟨t232, A130, H⟩ := H
     replace H : (if t232 = true then (if (l0_4.length : Int) = (l0_2.length : Int) then ((impl_allWithin.f kj1 l0_4 1 40).bind fun t233 => (impl_Conf_fault.j1 kj1 (l0_2.length : Int) (!t233) a0_0 a0_1 l0_2 l0_3 l0_4 l0_5 l0_6 l0_7 l0_8 a0_9)) else (impl_Conf_fault.j1 kj1 (l0_2.length : Int) true a0_0 a0_1 l0_2 l0_3 l0_4 l0_5 l0_6 l0_7 l0_8 a0_9)) else (some (some 3))) = some r := H
     have A13 := Aside0.mk A130
     clear A130
     by_cases c14 : t232 = true
     ·subst c14
      have H1 : (if (l0_4.length : Int) = (l0_2.length : Int) then ((impl_allWithin.f kj1 l0_4 1 40).bind fun t233 => (impl_Conf_fault.j1 kj1 (l0_2.length : Int) (!t233) a0_0 a0_1 l0_2 l0_3 l0_4 l0_5 l0_6 l0_7 l0_8 a0_9)) else (impl_Conf_fault.j1 kj1 (l0_2.length : Int) true a0_0 a0_1 l0_2 l0_3 l0_4 l0_5 l0_6 l0_7 l0_8 a0_9)) = some r := by rw [if_pos rfl] at H; exact H
      clear H
      have H := H1
      clear H1
      have HC15 := Aside0.mk H
      clear H
      have hcz16_0 : wc.cell? ⟨gb228, 0, none⟩ = some (.int .i64 a0_0) := bc BK228 0
      have hcz16_1 : wc.cell? ⟨gb228, 1, none⟩ = some (.int .i64 a0_1) := bc BK228 1
      have hcz16_2 : wc.cell? ⟨gb228, 2, none⟩ = some (.slice A0_2 l0_2.length c0_2) := bc BK228 2
      have hcz16_3 : wc.cell? ⟨gb228, 3, none⟩ = some (.slice A0_3 l0_3.length c0_3) := bc BK228 3
      have hcz16_4 : wc.cell? ⟨gb228, 4, none⟩ = some (.slice A0_4 l0_4.length c0_4) := bc BK228 4
      have hcz16_5 : wc.cell? ⟨gb228, 5, none⟩ = some (.slice A0_5 l0_5.length c0_5) := bc BK228 5
      have hcz16_6 : wc.cell? ⟨gb228, 6, none⟩ = some (.slice A0_6 l0_6.length c0_6) := bc BK228 6
      have hcz16_7 : wc.cell? ⟨gb228, 7, none⟩ = some (.slice A0_7 l0_7.length c0_7) := bc BK228 7
      have hcz16_8 : wc.cell? ⟨gb228, 8, none⟩ = some (.slice A0_8 l0_8.length c0_8) := bc BK228 8
      have hcz16_9 : wc.cell? ⟨gb228, 9, none⟩ = some (.int .i64 a0_9) := bc BK228 9
      have hfz16_0 := blk_frozen BK228.out 0
      have hfz16_1 := blk_frozen BK228.out 1
      have hfz16_2 := blk_frozen BK228.out 2
      have hfz16_3 := blk_frozen BK228.out 3
      have hfz16_4 := blk_frozen BK228.out 4
      have hfz16_5 := blk_frozen BK228.out 5
      have hfz16_6 := blk_frozen BK228.out 6
      have hfz16_7 := blk_frozen BK228.out 7
      have hfz16_8 := blk_frozen BK228.out 8
      have hfz16_9 := blk_frozen BK228.out 9
      go_upto_region 8 with (first | ((with_reducible refine gate_callee (f := 58) rfl ?_); refine goesL_ (some 23) rfl rfl Tryd.func58 (by kernel_rfl) rfl #[.slice A0_2 l0_2.length c0_2] rfl gl_ ?_; (with_reducible refine (impl_progsOk.calls kj1 _ _ l0_2 true _ ?side1 ?side2 A11.out).mono ?_); (case side1 => exact cN (Kd.C_below HR0_2.out HB.out)); (case side2 => exact HC0_2.out); rintro e w17 ⟨rfl, hb⟩; refine ⟨_, rfl, ?_⟩; have n0_ := m_ (blk_below (kN BK228.out) hb); have n1_ := m_ (below_step (bN HB.out) hb); clear BK228; clear HB; have BK228 := n0_; have HB := n1_; clear n0_ n1_; (try clear hb); (try clear hb2); (try clear hk); (try clear hi); have hcz18_0 : w17.cell? ⟨gb228, 0, none⟩ = some (.int .i64 a0_0) := bc BK228 0; have hcz18_1 : w17.cell? ⟨gb228, 1, none⟩ = some (.int .i64 a0_1) := bc BK228 1; have hcz18_2 : w17.cell? ⟨gb228, 2, none⟩ = some (.slice A0_2 l0_2.length c0_2) := bc BK228 2; have hcz18_3 : w17.cell? ⟨gb228, 3, none⟩ = some (.slice A0_3 l0_3.length c0_3) := bc BK228 3; have hcz18_4 : w17.cell? ⟨gb228, 4, none⟩ = some (.slice A0_4 l0_4.length c0_4) := bc BK228 4; have hcz18_5 : w17.cell? ⟨gb228, 5, none⟩ = some (.slice A0_5 l0_5.length c0_5) := bc BK228 5; have hcz18_6 : w17.cell? ⟨gb228, 6, none⟩ = some (.slice A0_6 l0_6.length c0_6) := bc BK228 6; have hcz18_7 : w17.cell? ⟨gb228, 7, none⟩ = some (.slice A0_7 l0_7.length c0_7) := bc BK228 7; have hcz18_8 : w17.cell? ⟨gb228, 8, none⟩ = some (.slice A0_8 l0_8.length c0_8) := bc BK228 8; have hcz18_9 : w17.cell? ⟨gb228, 9, none⟩ = some (.int .i64 a0_9) := bc BK228 9; have hfz18_0 := blk_frozen BK228.out 0; have hfz18_1 := blk_frozen BK228.out 1; have hfz18_2 := blk_frozen BK228.out 2; have hfz18_3 := blk_frozen BK228.out 3; have hfz18_4 := blk_frozen BK228.out 4; have hfz18_5 := blk_frozen BK228.out 5; have hfz18_6 := blk_frozen BK228.out 6; have hfz18_7 := blk_frozen BK228.out 7; have hfz18_8 := blk_frozen BK228.out 8; have hfz18_9 := blk_frozen BK228.out 9) | ((with_reducible refine gate_callee (f := 59) rfl ?_); refine goesL_ (some 31) rfl rfl Tryd.func59 (by kernel_rfl) rfl #[.slice A0_3 l0_3.length c0_3, .int .i64 (l0_2.length : Int)] rfl gl_ ?_; (with_reducible refine (impl_apidsOk.calls kj1 _ _ l0_3 (l0_2.length : Int) true _ ?side1 ?side2 A13.out).mono ?_); (case side1 => exact cN (Kd.C_below HR0_3.out HB.out)); (case side2 => exact HC0_3.out); rintro e w' ⟨rfl, ⟨nd, rfl⟩⟩; refine ⟨_, rfl, ?_⟩))
      (try simp only [Act.put, List.setIfInBounds_toArray, List.set_cons_zero, List.set_cons_succ])
      go_cut [35] (fun v35 wc => ∃ (kq : Nat) (x35_14 : Bool), v35 = .bool x35_14 ∧ Aside0 (impl_Conf_fault.j1 kq (l0_2.length : Int) x35_14 a0_0 a0_1 l0_2 l0_3 l0_4 l0_5 l0_6 l0_7 l0_8 a0_9 = some r) ∧ Aside0 (kq ≤ kj1) ∧ Aside0 (wc.heap[gb228]? = some (.cells #[.int .i64 a0_0, .int .i64 a0_1, (.slice A0_2 l0_2.length c0_2), (.slice A0_3 l0_3.length c0_3), (.slice A0_4 l0_4.length c0_4), (.slice A0_5 l0_5.length c0_5), (.slice A0_6 l0_6.length c0_6), (.slice A0_7 l0_7.length c0_7), (.slice A0_8 l0_8.length c0_8), .int .i64 a0_9] 32 (0, 0))) ∧ Aside0 (Below w.heap.size w wc))
      case first =>
       have H := HC15.out
       clear HC15
       by_cases c19 : (l0_4.length : Int) = (l0_2.length : Int)
       ·rw [if_pos c19] at H
        have c19b0 : ((l0_4.length : Int) == (l0_2.length : Int)) = true := beq_iff_eq.mpr c19
        have c19b1 : ((l0_4.length : Int) != (l0_2.length : Int)) = false := bne_eq_false_iff_eq.mpr c19
        have c19b2 : (l0_4.length == l0_2.length) = true := by first | simpa using c19 | (simp at c19 ⊢; omega)
        clear c19
        (first | rw [c19b0] | (simp only [i64_w, i32_w]; rw [c19b0]) | skip)
        replace H := Option.bind_eq_some_iff.mp H
        obtain ⟨t233, A200, H⟩ := H
        replace H : (impl_Conf_fault.j1 kj1 (l0_2.length : Int) (!t233) a0_0 a0_1 l0_2 l0_3 l0_4 l0_5 l0_6 l0_7 l0_8 a0_9) = some r := H
        have A20 := Aside0.mk A200
        clear A200
        have H' := Aside0.mk H
        clear H
        have hcz21_0 : w17.cell? ⟨gb228, 0, none⟩ = some (.int .i64 a0_0) := bc BK228 0
        have hcz21_1 : w17.cell? ⟨gb228, 1, none⟩ = some (.int .i64 a0_1) := bc BK228 1
        have hcz21_2 : w17.cell? ⟨gb228, 2, none⟩ = some (.slice A0_2 l0_2.length c0_2) := bc BK228 2
        have hcz21_3 : w17.cell? ⟨gb228, 3, none⟩ = some (.slice A0_3 l0_3.length c0_3) := bc BK228 3
        have hcz21_4 : w17.cell? ⟨gb228, 4, none⟩ = some (.slice A0_4 l0_4.length c0_4) := bc BK228 4
        have hcz21_5 : w17.cell? ⟨gb228, 5, none⟩ = some (.slice A0_5 l0_5.length c0_5) := bc BK228 5
        have hcz21_6 : w17.cell? ⟨gb228, 6, none⟩ = some (.slice A0_6 l0_6.length c0_6) := bc BK228 6
        have hcz21_7 : w17.cell? ⟨gb228, 7, none⟩ = some (.slice A0_7 l0_7.length c0_7) := bc BK228 7
        have hcz21_8 : w17.cell? ⟨gb228, 8, none⟩ = some (.slice A0_8 l0_8.length c0_8) := bc BK228 8
        have hcz21_9 : w17.cell? ⟨gb228, 9, none⟩ = some (.int .i64 a0_9) := bc BK228 9
        have hfz21_0 := blk_frozen BK228.out 0
        have hfz21_1 := blk_frozen BK228.out 1
        have hfz21_2 := blk_frozen BK228.out 2
        have hfz21_3 := blk_frozen BK228.out 3
        have hfz21_4 := blk_frozen BK228.out 4
        have hfz21_5 := blk_frozen BK228.out 5
        have hfz21_6 := blk_frozen BK228.out 6
        have hfz21_7 := blk_frozen BK228.out 7
        have hfz21_8 := blk_frozen BK228.out 8
        have hfz21_9 := blk_frozen BK228.out 9
        go_wp2_with (first | (go_at_call 60; (with_reducible refine (impl_allWithin.calls kj1 _ _ l0_4 1 40 t233 _ ?side1 ?side2 A20.out).mono ?_); (case side1 => exact cN (Kd.C_below HR0_4.out HB.out)); (case side2 => exact HC0_4.out); rintro e w' ⟨rfl, ⟨nd, rfl⟩⟩))
        go_meet
        case rel => exact ⟨_, (!t233), (by first | rfl | (simp; done) | (simp [*]; done)), H', ⟨by have := HJ1.out; first | omega | exact Nat.le_refl _⟩, ⟨kN BK228.out⟩, ⟨by repeat (first | (with_reducible first | exact HB.out | apply below_alloc | apply pw_below_drewN | apply below_drew1 | refine below_set ?_ GE228.out) | exact HB.out)⟩⟩
       ·rw [if_neg c19] at H
        have c19b0 : ((l0_4.length : Int) == (l0_2.length : Int)) = false := beq_eq_false_iff_ne.mpr c19
        have c19b1 : ((l0_4.length : Int) != (l0_2.length : Int)) = true := bne_iff_ne.mpr c19
        have c19b2 : (l0_4.length == l0_2.length) = false := by first | simpa using c19 | (simp at c19 ⊢; omega)
        (first | rw [c19b0] | (simp only [i64_w, i32_w]; rw [c19b0]) | skip)
        have H' := Aside0.mk H
        clear H
        have hcz22_0 : w17.cell? ⟨gb228, 0, none⟩ = some (.int .i64 a0_0) := bc BK228 0
        have hcz22_1 : w17.cell? ⟨gb228, 1, none⟩ = some (.int .i64 a0_1) := bc BK228 1
        have hcz22_2 : w17.cell? ⟨gb228, 2, none⟩ = some (.slice A0_2 l0_2.length c0_2) := bc BK228 2
        have hcz22_3 : w17.cell? ⟨gb228, 3, none⟩ = some (.slice A0_3 l0_3.length c0_3) := bc BK228 3
        have hcz22_4 : w17.cell? ⟨gb228, 4, none⟩ = some (.slice A0_4 l0_4.length c0_4) := bc BK228 4
        have hcz22_5 : w17.cell? ⟨gb228, 5, none⟩ = some (.slice A0_5 l0_5.length c0_5) := bc BK228 5
        have hcz22_6 : w17.cell? ⟨gb228, 6, none⟩ = some (.slice A0_6 l0_6.length c0_6) := bc BK228 6
        have hcz22_7 : w17.cell? ⟨gb228, 7, none⟩ = some (.slice A0_7 l0_7.length c0_7) := bc BK228 7
        have hcz22_8 : w17.cell? ⟨gb228, 8, none⟩ = some (.slice A0_8 l0_8.length c0_8) := bc BK228 8
        have hcz22_9 : w17.cell? ⟨gb228, 9, none⟩ = some (.int .i64 a0_9) := bc BK228 9
        have hfz22_0 := blk_frozen BK228.out 0
        have hfz22_1 := blk_frozen BK228.out 1
        have hfz22_2 := blk_frozen BK228.out 2
        have hfz22_3 := blk_frozen BK228.out 3
        have hfz22_4 := blk_frozen BK228.out 4
        have hfz22_5 := blk_frozen BK228.out 5
        have hfz22_6 := blk_frozen BK228.out 6
        have hfz22_7 := blk_frozen BK228.out 7
        have hfz22_8 := blk_frozen BK228.out 8
        have hfz22_9 := blk_frozen BK228.out 9
        go_wp2
        go_meet
        case rel => exact ⟨_, (true), (by first | rfl | (simp; done) | (simp [*]; done)), H', ⟨by have := HJ1.out; first | omega | exact Nat.le_refl _⟩, ⟨kN BK228.out⟩, ⟨by repeat (first | (with_reducible first | exact HB.out | apply below_alloc | apply pw_below_drewN | apply below_drew1 | refine below_set ?_ GE228.out) | exact HB.out)⟩⟩
      case rest =>
       clear HC15
       try clear c1
       try clear p2
       try clear c3
       try clear c5
       try clear c6
       try clear c10
       try clear c12
       try clear c14
       try clear c19
       try clear c19b0
       try clear c19b1
       try clear c19b2
       try clear hcz16_0
       try clear hcz16_1
       try clear hcz16_2
       try clear hcz16_3
       try clear hcz16_4
       try clear hcz16_5
       try clear hcz16_6
       try clear hcz16_7
       try clear hcz16_8
       try clear hcz16_9
       try clear hcz18_0
       try clear hcz18_1
       try clear hcz18_2
       try clear hcz18_3
       try clear hcz18_4
       try clear hcz18_5
       try clear hcz18_6
       try clear hcz18_7
       try clear hcz18_8
       try clear hcz18_9
       try clear hcz21_0
       try clear hcz21_1
       try clear hcz21_2
       try clear hcz21_3
       try clear hcz21_4
       try clear hcz21_5
       try clear hcz21_6
       try clear hcz21_7
       try clear hcz21_8
       try clear hcz21_9
       try clear hcz22_0
       try clear hcz22_1
       try clear hcz22_2
       try clear hcz22_3
       try clear hcz22_4
       try clear hcz22_5
       try clear hcz22_6
       try clear hcz22_7
       try clear hcz22_8
       try clear hcz22_9
       try clear hcz4_0
       try clear hcz4_1
       try clear hcz4_2
       try clear hcz4_3
       try clear hcz4_4
       try clear hcz4_5
       try clear hcz4_6
       try clear hcz4_7
       try clear hcz4_8
       try clear hcz4_9
       try clear hcz8_0
       try clear hcz8_1
       try clear hcz8_2
       try clear hcz8_3
       try clear hcz8_4
       try clear hcz8_5
       try clear hcz8_6
       try clear hcz8_7
       try clear hcz8_8
       try clear hcz8_9
       try clear hcz9_0
       try clear hcz9_1
       try clear hcz9_2
       try clear hcz9_3
       try clear hcz9_4
       try clear hcz9_5
       try clear hcz9_6
       try clear hcz9_7
       try clear hcz9_8
       try clear hcz9_9
       try clear hfz16_0
       try clear hfz16_1
       try clear hfz16_2
       try clear hfz16_3
       try clear hfz16_4
       try clear hfz16_5
       try clear hfz16_6
       try clear hfz16_7
       try clear hfz16_8
       try clear hfz16_9
       try clear hfz18_0
       try clear hfz18_1
       try clear hfz18_2
       try clear hfz18_3
       try clear hfz18_4
       try clear hfz18_5
       try clear hfz18_6
       try clear hfz18_7
       try clear hfz18_8
       try clear hfz18_9
       try clear hfz21_0
       try clear hfz21_1
       try clear hfz21_2
       try clear hfz21_3
       try clear hfz21_4
       try clear hfz21_5
       try clear hfz21_6
       try clear hfz21_7
       try clear hfz21_8
       try clear hfz21_9
       try clear hfz22_0
       try clear hfz22_1
       try clear hfz22_2
       try clear hfz22_3
       try clear hfz22_4
       try clear hfz22_5
       try clear hfz22_6
       try clear hfz22_7
       try clear hfz22_8
       try clear hfz22_9
       try clear hfz4_0
       try clear hfz4_1
       try clear hfz4_2
       try clear hfz4_3
       try clear hfz4_4
       try clear hfz4_5
       try clear hfz4_6
       try clear hfz4_7
       try clear hfz4_8
       try clear hfz4_9
       try clear hfz8_0
       try clear hfz8_1
       try clear hfz8_2
       try clear hfz8_3
       try clear hfz8_4
       try clear hfz8_5
       try clear hfz8_6
       try clear hfz8_7
       try clear hfz8_8
       try clear hfz8_9
       try clear hfz9_0
       try clear hfz9_1
       try clear hfz9_2
       try clear hfz9_3
       try clear hfz9_4
       try clear hfz9_5
       try clear hfz9_6
       try clear hfz9_7
       try clear hfz9_8
       try clear hfz9_9
       try clear p2
       obtain ⟨kq, x35_14, rfl, HA, HJ14, BK228, HB⟩ := hcut
       cases kq with
       | zero => exact absurd HA.out (by simp [impl_Conf_fault.j1])
       | succ kj14 =>
        have H := HA.out
        clear HA
        simp only [impl_Conf_fault.j1] at H
        by_cases c23 : x35_14 = true
        ·subst c23
         have H1 : (some (some 4)) = some r := by rw [if_pos rfl] at H; exact H
         clear H
         have H := H1
         clear H1
         obtain rfl := Option.some.inj H
         go_wp2
         go_ret
         exact ⟨by first | rfl | (simp [errW_none, errW_some] <;> rfl) | (simp [*, errW_none, errW_some] <;> rfl), by repeat (first | (with_reducible first | exact HB.out | apply below_alloc | apply pw_below_drewN | apply below_drew1 | refine below_set ?_ GE228.out) | exact HB.out)⟩
        ·replace c23 := Bool.eq_false_iff.mpr c23
         subst c23
         have H1 : ((impl_turnsOk.f kj14 l0_5 l0_6 (l0_2.length : Int)).bind fun t234 => (if t234 = true then (if (l0_7.length : Int) < 1 then (impl_Conf_fault.j2 kj14 true a0_0 a0_1 l0_2 l0_3 l0_4 l0_5 l0_6 l0_7 l0_8 a0_9) else (if (l0_7.length : Int) > 8 then (impl_Conf_fault.j2 kj14 true a0_0 a0_1 l0_2 l0_3 l0_4 l0_5 l0_6 l0_7 l0_8 a0_9) else ((impl_allWithin.f kj14 l0_7 0 (l0_2.length : Int)).bind fun t235 => (impl_Conf_fault.j2 kj14 (!t235) a0_0 a0_1 l0_2 l0_3 l0_4 l0_5 l0_6 l0_7 l0_8 a0_9)))) else (some (some 5)))) = some r := by rw [if_neg (show ¬ (false = true) by decide)] at H; exact H
         clear H
         have H := H1
         clear H1
         replace H := Option.bind_eq_some_iff.mp H
         obtain ⟨t234, A240, H⟩ := H
         replace H : (if t234 = true then (if (l0_7.length : Int) < 1 then (impl_Conf_fault.j2 kj14 true a0_0 a0_1 l0_2 l0_3 l0_4 l0_5 l0_6 l0_7 l0_8 a0_9) else (if (l0_7.length : Int) > 8 then (impl_Conf_fault.j2 kj14 true a0_0 a0_1 l0_2 l0_3 l0_4 l0_5 l0_6 l0_7 l0_8 a0_9) else ((impl_allWithin.f kj14 l0_7 0 (l0_2.length : Int)).bind fun t235 => (impl_Conf_fault.j2 kj14 (!t235) a0_0 a0_1 l0_2 l0_3 l0_4 l0_5 l0_6 l0_7 l0_8 a0_9)))) else (some (some 5))) = some r := H
         have A24 := Aside0.mk A240
         clear A240
         by_cases c25 : t234 = true
         ·subst c25
          have H1 : (if (l0_7.length : Int) < 1 then (impl_Conf_fault.j2 kj14 true a0_0 a0_1 l0_2 l0_3 l0_4 l0_5 l0_6 l0_7 l0_8 a0_9) else (if (l0_7.length : Int) > 8 then (impl_Conf_fault.j2 kj14 true a0_0 a0_1 l0_2 l0_3 l0_4 l0_5 l0_6 l0_7 l0_8 a0_9) else ((impl_allWithin.f kj14 l0_7 0 (l0_2.length : Int)).bind fun t235 => (impl_Conf_fault.j2 kj14 (!t235) a0_0 a0_1 l0_2 l0_3 l0_4 l0_5 l0_6 l0_7 l0_8 a0_9)))) = some r := by rw [if_pos rfl] at H; exact H
          clear H
          have H := H1
          clear H1
          have HC26 := Aside0.mk H
          clear H
          have hcz27_0 : wc.cell? ⟨gb228, 0, none⟩ = some (.int .i64 a0_0) := bc BK228 0
          have hcz27_1 : wc.cell? ⟨gb228, 1, none⟩ = some (.int .i64 a0_1) := bc BK228 1
          have hcz27_2 : wc.cell? ⟨gb228, 2, none⟩ = some (.slice A0_2 l0_2.length c0_2) := bc BK228 2
          have hcz27_3 : wc.cell? ⟨gb228, 3, none⟩ = some (.slice A0_3 l0_3.length c0_3) := bc BK228 3
          have hcz27_4 : wc.cell? ⟨gb228, 4, none⟩ = some (.slice A0_4 l0_4.length c0_4) := bc BK228 4
          have hcz27_5 : wc.cell? ⟨gb228, 5, none⟩ = some (.slice A0_5 l0_5.length c0_5) := bc BK228 5
          have hcz27_6 : wc.cell? ⟨gb228, 6, none⟩ = some (.slice A0_6 l0_6.length c0_6) := bc BK228 6
          have hcz27_7 : wc.cell? ⟨gb228, 7, none⟩ = some (.slice A0_7 l0_7.length c0_7) := bc BK228 7
          have hcz27_8 : wc.cell? ⟨gb228, 8, none⟩ = some (.slice A0_8 l0_8.length c0_8) := bc BK228 8
          have hcz27_9 : wc.cell? ⟨gb228, 9, none⟩ = some (.int .i64 a0_9) := bc BK228 9
          have hfz27_0 := blk_frozen BK228.out 0
          have hfz27_1 := blk_frozen BK228.out 1
          have hfz27_2 := blk_frozen BK228.out 2
          have hfz27_3 := blk_frozen BK228.out 3
          have hfz27_4 := blk_frozen BK228.out 4
          have hfz27_5 := blk_frozen BK228.out 5
          have hfz27_6 := blk_frozen BK228.out 6
          have hfz27_7 := blk_frozen BK228.out 7
          have hfz27_8 := blk_frozen BK228.out 8
          have hfz27_9 := blk_frozen BK228.out 9
          go_upto_region 12 with (first | ((with_reducible refine gate_callee (f := 61) rfl ?_); refine goesL_ (some 55) rfl rfl Tryd.func61 (by kernel_rfl) rfl #[.slice A0_5 l0_5.length c0_5, .slice A0_6 l0_6.length c0_6, .int .i64 (l0_2.length : Int)] rfl gl_ ?_; (with_reducible refine (impl_turnsOk.calls kj14 _ _ l0_5 _ _ l0_6 (l0_2.length : Int) true _ ?side1 ?side2 ?side3 ?side4 A24.out).mono ?_); (case side1 => exact cN (Kd.C_below HR0_5.out HB.out)); (case side2 => exact HC0_5.out); (case side3 => exact cN (Kd.C_below HR0_6.out HB.out)); (case side4 => exact HC0_6.out); rintro e w' ⟨rfl, ⟨nd, rfl⟩⟩; refine ⟨_, rfl, ?_⟩))
          (try simp only [Act.put, List.setIfInBounds_toArray, List.set_cons_zero, List.set_cons_succ])
          go_cut [59] (fun v59 wc => ∃ (kq : Nat) (x59_25 : Bool), v59 = .bool x59_25 ∧ Aside0 (impl_Conf_fault.j2 kq x59_25 a0_0 a0_1 l0_2 l0_3 l0_4 l0_5 l0_6 l0_7 l0_8 a0_9 = some r) ∧ Aside0 (kq ≤ kj14) ∧ Aside0 (wc.heap[gb228]? = some (.cells #[.int .i64 a0_0, .int .i64 a0_1, (.slice A0_2 l0_2.length c0_2), (.slice A0_3 l0_3.length c0_3), (.slice A0_4 l0_4.length c0_4), (.slice A0_5 l0_5.length c0_5), (.slice A0_6 l0_6.length c0_6), (.slice A0_7 l0_7.length c0_7), (.slice A0_8 l0_8.length c0_8), .int .i64 a0_9] 32 (0, 0))) ∧ Aside0 (Below w.heap.size w wc))
          case first =>
           have H := HC26.out
           clear HC26
           by_cases c28 : (l0_7.length : Int) < 1
           ·rw [if_pos c28] at H
            have c28b0 : decide ((l0_7.length : Int) < 1) = true := decide_eq_true c28
            have c28b1 : decide (l0_7.length < 1) = true := decide_eq_true (by omega)
            clear c28
            (first | rw [c28b0] | (simp only [i64_w, i32_w]; rw [c28b0]) | skip)
            have H' := Aside0.mk H
            clear H
            have hcz29_0 : wc.cell? ⟨gb228, 0, none⟩ = some (.int .i64 a0_0) := bc BK228 0
            have hcz29_1 : wc.cell? ⟨gb228, 1, none⟩ = some (.int .i64 a0_1) := bc BK228 1
            have hcz29_2 : wc.cell? ⟨gb228, 2, none⟩ = some (.slice A0_2 l0_2.length c0_2) := bc BK228 2
            have hcz29_3 : wc.cell? ⟨gb228, 3, none⟩ = some (.slice A0_3 l0_3.length c0_3) := bc BK228 3
            have hcz29_4 : wc.cell? ⟨gb228, 4, none⟩ = some (.slice A0_4 l0_4.length c0_4) := bc BK228 4
            have hcz29_5 : wc.cell? ⟨gb228, 5, none⟩ = some (.slice A0_5 l0_5.length c0_5) := bc BK228 5
            have hcz29_6 : wc.cell? ⟨gb228, 6, none⟩ = some (.slice A0_6 l0_6.length c0_6) := bc BK228 6
            have hcz29_7 : wc.cell? ⟨gb228, 7, none⟩ = some (.slice A0_7 l0_7.length c0_7) := bc BK228 7
            have hcz29_8 : wc.cell? ⟨gb228, 8, none⟩ = some (.slice A0_8 l0_8.length c0_8) := bc BK228 8
            have hcz29_9 : wc.cell? ⟨gb228, 9, none⟩ = some (.int .i64 a0_9) := bc BK228 9
            have hfz29_0 := blk_frozen BK228.out 0
            have hfz29_1 := blk_frozen BK228.out 1
            have hfz29_2 := blk_frozen BK228.out 2
            have hfz29_3 := blk_frozen BK228.out 3
            have hfz29_4 := blk_frozen BK228.out 4
            have hfz29_5 := blk_frozen BK228.out 5
            have hfz29_6 := blk_frozen BK228.out 6
            have hfz29_7 := blk_frozen BK228.out 7
            have hfz29_8 := blk_frozen BK228.out 8
            have hfz29_9 := blk_frozen BK228.out 9
            go_wp2
            go_meet
            case rel => exact ⟨_, (true), (by first | rfl | (simp; done) | (simp [*]; done)), H', ⟨by have := HJ1.out; have := HJ14.out; first | omega | exact Nat.le_refl _⟩, ⟨kN BK228.out⟩, ⟨by repeat (first | (with_reducible first | exact HB.out | apply below_alloc | apply pw_below_drewN | apply below_drew1 | refine below_set ?_ GE228.out) | exact HB.out)⟩⟩
           ·rw [if_neg c28] at H
            have c28b0 : decide ((l0_7.length : Int) < 1) = false := decide_eq_false c28
            have c28b1 : decide (l0_7.length < 1) = false := decide_eq_false (by omega)
            clear c28
            (first | rw [c28b0] | (simp only [i64_w, i32_w]; rw [c28b0]) | skip)
            by_cases c30 : (l0_7.length : Int) > 8
            ·rw [if_pos c30] at H
             have c30b0 : decide (8 < (l0_7.length : Int)) = true := decide_eq_true c30
             have c30b1 : decide (8 < l0_7.length) = true := decide_eq_true (by omega)
             clear c30
             have H' := Aside0.mk H
             clear H
             have hcz31_0 : wc.cell? ⟨gb228, 0, none⟩ = some (.int .i64 a0_0) := bc BK228 0
             have hcz31_1 : wc.cell? ⟨gb228, 1, none⟩ = some (.int .i64 a0_1) := bc BK228 1
             have hcz31_2 : wc.cell? ⟨gb228, 2, none⟩ = some (.slice A0_2 l0_2.length c0_2) := bc BK228 2
             have hcz31_3 : wc.cell? ⟨gb228, 3, none⟩ = some (.slice A0_3 l0_3.length c0_3) := bc BK228 3
             have hcz31_4 : wc.cell? ⟨gb228, 4, none⟩ = some (.slice A0_4 l0_4.length c0_4) := bc BK228 4
             have hcz31_5 : wc.cell? ⟨gb228, 5, none⟩ = some (.slice A0_5 l0_5.length c0_5) := bc BK228 5
             have hcz31_6 : wc.cell? ⟨gb228, 6, none⟩ = some (.slice A0_6 l0_6.length c0_6) := bc BK228 6
             have hcz31_7 : wc.cell? ⟨gb228, 7, none⟩ = some (.slice A0_7 l0_7.length c0_7) := bc BK228 7
             have hcz31_8 : wc.cell? ⟨gb228, 8, none⟩ = some (.slice A0_8 l0_8.length c0_8) := bc BK228 8
             have hcz31_9 : wc.cell? ⟨gb228, 9, none⟩ = some (.int .i64 a0_9) := bc BK228 9
             have hfz31_0 := blk_frozen BK228.out 0
             have hfz31_1 := blk_frozen BK228.out 1
             have hfz31_2 := blk_frozen BK228.out 2
             have hfz31_3 := blk_frozen BK228.out 3
             have hfz31_4 := blk_frozen BK228.out 4
             have hfz31_5 := blk_frozen BK228.out 5
             have hfz31_6 := blk_frozen BK228.out 6
             have hfz31_7 := blk_frozen BK228.out 7
             have hfz31_8 := blk_frozen BK228.out 8
             have hfz31_9 := blk_frozen BK228.out 9
             go_wp2
             go_meet
             case rel => exact ⟨_, (true), (by first | rfl | (simp; done) | (simp [*]; done)), H', ⟨by have := HJ1.out; have := HJ14.out; first | omega | exact Nat.le_refl _⟩, ⟨kN BK228.out⟩, ⟨by repeat (first | (with_reducible first | exact HB.out | apply below_alloc | apply pw_below_drewN | apply below_drew1 | refine below_set ?_ GE228.out) | exact HB.out)⟩⟩
            ·rw [if_neg c30] at H
             have c30b0 : decide (8 < (l0_7.length : Int)) = false := decide_eq_false c30
             have c30b1 : decide (8 < l0_7.length) = false := decide_eq_false (by omega)
             clear c30
             replace H := Option.bind_eq_some_iff.mp H
             obtain ⟨t235, A320, H⟩ := H
             replace H : (impl_Conf_fault.j2 kj14 (!t235) a0_0 a0_1 l0_2 l0_3 l0_4 l0_5 l0_6 l0_7 l0_8 a0_9) = some r := H
             have A32 := Aside0.mk A320
             clear A320
             have H' := Aside0.mk H
             clear H
             have hcz33_0 : wc.cell? ⟨gb228, 0, none⟩ = some (.int .i64 a0_0) := bc BK228 0
             have hcz33_1 : wc.cell? ⟨gb228, 1, none⟩ = some (.int .i64 a0_1) := bc BK228 1
             have hcz33_2 : wc.cell? ⟨gb228, 2, none⟩ = some (.slice A0_2 l0_2.length c0_2) := bc BK228 2
             have hcz33_3 : wc.cell? ⟨gb228, 3, none⟩ = some (.slice A0_3 l0_3.length c0_3) := bc BK228 3
             have hcz33_4 : wc.cell? ⟨gb228, 4, none⟩ = some (.slice A0_4 l0_4.length c0_4) := bc BK228 4
             have hcz33_5 : wc.cell? ⟨gb228, 5, none⟩ = some (.slice A0_5 l0_5.length c0_5) := bc BK228 5
             have hcz33_6 : wc.cell? ⟨gb228, 6, none⟩ = some (.slice A0_6 l0_6.length c0_6) := bc BK228 6
             have hcz33_7 : wc.cell? ⟨gb228, 7, none⟩ = some (.slice A0_7 l0_7.length c0_7) := bc BK228 7
             have hcz33_8 : wc.cell? ⟨gb228, 8, none⟩ = some (.slice A0_8 l0_8.length c0_8) := bc BK228 8
             have hcz33_9 : wc.cell? ⟨gb228, 9, none⟩ = some (.int .i64 a0_9) := bc BK228 9
             have hfz33_0 := blk_frozen BK228.out 0
             have hfz33_1 := blk_frozen BK228.out 1
             have hfz33_2 := blk_frozen BK228.out 2
             have hfz33_3 := blk_frozen BK228.out 3
             have hfz33_4 := blk_frozen BK228.out 4
             have hfz33_5 := blk_frozen BK228.out 5
             have hfz33_6 := blk_frozen BK228.out 6
             have hfz33_7 := blk_frozen BK228.out 7
             have hfz33_8 := blk_frozen BK228.out 8
             have hfz33_9 := blk_frozen BK228.out 9
             go_wp2_with (first | (go_at_call 60; (with_reducible refine (impl_allWithin.calls kj14 _ _ l0_7 0 (l0_2.length : Int) t235 _ ?side1 ?side2 A32.out).mono ?_); (case side1 => exact cN (Kd.C_below HR0_7.out HB.out)); (case side2 => exact HC0_7.out); rintro e w' ⟨rfl, ⟨nd, rfl⟩⟩))
             go_meet
             case rel => exact ⟨_, (!t235), (by first | rfl | (simp; done) | (simp [*]; done)), H', ⟨by have := HJ1.out; have := HJ14.out; first | omega | exact Nat.le_refl _⟩, ⟨kN BK228.out⟩, ⟨by repeat (first | (with_reducible first | exact HB.out | apply below_alloc | apply pw_below_drewN | apply below_drew1 | refine below_set ?_ GE228.out) | exact HB.out)⟩⟩
          case rest =>
           clear HC26
           try clear c1
           try clear c2
           try clear p2
           try clear c3
           try clear c5
           try clear c6
           try clear c10
           try clear c12
           try clear c14
           try clear c19
           try clear c19b0
           try clear c19b1
           try clear c19b2
           try clear c23
           try clear c25
           try clear c28
           try clear c28b0
           try clear c28b1
           try clear c30
           try clear c30b0
           try clear c30b1
           try clear hcz16_0
           try clear hcz16_1
           try clear hcz16_2
           try clear hcz16_3
           try clear hcz16_4
           try clear hcz16_5
           try clear hcz16_6
           try clear hcz16_7
           try clear hcz16_8
           try clear hcz16_9
           try clear hcz18_0
           try clear hcz18_1
           try clear hcz18_2
           try clear hcz18_3
           try clear hcz18_4
           try clear hcz18_5
           try clear hcz18_6
           try clear hcz18_7
           try clear hcz18_8
           try clear hcz18_9
           try clear hcz21_0
           try clear hcz21_1
           try clear hcz21_2
           try clear hcz21_3
           try clear hcz21_4
           try clear hcz21_5
           try clear hcz21_6
           try clear hcz21_7
           try clear hcz21_8
           try clear hcz21_9
           try clear hcz22_0
           try clear hcz22_1
           try clear hcz22_2
           try clear hcz22_3
           try clear hcz22_4
           try clear hcz22_5
           try clear hcz22_6
           try clear hcz22_7
           try clear hcz22_8
           try clear hcz22_9
           try clear hcz27_0
           try clear hcz27_1
           try clear hcz27_2
           try clear hcz27_3
           try clear hcz27_4
           try clear hcz27_5
           try clear hcz27_6
           try clear hcz27_7
           try clear hcz27_8
           try clear hcz27_9
           try clear hcz29_0
           try clear hcz29_1
           try clear hcz29_2
           try clear hcz29_3
           try clear hcz29_4
           try clear hcz29_5
           try clear hcz29_6
           try clear hcz29_7
           try clear hcz29_8
           try clear hcz29_9
           try clear hcz31_0
           try clear hcz31_1
           try clear hcz31_2
           try clear hcz31_3
           try clear hcz31_4
           try clear hcz31_5
           try clear hcz31_6
           try clear hcz31_7
           try clear hcz31_8
           try clear hcz31_9
           try clear hcz33_0
           try clear hcz33_1
           try clear hcz33_2
           try clear hcz33_3
           try clear hcz33_4
           try clear hcz33_5
           try clear hcz33_6
           try clear hcz33_7
           try clear hcz33_8
           try clear hcz33_9
           try clear hcz4_0
           try clear hcz4_1
           try clear hcz4_2
           try clear hcz4_3
           try clear hcz4_4
           try clear hcz4_5
           try clear hcz4_6
           try clear hcz4_7
           try clear hcz4_8
           try clear hcz4_9
           try clear hcz8_0
           try clear hcz8_1
           try clear hcz8_2
           try clear hcz8_3
           try clear hcz8_4
           try clear hcz8_5
           try clear hcz8_6
           try clear hcz8_7
           try clear hcz8_8
           try clear hcz8_9
           try clear hcz9_0
           try clear hcz9_1
           try clear hcz9_2
           try clear hcz9_3
           try clear hcz9_4
           try clear hcz9_5
           try clear hcz9_6
           try clear hcz9_7
           try clear hcz9_8
           try clear hcz9_9
           try clear hfz16_0
           try clear hfz16_1
           try clear hfz16_2
           try clear hfz16_3
           try clear hfz16_4
           try clear hfz16_5
           try clear hfz16_6
           try clear hfz16_7
           try clear hfz16_8
           try clear hfz16_9
           try clear hfz18_0
           try clear hfz18_1
           try clear hfz18_2
           try clear hfz18_3
           try clear hfz18_4
           try clear hfz18_5
           try clear hfz18_6
           try clear hfz18_7
           try clear hfz18_8
           try clear hfz18_9
           try clear hfz21_0
           try clear hfz21_1
           try clear hfz21_2
           try clear hfz21_3
           try clear hfz21_4
           try clear hfz21_5
           try clear hfz21_6
           try clear hfz21_7
           try clear hfz21_8
           try clear hfz21_9
           try clear hfz22_0
           try clear hfz22_1
           try clear hfz22_2
           try clear hfz22_3
           try clear hfz22_4
           try clear hfz22_5
           try clear hfz22_6
           try clear hfz22_7
           try clear hfz22_8
           try clear hfz22_9
           try clear hfz27_0
           try clear hfz27_1
           try clear hfz27_2
           try clear hfz27_3
           try clear hfz27_4
           try clear hfz27_5
           try clear hfz27_6
           try clear hfz27_7
           try clear hfz27_8
           try clear hfz27_9
           try clear hfz29_0
           try clear hfz29_1
           try clear hfz29_2
           try clear hfz29_3
           try clear hfz29_4
           try clear hfz29_5
           try clear hfz29_6
           try clear hfz29_7
           try clear hfz29_8
           try clear hfz29_9
           try clear hfz31_0
           try clear hfz31_1
           try clear hfz31_2
           try clear hfz31_3
           try clear hfz31_4
           try clear hfz31_5
           try clear hfz31_6
           try clear hfz31_7
           try clear hfz31_8
           try clear hfz31_9
           try clear hfz33_0
           try clear hfz33_1
           try clear hfz33_2
           try clear hfz33_3
           try clear hfz33_4
           try clear hfz33_5
           try clear hfz33_6
           try clear hfz33_7
           try clear hfz33_8
           try clear hfz33_9
           try clear hfz4_0
           try clear hfz4_1
           try clear hfz4_2
           try clear hfz4_3
           try clear hfz4_4
           try clear hfz4_5
           try clear hfz4_6
           try clear hfz4_7
           try clear hfz4_8
           try clear hfz4_9
           try clear hfz8_0
           try clear hfz8_1
           try clear hfz8_2
           try clear hfz8_3
           try clear hfz8_4
           try clear hfz8_5
           try clear hfz8_6
           try clear hfz8_7
           try clear hfz8_8
           try clear hfz8_9
           try clear hfz9_0
           try clear hfz9_1
           try clear hfz9_2
           try clear hfz9_3
           try clear hfz9_4
           try clear hfz9_5
           try clear hfz9_6
           try clear hfz9_7
           try clear hfz9_8
           try clear hfz9_9
           try clear p2
           obtain ⟨kq, x59_25, rfl, HA, HJ25, BK228, HB⟩ := hcut
           cases kq with
           | zero => exact absurd HA.out (by simp [impl_Conf_fault.j2])
           | succ kj25 =>
            have H := HA.out
            clear HA
            simp only [impl_Conf_fault.j2] at H
            by_cases c34 : x59_25 = true
            ·subst c34
             have H1 : (some (some 6)) = some r := by rw [if_pos rfl] at H; exact H
             clear H
             have H := H1
             clear H1
             obtain rfl := Option.some.inj H
             go_wp2
             go_ret
             exact ⟨by first | rfl | (simp [errW_none, errW_some] <;> rfl) | (simp [*, errW_none, errW_some] <;> rfl), by repeat (first | (with_reducible first | exact HB.out | apply below_alloc | apply pw_below_drewN | apply below_drew1 | refine below_set ?_ GE228.out) | exact HB.out)⟩
            ·replace c34 := Bool.eq_false_iff.mpr c34
             subst c34
             have H1 : ((impl_RulesOk.f kj25 l0_8).bind fun t236 => (if t236 = true then ((impl_within.f a0_9 9999).bind fun t237 => (if t237 = true then (some none) else (some (some 8)))) else (some (some 7)))) = some r := by rw [if_neg (show ¬ (false = true) by decide)] at H; exact H
             clear H
             have H := H1
             clear H1
             replace H := Option.bind_eq_some_iff.mp H
             obtain ⟨t236, A350, H⟩ := H
             replace H : (if t236 = true then ((impl_within.f a0_9 9999).bind fun t237 => (if t237 = true then (some none) else (some (some 8)))) else (some (some 7))) = some r := H
             have A35 := Aside0.mk A350
             clear A350
             by_cases c36 : t236 = true
             ·subst c36
              have H1 : ((impl_within.f a0_9 9999).bind fun t237 => (if t237 = true then (some none) else (some (some 8)))) = some r := by rw [if_pos rfl] at H; exact H
              clear H
              have H := H1
              clear H1
              replace H := Option.bind_eq_some_iff.mp H
              obtain ⟨t237, A370, H⟩ := H
              replace H : (if t237 = true then (some none) else (some (some 8))) = some r := H
              have A37 := Aside0.mk A370
              clear A370
              by_cases c38 : t237 = true
              ·subst c38
               have H1 : (some none) = some r := by rw [if_pos rfl] at H; exact H
               clear H
               have H := H1
               clear H1
               obtain rfl := Option.some.inj H
               have hcz39_0 : wc.cell? ⟨gb228, 0, none⟩ = some (.int .i64 a0_0) := bc BK228 0
               have hcz39_1 : wc.cell? ⟨gb228, 1, none⟩ = some (.int .i64 a0_1) := bc BK228 1
               have hcz39_2 : wc.cell? ⟨gb228, 2, none⟩ = some (.slice A0_2 l0_2.length c0_2) := bc BK228 2
               have hcz39_3 : wc.cell? ⟨gb228, 3, none⟩ = some (.slice A0_3 l0_3.length c0_3) := bc BK228 3
               have hcz39_4 : wc.cell? ⟨gb228, 4, none⟩ = some (.slice A0_4 l0_4.length c0_4) := bc BK228 4
               have hcz39_5 : wc.cell? ⟨gb228, 5, none⟩ = some (.slice A0_5 l0_5.length c0_5) := bc BK228 5
               have hcz39_6 : wc.cell? ⟨gb228, 6, none⟩ = some (.slice A0_6 l0_6.length c0_6) := bc BK228 6
               have hcz39_7 : wc.cell? ⟨gb228, 7, none⟩ = some (.slice A0_7 l0_7.length c0_7) := bc BK228 7
               have hcz39_8 : wc.cell? ⟨gb228, 8, none⟩ = some (.slice A0_8 l0_8.length c0_8) := bc BK228 8
               have hcz39_9 : wc.cell? ⟨gb228, 9, none⟩ = some (.int .i64 a0_9) := bc BK228 9
               have hfz39_0 := blk_frozen BK228.out 0
               have hfz39_1 := blk_frozen BK228.out 1
               have hfz39_2 := blk_frozen BK228.out 2
               have hfz39_3 := blk_frozen BK228.out 3
               have hfz39_4 := blk_frozen BK228.out 4
               have hfz39_5 := blk_frozen BK228.out 5
               have hfz39_6 := blk_frozen BK228.out 6
               have hfz39_7 := blk_frozen BK228.out 7
               have hfz39_8 := blk_frozen BK228.out 8
               have hfz39_9 := blk_frozen BK228.out 9
               go_wp2_with (first | ((with_reducible refine gate_callee (f := 62) rfl ?_); refine goesL_ (some 82) rfl rfl Tryd.func62 (by kernel_rfl) rfl #[.slice A0_8 l0_8.length c0_8] rfl gl_ ?_; (with_reducible refine (impl_RulesOk.calls kj25 _ _ l0_8 true _ ?side1 ?side2 A35.out).mono ?_); (case side1 => exact cN (Kd.C_below HR0_8.out HB.out)); (case side2 => exact HC0_8.out); rintro e w40 ⟨rfl, hb⟩; refine ⟨_, rfl, ?_⟩; have n0_ := m_ (blk_below (kN BK228.out) hb); have n1_ := m_ (below_step (bN HB.out) hb); clear BK228; clear HB; have BK228 := n0_; have HB := n1_; clear n0_ n1_; (try clear hb); (try clear hb2); (try clear hk); (try clear hi); have hcz41_0 : w40.cell? ⟨gb228, 0, none⟩ = some (.int .i64 a0_0) := bc BK228 0; have hcz41_1 : w40.cell? ⟨gb228, 1, none⟩ = some (.int .i64 a0_1) := bc BK228 1; have hcz41_2 : w40.cell? ⟨gb228, 2, none⟩ = some (.slice A0_2 l0_2.length c0_2) := bc BK228 2; have hcz41_3 : w40.cell? ⟨gb228, 3, none⟩ = some (.slice A0_3 l0_3.length c0_3) := bc BK228 3; have hcz41_4 : w40.cell? ⟨gb228, 4, none⟩ = some (.slice A0_4 l0_4.length c0_4) := bc BK228 4; have hcz41_5 : w40.cell? ⟨gb228, 5, none⟩ = some (.slice A0_5 l0_5.length c0_5) := bc BK228 5; have hcz41_6 : w40.cell? ⟨gb228, 6, none⟩ = some (.slice A0_6 l0_6.length c0_6) := bc BK228 6; have hcz41_7 : w40.cell? ⟨gb228, 7, none⟩ = some (.slice A0_7 l0_7.length c0_7) := bc BK228 7; have hcz41_8 : w40.cell? ⟨gb228, 8, none⟩ = some (.slice A0_8 l0_8.length c0_8) := bc BK228 8; have hcz41_9 : w40.cell? ⟨gb228, 9, none⟩ = some (.int .i64 a0_9) := bc BK228 9; have hfz41_0 := blk_frozen BK228.out 0; have hfz41_1 := blk_frozen BK228.out 1; have hfz41_2 := blk_frozen BK228.out 2; have hfz41_3 := blk_frozen BK228.out 3; have hfz41_4 := blk_frozen BK228.out 4; have hfz41_5 := blk_frozen BK228.out 5; have hfz41_6 := blk_frozen BK228.out 6; have hfz41_7 := blk_frozen BK228.out 7; have hfz41_8 := blk_frozen BK228.out 8; have hfz41_9 := blk_frozen BK228.out 9) | ((with_reducible refine gate_callee (f := 30) rfl ?_); refine goesL_ (some 89) rfl rfl Tryd.func30 (by kernel_rfl) rfl #[.int .i64 a0_9, .int .i64 9999] rfl gl_ ?_; (with_reducible refine (impl_within.calls a0_9 9999 true _ A37.out).mono ?_); rintro e w' ⟨rfl, ⟨nd, rfl⟩⟩; refine ⟨_, rfl, ?_⟩))
               go_ret
               exact ⟨by first | rfl | (simp [errW_none, errW_some] <;> rfl) | (simp [*, errW_none, errW_some] <;> rfl), by repeat (first | (with_reducible first | exact HB.out | apply below_alloc | apply pw_below_drewN | apply below_drew1 | refine below_set ?_ GE228.out) | exact HB.out)⟩
              ·replace c38 := Bool.eq_false_iff.mpr c38
               subst c38
               have H1 : (some (some 8)) = some r := by rw [if_neg (show ¬ (false = true) by decide)] at H; exact H
               clear H
               have H := H1
               clear H1
               obtain rfl := Option.some.inj H
               have hcz42_0 : wc.cell? ⟨gb228, 0, none⟩ = some (.int .i64 a0_0) := bc BK228 0
               have hcz42_1 : wc.cell? ⟨gb228, 1, none⟩ = some (.int .i64 a0_1) := bc BK228 1
               have hcz42_2 : wc.cell? ⟨gb228, 2, none⟩ = some (.slice A0_2 l0_2.length c0_2) := bc BK228 2
               have hcz42_3 : wc.cell? ⟨gb228, 3, none⟩ = some (.slice A0_3 l0_3.length c0_3) := bc BK228 3
               have hcz42_4 : wc.cell? ⟨gb228, 4, none⟩ = some (.slice A0_4 l0_4.length c0_4) := bc BK228 4
               have hcz42_5 : wc.cell? ⟨gb228, 5, none⟩ = some (.slice A0_5 l0_5.length c0_5) := bc BK228 5
               have hcz42_6 : wc.cell? ⟨gb228, 6, none⟩ = some (.slice A0_6 l0_6.length c0_6) := bc BK228 6
               have hcz42_7 : wc.cell? ⟨gb228, 7, none⟩ = some (.slice A0_7 l0_7.length c0_7) := bc BK228 7
               have hcz42_8 : wc.cell? ⟨gb228, 8, none⟩ = some (.slice A0_8 l0_8.length c0_8) := bc BK228 8
               have hcz42_9 : wc.cell? ⟨gb228, 9, none⟩ = some (.int .i64 a0_9) := bc BK228 9
               have hfz42_0 := blk_frozen BK228.out 0
               have hfz42_1 := blk_frozen BK228.out 1
               have hfz42_2 := blk_frozen BK228.out 2
               have hfz42_3 := blk_frozen BK228.out 3
               have hfz42_4 := blk_frozen BK228.out 4
               have hfz42_5 := blk_frozen BK228.out 5
               have hfz42_6 := blk_frozen BK228.out 6
               have hfz42_7 := blk_frozen BK228.out 7
               have hfz42_8 := blk_frozen BK228.out 8
               have hfz42_9 := blk_frozen BK228.out 9
               go_wp2_with (first | ((with_reducible refine gate_callee (f := 62) rfl ?_); refine goesL_ (some 82) rfl rfl Tryd.func62 (by kernel_rfl) rfl #[.slice A0_8 l0_8.length c0_8] rfl gl_ ?_; (with_reducible refine (impl_RulesOk.calls kj25 _ _ l0_8 true _ ?side1 ?side2 A35.out).mono ?_); (case side1 => exact cN (Kd.C_below HR0_8.out HB.out)); (case side2 => exact HC0_8.out); rintro e w43 ⟨rfl, hb⟩; refine ⟨_, rfl, ?_⟩; have n0_ := m_ (blk_below (kN BK228.out) hb); have n1_ := m_ (below_step (bN HB.out) hb); clear BK228; clear HB; have BK228 := n0_; have HB := n1_; clear n0_ n1_; (try clear hb); (try clear hb2); (try clear hk); (try clear hi); have hcz44_0 : w43.cell? ⟨gb228, 0, none⟩ = some (.int .i64 a0_0) := bc BK228 0; have hcz44_1 : w43.cell? ⟨gb228, 1, none⟩ = some (.int .i64 a0_1) := bc BK228 1; have hcz44_2 : w43.cell? ⟨gb228, 2, none⟩ = some (.slice A0_2 l0_2.length c0_2) := bc BK228 2; have hcz44_3 : w43.cell? ⟨gb228, 3, none⟩ = some (.slice A0_3 l0_3.length c0_3) := bc BK228 3; have hcz44_4 : w43.cell? ⟨gb228, 4, none⟩ = some (.slice A0_4 l0_4.length c0_4) := bc BK228 4; have hcz44_5 : w43.cell? ⟨gb228, 5, none⟩ = some (.slice A0_5 l0_5.length c0_5) := bc BK228 5; have hcz44_6 : w43.cell? ⟨gb228, 6, none⟩ = some (.slice A0_6 l0_6.length c0_6) := bc BK228 6; have hcz44_7 : w43.cell? ⟨gb228, 7, none⟩ = some (.slice A0_7 l0_7.length c0_7) := bc BK228 7; have hcz44_8 : w43.cell? ⟨gb228, 8, none⟩ = some (.slice A0_8 l0_8.length c0_8) := bc BK228 8; have hcz44_9 : w43.cell? ⟨gb228, 9, none⟩ = some (.int .i64 a0_9) := bc BK228 9; have hfz44_0 := blk_frozen BK228.out 0; have hfz44_1 := blk_frozen BK228.out 1; have hfz44_2 := blk_frozen BK228.out 2; have hfz44_3 := blk_frozen BK228.out 3; have hfz44_4 := blk_frozen BK228.out 4; have hfz44_5 := blk_frozen BK228.out 5; have hfz44_6 := blk_frozen BK228.out 6; have hfz44_7 := blk_frozen BK228.out 7; have hfz44_8 := blk_frozen BK228.out 8; have hfz44_9 := blk_frozen BK228.out 9) | ((with_reducible refine gate_callee (f := 30) rfl ?_); refine goesL_ (some 89) rfl rfl Tryd.func30 (by kernel_rfl) rfl #[.int .i64 a0_9, .int .i64 9999] rfl gl_ ?_; (with_reducible refine (impl_within.calls a0_9 9999 false _ A37.out).mono ?_); rintro e w' ⟨rfl, ⟨nd, rfl⟩⟩; refine ⟨_, rfl, ?_⟩))
               go_ret
               exact ⟨by first | rfl | (simp [errW_none, errW_some] <;> rfl) | (simp [*, errW_none, errW_some] <;> rfl), by repeat (first | (with_reducible first | exact HB.out | apply below_alloc | apply pw_below_drewN | apply below_drew1 | refine below_set ?_ GE228.out) | exact HB.out)⟩
             ·replace c36 := Bool.eq_false_iff.mpr c36
              subst c36
              have H1 : (some (some 7)) = some r := by rw [if_neg (show ¬ (false = true) by decide)] at H; exact H
              clear H
              have H := H1
              clear H1
              obtain rfl := Option.some.inj H
              have hcz45_0 : wc.cell? ⟨gb228, 0, none⟩ = some (.int .i64 a0_0) := bc BK228 0
              have hcz45_1 : wc.cell? ⟨gb228, 1, none⟩ = some (.int .i64 a0_1) := bc BK228 1
              have hcz45_2 : wc.cell? ⟨gb228, 2, none⟩ = some (.slice A0_2 l0_2.length c0_2) := bc BK228 2
              have hcz45_3 : wc.cell? ⟨gb228, 3, none⟩ = some (.slice A0_3 l0_3.length c0_3) := bc BK228 3
              have hcz45_4 : wc.cell? ⟨gb228, 4, none⟩ = some (.slice A0_4 l0_4.length c0_4) := bc BK228 4
              have hcz45_5 : wc.cell? ⟨gb228, 5, none⟩ = some (.slice A0_5 l0_5.length c0_5) := bc BK228 5
              have hcz45_6 : wc.cell? ⟨gb228, 6, none⟩ = some (.slice A0_6 l0_6.length c0_6) := bc BK228 6
              have hcz45_7 : wc.cell? ⟨gb228, 7, none⟩ = some (.slice A0_7 l0_7.length c0_7) := bc BK228 7
              have hcz45_8 : wc.cell? ⟨gb228, 8, none⟩ = some (.slice A0_8 l0_8.length c0_8) := bc BK228 8
              have hcz45_9 : wc.cell? ⟨gb228, 9, none⟩ = some (.int .i64 a0_9) := bc BK228 9
              have hfz45_0 := blk_frozen BK228.out 0
              have hfz45_1 := blk_frozen BK228.out 1
              have hfz45_2 := blk_frozen BK228.out 2
              have hfz45_3 := blk_frozen BK228.out 3
              have hfz45_4 := blk_frozen BK228.out 4
              have hfz45_5 := blk_frozen BK228.out 5
              have hfz45_6 := blk_frozen BK228.out 6
              have hfz45_7 := blk_frozen BK228.out 7
              have hfz45_8 := blk_frozen BK228.out 8
              have hfz45_9 := blk_frozen BK228.out 9
              go_wp2_with (first | ((with_reducible refine gate_callee (f := 62) rfl ?_); refine goesL_ (some 82) rfl rfl Tryd.func62 (by kernel_rfl) rfl #[.slice A0_8 l0_8.length c0_8] rfl gl_ ?_; (with_reducible refine (impl_RulesOk.calls kj25 _ _ l0_8 false _ ?side1 ?side2 A35.out).mono ?_); (case side1 => exact cN (Kd.C_below HR0_8.out HB.out)); (case side2 => exact HC0_8.out); rintro e w46 ⟨rfl, hb⟩; refine ⟨_, rfl, ?_⟩; have n0_ := m_ (blk_below (kN BK228.out) hb); have n1_ := m_ (below_step (bN HB.out) hb); clear BK228; clear HB; have BK228 := n0_; have HB := n1_; clear n0_ n1_; (try clear hb); (try clear hb2); (try clear hk); (try clear hi)))
              go_ret
              exact ⟨by first | rfl | (simp [errW_none, errW_some] <;> rfl) | (simp [*, errW_none, errW_some] <;> rfl), by repeat (first | (with_reducible first | exact HB.out | apply below_alloc | apply pw_below_drewN | apply below_drew1 | refine below_set ?_ GE228.out) | exact HB.out)⟩
         ·replace c25 := Bool.eq_false_iff.mpr c25
          subst c25
          have H1 : (some (some 5)) = some r := by rw [if_neg (show ¬ (false = true) by decide)] at H; exact H
          clear H
          have H := H1
          clear H1
          obtain rfl := Option.some.inj H
          have hcz47_0 : wc.cell? ⟨gb228, 0, none⟩ = some (.int .i64 a0_0) := bc BK228 0
          have hcz47_1 : wc.cell? ⟨gb228, 1, none⟩ = some (.int .i64 a0_1) := bc BK228 1
          have hcz47_2 : wc.cell? ⟨gb228, 2, none⟩ = some (.slice A0_2 l0_2.length c0_2) := bc BK228 2
          have hcz47_3 : wc.cell? ⟨gb228, 3, none⟩ = some (.slice A0_3 l0_3.length c0_3) := bc BK228 3
          have hcz47_4 : wc.cell? ⟨gb228, 4, none⟩ = some (.slice A0_4 l0_4.length c0_4) := bc BK228 4
          have hcz47_5 : wc.cell? ⟨gb228, 5, none⟩ = some (.slice A0_5 l0_5.length c0_5) := bc BK228 5
          have hcz47_6 : wc.cell? ⟨gb228, 6, none⟩ = some (.slice A0_6 l0_6.length c0_6) := bc BK228 6
          have hcz47_7 : wc.cell? ⟨gb228, 7, none⟩ = some (.slice A0_7 l0_7.length c0_7) := bc BK228 7
          have hcz47_8 : wc.cell? ⟨gb228, 8, none⟩ = some (.slice A0_8 l0_8.length c0_8) := bc BK228 8
          have hcz47_9 : wc.cell? ⟨gb228, 9, none⟩ = some (.int .i64 a0_9) := bc BK228 9
          have hfz47_0 := blk_frozen BK228.out 0
          have hfz47_1 := blk_frozen BK228.out 1
          have hfz47_2 := blk_frozen BK228.out 2
          have hfz47_3 := blk_frozen BK228.out 3
          have hfz47_4 := blk_frozen BK228.out 4
          have hfz47_5 := blk_frozen BK228.out 5
          have hfz47_6 := blk_frozen BK228.out 6
          have hfz47_7 := blk_frozen BK228.out 7
          have hfz47_8 := blk_frozen BK228.out 8
          have hfz47_9 := blk_frozen BK228.out 9
          go_wp2_with (first | ((with_reducible refine gate_callee (f := 61) rfl ?_); refine goesL_ (some 55) rfl rfl Tryd.func61 (by kernel_rfl) rfl #[.slice A0_5 l0_5.length c0_5, .slice A0_6 l0_6.length c0_6, .int .i64 (l0_2.length : Int)] rfl gl_ ?_; (with_reducible refine (impl_turnsOk.calls kj14 _ _ l0_5 _ _ l0_6 (l0_2.length : Int) false _ ?side1 ?side2 ?side3 ?side4 A24.out).mono ?_); (case side1 => exact cN (Kd.C_below HR0_5.out HB.out)); (case side2 => exact HC0_5.out); (case side3 => exact cN (Kd.C_below HR0_6.out HB.out)); (case side4 => exact HC0_6.out); rintro e w' ⟨rfl, ⟨nd, rfl⟩⟩; refine ⟨_, rfl, ?_⟩))
          go_ret
          exact ⟨by first | rfl | (simp [errW_none, errW_some] <;> rfl) | (simp [*, errW_none, errW_some] <;> rfl), by repeat (first | (with_reducible first | exact HB.out | apply below_alloc | apply pw_below_drewN | apply below_drew1 | refine below_set ?_ GE228.out) | exact HB.out)⟩
     ·replace c14 := Bool.eq_false_iff.mpr c14
      subst c14
      have H1 : (some (some 3)) = some r := by rw [if_neg (show ¬ (false = true) by decide)] at H; exact H
      clear H
      have H := H1
      clear H1
      obtain rfl := Option.some.inj H
      have hcz48_0 : wc.cell? ⟨gb228, 0, none⟩ = some (.int .i64 a0_0) := bc BK228 0
      have hcz48_1 : wc.cell? ⟨gb228, 1, none⟩ = some (.int .i64 a0_1) := bc BK228 1
      have hcz48_2 : wc.cell? ⟨gb228, 2, none⟩ = some (.slice A0_2 l0_2.length c0_2) := bc BK228 2
      have hcz48_3 : wc.cell? ⟨gb228, 3, none⟩ = some (.slice A0_3 l0_3.length c0_3) := bc BK228 3
      have hcz48_4 : wc.cell? ⟨gb228, 4, none⟩ = some (.slice A0_4 l0_4.length c0_4) := bc BK228 4
      have hcz48_5 : wc.cell? ⟨gb228, 5, none⟩ = some (.slice A0_5 l0_5.length c0_5) := bc BK228 5
      have hcz48_6 : wc.cell? ⟨gb228, 6, none⟩ = some (.slice A0_6 l0_6.length c0_6) := bc BK228 6
      have hcz48_7 : wc.cell? ⟨gb228, 7, none⟩ = some (.slice A0_7 l0_7.length c0_7) := bc BK228 7
      have hcz48_8 : wc.cell? ⟨gb228, 8, none⟩ = some (.slice A0_8 l0_8.length c0_8) := bc BK228 8
      have hcz48_9 : wc.cell? ⟨gb228, 9, none⟩ = some (.int .i64 a0_9) := bc BK228 9
      have hfz48_0 := blk_frozen BK228.out 0
      have hfz48_1 := blk_frozen BK228.out 1
      have hfz48_2 := blk_frozen BK228.out 2
      have hfz48_3 := blk_frozen BK228.out 3
      have hfz48_4 := blk_frozen BK228.out 4
      have hfz48_5 := blk_frozen BK228.out 5
      have hfz48_6 := blk_frozen BK228.out 6
      have hfz48_7 := blk_frozen BK228.out 7
      have hfz48_8 := blk_frozen BK228.out 8
      have hfz48_9 := blk_frozen BK228.out 9
      go_wp2_with (first | ((with_reducible refine gate_callee (f := 58) rfl ?_); refine goesL_ (some 23) rfl rfl Tryd.func58 (by kernel_rfl) rfl #[.slice A0_2 l0_2.length c0_2] rfl gl_ ?_; (with_reducible refine (impl_progsOk.calls kj1 _ _ l0_2 true _ ?side1 ?side2 A11.out).mono ?_); (case side1 => exact cN (Kd.C_below HR0_2.out HB.out)); (case side2 => exact HC0_2.out); rintro e w49 ⟨rfl, hb⟩; refine ⟨_, rfl, ?_⟩; have n0_ := m_ (blk_below (kN BK228.out) hb); have n1_ := m_ (below_step (bN HB.out) hb); clear BK228; clear HB; have BK228 := n0_; have HB := n1_; clear n0_ n1_; (try clear hb); (try clear hb2); (try clear hk); (try clear hi); have hcz50_0 : w49.cell? ⟨gb228, 0, none⟩ = some (.int .i64 a0_0) := bc BK228 0; have hcz50_1 : w49.cell? ⟨gb228, 1, none⟩ = some (.int .i64 a0_1) := bc BK228 1; have hcz50_2 : w49.cell? ⟨gb228, 2, none⟩ = some (.slice A0_2 l0_2.length c0_2) := bc BK228 2; have hcz50_3 : w49.cell? ⟨gb228, 3, none⟩ = some (.slice A0_3 l0_3.length c0_3) := bc BK228 3; have hcz50_4 : w49.cell? ⟨gb228, 4, none⟩ = some (.slice A0_4 l0_4.length c0_4) := bc BK228 4; have hcz50_5 : w49.cell? ⟨gb228, 5, none⟩ = some (.slice A0_5 l0_5.length c0_5) := bc BK228 5; have hcz50_6 : w49.cell? ⟨gb228, 6, none⟩ = some (.slice A0_6 l0_6.length c0_6) := bc BK228 6; have hcz50_7 : w49.cell? ⟨gb228, 7, none⟩ = some (.slice A0_7 l0_7.length c0_7) := bc BK228 7; have hcz50_8 : w49.cell? ⟨gb228, 8, none⟩ = some (.slice A0_8 l0_8.length c0_8) := bc BK228 8; have hcz50_9 : w49.cell? ⟨gb228, 9, none⟩ = some (.int .i64 a0_9) := bc BK228 9; have hfz50_0 := blk_frozen BK228.out 0; have hfz50_1 := blk_frozen BK228.out 1; have hfz50_2 := blk_frozen BK228.out 2; have hfz50_3 := blk_frozen BK228.out 3; have hfz50_4 := blk_frozen BK228.out 4; have hfz50_5 := blk_frozen BK228.out 5; have hfz50_6 := blk_frozen BK228.out 6; have hfz50_7 := blk_frozen BK228.out 7; have hfz50_8 := blk_frozen BK228.out 8; have hfz50_9 := blk_frozen BK228.out 9) | ((with_reducible refine gate_callee (f := 59) rfl ?_); refine goesL_ (some 31) rfl rfl Tryd.func59 (by kernel_rfl) rfl #[.slice A0_3 l0_3.length c0_3, .int .i64 (l0_2.length : Int)] rfl gl_ ?_; (with_reducible refine (impl_apidsOk.calls kj1 _ _ l0_3 (l0_2.length : Int) false _ ?side1 ?side2 A13.out).mono ?_); (case side1 => exact cN (Kd.C_below HR0_3.out HB.out)); (case side2 => exact HC0_3.out); rintro e w' ⟨rfl, ⟨nd, rfl⟩⟩; refine ⟨_, rfl, ?_⟩))
      go_ret
      exact ⟨by first | rfl | (simp [errW_none, errW_some] <;> rfl) | (simp [*, errW_none, errW_some] <;> rfl), by repeat (first | (with_reducible first | exact HB.out | apply below_alloc | apply pw_below_drewN | apply below_drew1 | refine below_set ?_ GE228.out) | exact HB.out)⟩
    ·replace c12 := Bool.eq_false_iff.mpr c12
     subst c12
     have H1 : (some (some 2)) = some r := by rw [if_neg (show ¬ (false = true) by decide)] at H; exact H
     clear H
     have H := H1
     clear H1
     obtain rfl := Option.some.inj H
     have hcz51_0 : wc.cell? ⟨gb228, 0, none⟩ = some (.int .i64 a0_0) := bc BK228 0
     have hcz51_1 : wc.cell? ⟨gb228, 1, none⟩ = some (.int .i64 a0_1) := bc BK228 1
     have hcz51_2 : wc.cell? ⟨gb228, 2, none⟩ = some (.slice A0_2 l0_2.length c0_2) := bc BK228 2
     have hcz51_3 : wc.cell? ⟨gb228, 3, none⟩ = some (.slice A0_3 l0_3.length c0_3) := bc BK228 3
     have hcz51_4 : wc.cell? ⟨gb228, 4, none⟩ = some (.slice A0_4 l0_4.length c0_4) := bc BK228 4
     have hcz51_5 : wc.cell? ⟨gb228, 5, none⟩ = some (.slice A0_5 l0_5.length c0_5) := bc BK228 5
     have hcz51_6 : wc.cell? ⟨gb228, 6, none⟩ = some (.slice A0_6 l0_6.length c0_6) := bc BK228 6
     have hcz51_7 : wc.cell? ⟨gb228, 7, none⟩ = some (.slice A0_7 l0_7.length c0_7) := bc BK228 7
     have hcz51_8 : wc.cell? ⟨gb228, 8, none⟩ = some (.slice A0_8 l0_8.length c0_8) := bc BK228 8
     have hcz51_9 : wc.cell? ⟨gb228, 9, none⟩ = some (.int .i64 a0_9) := bc BK228 9
     have hfz51_0 := blk_frozen BK228.out 0
     have hfz51_1 := blk_frozen BK228.out 1
     have hfz51_2 := blk_frozen BK228.out 2
     have hfz51_3 := blk_frozen BK228.out 3
     have hfz51_4 := blk_frozen BK228.out 4
     have hfz51_5 := blk_frozen BK228.out 5
     have hfz51_6 := blk_frozen BK228.out 6
     have hfz51_7 := blk_frozen BK228.out 7
     have hfz51_8 := blk_frozen BK228.out 8
     have hfz51_9 := blk_frozen BK228.out 9
     go_wp2_with (first | ((with_reducible refine gate_callee (f := 58) rfl ?_); refine goesL_ (some 23) rfl rfl Tryd.func58 (by kernel_rfl) rfl #[.slice A0_2 l0_2.length c0_2] rfl gl_ ?_; (with_reducible refine (impl_progsOk.calls kj1 _ _ l0_2 false _ ?side1 ?side2 A11.out).mono ?_); (case side1 => exact cN (Kd.C_below HR0_2.out HB.out)); (case side2 => exact HC0_2.out); rintro e w52 ⟨rfl, hb⟩; refine ⟨_, rfl, ?_⟩; have n0_ := m_ (blk_below (kN BK228.out) hb); have n1_ := m_ (below_step (bN HB.out) hb); clear BK228; clear HB; have BK228 := n0_; have HB := n1_; clear n0_ n1_; (try clear hb); (try clear hb2); (try clear hk); (try clear hi)))
     go_ret
     exact ⟨by first | rfl | (simp [errW_none, errW_some] <;> rfl) | (simp [*, errW_none, errW_some] <;> rfl), by repeat (first | (with_reducible first | exact HB.out | apply below_alloc | apply pw_below_drewN | apply below_drew1 | refine below_set ?_ GE228.out) | exact HB.out)⟩

end Go.Proofs.YtcenmlpfbpogoaaDoor.P
