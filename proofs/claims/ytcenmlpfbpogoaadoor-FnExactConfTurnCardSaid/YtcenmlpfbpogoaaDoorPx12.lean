/- The machine side of these statements, function by function: what each Go function answers (as a Lean function), and that it does. Written by a program (mp.py) for this claim. -/
import Derived.Test.YtcenmlpfbpogoaaDoorPx0
import Derived.Test.YtcenmlpfbpogoaaDoorPx8
import Derived.Test.YtcenmlpfbpogoaaDoorPx10
import Derived.Test.YtcenmlpfbpogoaaDoorPx11
namespace Go.Proofs.YtcenmlpfbpogoaaDoor.P
open Go.RowKit Go.Proofs.YtcenmlpfbpogoaaDoorW.PrintWords Go.Proofs.YtcenmlpfbpogoaaDoorW.PrintLast Go.Proofs.YtcenmlpfbpogoaaDoorW.PrintMore
attribute [local go_sem] max2_int min2_int max_two min_two max_three min_three max_four min_four   -- for this text's walks alone
set_option linter.unusedVariables false
set_option linter.unusedSimpArgs false

/-! ### spec_ConfCheck: function 16 -/
mutual
def spec_ConfCheck.j0 : Nat → Int → Bool → Int → Int → List (List (S107)) → List Int → List Int → List Int → List Int → List Int → List (S78) → Int → Option (Int)
 | 0, _, _, _, _, _, _, _, _, _, _, _, _ => none
 | k + 1, x3, x7, x272000, x272001, x272002, x272003, x272004, x272005, x272006, x272007, x272008, x272009 => if x7 = true then (some 1) else ((spec_l11Progs.f k x272002).bind fun t274 => (if t274 = true then (if (x272003.length : Int) = x3 then ((spec_l11Apids.f k x272003).bind fun t275 => (spec_ConfCheck.j1 k x3 (!t275) x272000 x272001 x272002 x272003 x272004 x272005 x272006 x272007 x272008 x272009)) else (spec_ConfCheck.j1 k x3 true x272000 x272001 x272002 x272003 x272004 x272005 x272006 x272007 x272008 x272009)) else (some 2)))
def spec_ConfCheck.j1 : Nat → Int → Bool → Int → Int → List (List (S107)) → List Int → List Int → List Int → List Int → List Int → List (S78) → Int → Option (Int)
 | 0, _, _, _, _, _, _, _, _, _, _, _, _ => none
 | k + 1, x3, x23, x272000, x272001, x272002, x272003, x272004, x272005, x272006, x272007, x272008, x272009 => if x23 = true then (some 3) else (if (x272004.length : Int) = x3 then ((spec_l11Budgets.f k x272004).bind fun t276 => (spec_ConfCheck.j2 k x3 (!t276) x272000 x272001 x272002 x272003 x272004 x272005 x272006 x272007 x272008 x272009)) else (spec_ConfCheck.j2 k x3 true x272000 x272001 x272002 x272003 x272004 x272005 x272006 x272007 x272008 x272009))
def spec_ConfCheck.j2 : Nat → Int → Bool → Int → Int → List (List (S107)) → List Int → List Int → List Int → List Int → List Int → List (S78) → Int → Option (Int)
 | 0, _, _, _, _, _, _, _, _, _, _, _, _ => none
 | k + 1, x3, x35, x272000, x272001, x272002, x272003, x272004, x272005, x272006, x272007, x272008, x272009 => if x35 = true then (some 4) else ((spec_l11Turns.f k x272005 (-1) (wrap64 (x3 - 1))).bind fun t277 => (if t277 = true then ((spec_l11Turns.f k x272006 (-1) (wrap64 (x3 - 1))).bind fun t278 => (if t278 = true then (spec_ConfCheck.j3 k x3 ((x272005.length : Int) != (x272006.length : Int)) x272000 x272001 x272002 x272003 x272004 x272005 x272006 x272007 x272008 x272009) else (spec_ConfCheck.j3 k x3 true x272000 x272001 x272002 x272003 x272004 x272005 x272006 x272007 x272008 x272009))) else (spec_ConfCheck.j3 k x3 true x272000 x272001 x272002 x272003 x272004 x272005 x272006 x272007 x272008 x272009)))
def spec_ConfCheck.j3 : Nat → Int → Bool → Int → Int → List (List (S107)) → List Int → List Int → List Int → List Int → List Int → List (S78) → Int → Option (Int)
 | 0, _, _, _, _, _, _, _, _, _, _, _, _ => none
 | k + 1, x3, x47, x272000, x272001, x272002, x272003, x272004, x272005, x272006, x272007, x272008, x272009 => if x47 = true then (some 5) else ((spec_l11Turns.f k x272007 0 x3).bind fun t279 => (if t279 = true then ((spec_RulesOk.f k x272008).bind fun t280 => (if t280 = true then ((spec_l1In.f x272009 0 9999).bind fun t281 => (if t281 = true then (some 0) else (some 8))) else (some 7))) else (some 6)))
end
def spec_ConfCheck.f (k : Nat) (a0_0 : Int) (a0_1 : Int) (l0_2 : List (List (S107))) (l0_3 : List Int) (l0_4 : List Int) (l0_5 : List Int) (l0_6 : List Int) (l0_7 : List Int) (l0_8 : List (S78)) (a0_9 : Int) : Option (Int) := (spec_l1In.f a0_0 0 1023).bind fun t272 => (if t272 = true then ((spec_l1In.f a0_1 0 63).bind fun t273 => (spec_ConfCheck.j0 k (l0_2.length : Int) (!t273) a0_0 a0_1 l0_2 l0_3 l0_4 l0_5 l0_6 l0_7 l0_8 a0_9)) else (spec_ConfCheck.j0 k (l0_2.length : Int) true a0_0 a0_1 l0_2 l0_3 l0_4 l0_5 l0_6 l0_7 l0_8 a0_9))
theorem spec_ConfCheck.mono_l : ∀ k, (∀ y0 y1 y2 y3 y4 y5 y6 y7 y8 y9 y10 y11, LeO (spec_ConfCheck.j0 k y0 y1 y2 y3 y4 y5 y6 y7 y8 y9 y10 y11) (spec_ConfCheck.j0 (k + 1) y0 y1 y2 y3 y4 y5 y6 y7 y8 y9 y10 y11)) ∧ (∀ y0 y1 y2 y3 y4 y5 y6 y7 y8 y9 y10 y11, LeO (spec_ConfCheck.j1 k y0 y1 y2 y3 y4 y5 y6 y7 y8 y9 y10 y11) (spec_ConfCheck.j1 (k + 1) y0 y1 y2 y3 y4 y5 y6 y7 y8 y9 y10 y11)) ∧ (∀ y0 y1 y2 y3 y4 y5 y6 y7 y8 y9 y10 y11, LeO (spec_ConfCheck.j2 k y0 y1 y2 y3 y4 y5 y6 y7 y8 y9 y10 y11) (spec_ConfCheck.j2 (k + 1) y0 y1 y2 y3 y4 y5 y6 y7 y8 y9 y10 y11)) ∧ (∀ y0 y1 y2 y3 y4 y5 y6 y7 y8 y9 y10 y11, LeO (spec_ConfCheck.j3 k y0 y1 y2 y3 y4 y5 y6 y7 y8 y9 y10 y11) (spec_ConfCheck.j3 (k + 1) y0 y1 y2 y3 y4 y5 y6 y7 y8 y9 y10 y11))
 | 0 => ⟨fun _ _ _ _ _ _ _ _ _ _ _ _ r h => by simp [spec_ConfCheck.j0] at h, fun _ _ _ _ _ _ _ _ _ _ _ _ r h => by simp [spec_ConfCheck.j1] at h, fun _ _ _ _ _ _ _ _ _ _ _ _ r h => by simp [spec_ConfCheck.j2] at h, fun _ _ _ _ _ _ _ _ _ _ _ _ r h => by simp [spec_ConfCheck.j3] at h⟩
 | k + 1 => by
  obtain ⟨ih0, ih1, ih2, ih3⟩ := spec_ConfCheck.mono_l k
  refine ⟨?_, ?_, ?_, ?_⟩
  ·intro y0 y1 y2 y3 y4 y5 y6 y7 y8 y9 y10 y11
   unfold spec_ConfCheck.j0
   repeat' first
   | (with_reducible exact ih0 _ _ _ _ _ _ _ _ _ _ _ _)
   | (with_reducible exact ih1 _ _ _ _ _ _ _ _ _ _ _ _)
   | (with_reducible exact ih2 _ _ _ _ _ _ _ _ _ _ _ _)
   | (with_reducible exact ih3 _ _ _ _ _ _ _ _ _ _ _ _)
   | (with_reducible exact spec_RulesOk.mono _ _)
   | (with_reducible exact spec_l11Apids.mono _ _)
   | (with_reducible exact spec_l11Budgets.mono _ _)
   | (with_reducible exact spec_l11Progs.mono _ _)
   | (with_reducible exact spec_l11Turns.mono _ _ _ _)
   | (with_reducible exact LeO.refl _)
   | (with_reducible exact LeO.none _)
   | (with_reducible refine LeO.ite ?_ ?_)
   | (with_reducible refine LeO.bind ?_ (fun _ => ?_))
   | exact ih0 _ _ _ _ _ _ _ _ _ _ _ _
   | exact ih1 _ _ _ _ _ _ _ _ _ _ _ _
   | exact ih2 _ _ _ _ _ _ _ _ _ _ _ _
   | exact ih3 _ _ _ _ _ _ _ _ _ _ _ _
   | exact spec_RulesOk.mono _ _
   | exact spec_l11Apids.mono _ _
   | exact spec_l11Budgets.mono _ _
   | exact spec_l11Progs.mono _ _
   | exact spec_l11Turns.mono _ _ _ _
   | exact LeO.none _
   | refine LeO.ite ?_ ?_
   | refine LeO.bind ?_ (fun _ => ?_)
  ·intro y0 y1 y2 y3 y4 y5 y6 y7 y8 y9 y10 y11
   unfold spec_ConfCheck.j1
   repeat' first
   | (with_reducible exact ih0 _ _ _ _ _ _ _ _ _ _ _ _)
   | (with_reducible exact ih1 _ _ _ _ _ _ _ _ _ _ _ _)
   | (with_reducible exact ih2 _ _ _ _ _ _ _ _ _ _ _ _)
   | (with_reducible exact ih3 _ _ _ _ _ _ _ _ _ _ _ _)
   | (with_reducible exact spec_RulesOk.mono _ _)
   | (with_reducible exact spec_l11Apids.mono _ _)
   | (with_reducible exact spec_l11Budgets.mono _ _)
   | (with_reducible exact spec_l11Progs.mono _ _)
   | (with_reducible exact spec_l11Turns.mono _ _ _ _)
   | (with_reducible exact LeO.refl _)
   | (with_reducible exact LeO.none _)
   | (with_reducible refine LeO.ite ?_ ?_)
   | (with_reducible refine LeO.bind ?_ (fun _ => ?_))
   | exact ih0 _ _ _ _ _ _ _ _ _ _ _ _
   | exact ih1 _ _ _ _ _ _ _ _ _ _ _ _
   | exact ih2 _ _ _ _ _ _ _ _ _ _ _ _
   | exact ih3 _ _ _ _ _ _ _ _ _ _ _ _
   | exact spec_RulesOk.mono _ _
   | exact spec_l11Apids.mono _ _
   | exact spec_l11Budgets.mono _ _
   | exact spec_l11Progs.mono _ _
   | exact spec_l11Turns.mono _ _ _ _
   | exact LeO.none _
   | refine LeO.ite ?_ ?_
   | refine LeO.bind ?_ (fun _ => ?_)
  ·intro y0 y1 y2 y3 y4 y5 y6 y7 y8 y9 y10 y11
   unfold spec_ConfCheck.j2
   repeat' first
   | (with_reducible exact ih0 _ _ _ _ _ _ _ _ _ _ _ _)
   | (with_reducible exact ih1 _ _ _ _ _ _ _ _ _ _ _ _)
   | (with_reducible exact ih2 _ _ _ _ _ _ _ _ _ _ _ _)
   | (with_reducible exact ih3 _ _ _ _ _ _ _ _ _ _ _ _)
   | (with_reducible exact spec_RulesOk.mono _ _)
   | (with_reducible exact spec_l11Apids.mono _ _)
   | (with_reducible exact spec_l11Budgets.mono _ _)
   | (with_reducible exact spec_l11Progs.mono _ _)
   | (with_reducible exact spec_l11Turns.mono _ _ _ _)
   | (with_reducible exact LeO.refl _)
   | (with_reducible exact LeO.none _)
   | (with_reducible refine LeO.ite ?_ ?_)
   | (with_reducible refine LeO.bind ?_ (fun _ => ?_))
   | exact ih0 _ _ _ _ _ _ _ _ _ _ _ _
   | exact ih1 _ _ _ _ _ _ _ _ _ _ _ _
   | exact ih2 _ _ _ _ _ _ _ _ _ _ _ _
   | exact ih3 _ _ _ _ _ _ _ _ _ _ _ _
   | exact spec_RulesOk.mono _ _
   | exact spec_l11Apids.mono _ _
   | exact spec_l11Budgets.mono _ _
   | exact spec_l11Progs.mono _ _
   | exact spec_l11Turns.mono _ _ _ _
   | exact LeO.none _
   | refine LeO.ite ?_ ?_
   | refine LeO.bind ?_ (fun _ => ?_)
  ·intro y0 y1 y2 y3 y4 y5 y6 y7 y8 y9 y10 y11
   unfold spec_ConfCheck.j3
   repeat' first
   | (with_reducible exact ih0 _ _ _ _ _ _ _ _ _ _ _ _)
   | (with_reducible exact ih1 _ _ _ _ _ _ _ _ _ _ _ _)
   | (with_reducible exact ih2 _ _ _ _ _ _ _ _ _ _ _ _)
   | (with_reducible exact ih3 _ _ _ _ _ _ _ _ _ _ _ _)
   | (with_reducible exact spec_RulesOk.mono _ _)
   | (with_reducible exact spec_l11Apids.mono _ _)
   | (with_reducible exact spec_l11Budgets.mono _ _)
   | (with_reducible exact spec_l11Progs.mono _ _)
   | (with_reducible exact spec_l11Turns.mono _ _ _ _)
   | (with_reducible exact LeO.refl _)
   | (with_reducible exact LeO.none _)
   | (with_reducible refine LeO.ite ?_ ?_)
   | (with_reducible refine LeO.bind ?_ (fun _ => ?_))
   | exact ih0 _ _ _ _ _ _ _ _ _ _ _ _
   | exact ih1 _ _ _ _ _ _ _ _ _ _ _ _
   | exact ih2 _ _ _ _ _ _ _ _ _ _ _ _
   | exact ih3 _ _ _ _ _ _ _ _ _ _ _ _
   | exact spec_RulesOk.mono _ _
   | exact spec_l11Apids.mono _ _
   | exact spec_l11Budgets.mono _ _
   | exact spec_l11Progs.mono _ _
   | exact spec_l11Turns.mono _ _ _ _
   | exact LeO.none _
   | refine LeO.ite ?_ ?_
   | refine LeO.bind ?_ (fun _ => ?_)
theorem spec_ConfCheck.mono : ∀ a0 a1 a2 a3 a4 a5 a6 a7 a8 a9 k, LeO (spec_ConfCheck.f k a0 a1 a2 a3 a4 a5 a6 a7 a8 a9) (spec_ConfCheck.f (k + 1) a0 a1 a2 a3 a4 a5 a6 a7 a8 a9) := by
 intro a0 a1 a2 a3 a4 a5 a6 a7 a8 a9 k
 obtain ⟨ih0, ih1, ih2, ih3⟩ := spec_ConfCheck.mono_l k
 unfold spec_ConfCheck.f
 repeat' first
   | (with_reducible exact ih0 _ _ _ _ _ _ _ _ _ _ _ _)
   | (with_reducible exact ih1 _ _ _ _ _ _ _ _ _ _ _ _)
   | (with_reducible exact ih2 _ _ _ _ _ _ _ _ _ _ _ _)
   | (with_reducible exact ih3 _ _ _ _ _ _ _ _ _ _ _ _)
   | (with_reducible exact spec_RulesOk.mono _ _)
   | (with_reducible exact spec_l11Apids.mono _ _)
   | (with_reducible exact spec_l11Budgets.mono _ _)
   | (with_reducible exact spec_l11Progs.mono _ _)
   | (with_reducible exact spec_l11Turns.mono _ _ _ _)
   | (with_reducible exact LeO.refl _)
   | (with_reducible exact LeO.none _)
   | (with_reducible refine LeO.ite ?_ ?_)
   | (with_reducible refine LeO.bind ?_ (fun _ => ?_))
   | exact ih0 _ _ _ _ _ _ _ _ _ _ _ _
   | exact ih1 _ _ _ _ _ _ _ _ _ _ _ _
   | exact ih2 _ _ _ _ _ _ _ _ _ _ _ _
   | exact ih3 _ _ _ _ _ _ _ _ _ _ _ _
   | exact spec_RulesOk.mono _ _
   | exact spec_l11Apids.mono _ _
   | exact spec_l11Budgets.mono _ _
   | exact spec_l11Progs.mono _ _
   | exact spec_l11Turns.mono _ _ _ _
   | exact LeO.none _
   | refine LeO.ite ?_ ?_
   | refine LeO.bind ?_ (fun _ => ?_)
set_option maxHeartbeats 8000000 in
set_option maxRecDepth 100000 in
theorem spec_ConfCheck.calls (k : Nat) (a0_0 : Int) (a0_1 : Int) (A0_2 : Option Addr) (c0_2 : Nat) (l0_2 : List (List (S107))) (A0_3 : Option Addr) (c0_3 : Nat) (l0_3 : List Int) (A0_4 : Option Addr) (c0_4 : Nat) (l0_4 : List Int) (A0_5 : Option Addr) (c0_5 : Nat) (l0_5 : List Int) (A0_6 : Option Addr) (c0_6 : Nat) (l0_6 : List Int) (A0_7 : Option Addr) (c0_7 : Nat) (l0_7 : List Int) (A0_8 : Option Addr) (c0_8 : Nat) (l0_8 : List (S78)) (a0_9 : Int) (r : Int) (w : World) (hr0_2 : Kd.C (Kd.slice 107 k107) w A0_2 l0_2.length l0_2) (hc0_2 : l0_2.length ≤ c0_2) (hr0_3 : Kd.C (Kd.int .i64) w A0_3 l0_3.length l0_3) (hc0_3 : l0_3.length ≤ c0_3) (hr0_4 : Kd.C (Kd.int .i64) w A0_4 l0_4.length l0_4) (hc0_4 : l0_4.length ≤ c0_4) (hr0_5 : Kd.C (Kd.int .i64) w A0_5 l0_5.length l0_5) (hc0_5 : l0_5.length ≤ c0_5) (hr0_6 : Kd.C (Kd.int .i64) w A0_6 l0_6.length l0_6) (hc0_6 : l0_6.length ≤ c0_6) (hr0_7 : Kd.C (Kd.int .i64) w A0_7 l0_7.length l0_7) (hc0_7 : l0_7.length ≤ c0_7) (hr0_8 : Kd.C k78 w A0_8 l0_8.length l0_8) (hc0_8 : l0_8.length ≤ c0_8) (h : spec_ConfCheck.f k a0_0 a0_1 l0_2 l0_3 l0_4 l0_5 l0_6 l0_7 l0_8 a0_9 = some r) :
  Calls Tryd.prog 16 #[.agg #[.int .i64 a0_0, .int .i64 a0_1, .slice A0_2 l0_2.length c0_2, .slice A0_3 l0_3.length c0_3, .slice A0_4 l0_4.length c0_4, .slice A0_5 l0_5.length c0_5, .slice A0_6 l0_6.length c0_6, .slice A0_7 l0_7.length c0_7, .slice A0_8 l0_8.length c0_8, .int .i64 a0_9]] w fun e w' => e = .returned (.int .i64 r) ∧ Below w.heap.size w w' := by
 have hu32 := Tryd.underlying32
 have HR0_2 := Aside0.mk hr0_2
 have HC0_2 := Aside0.mk hc0_2
 clear hr0_2 hc0_2
 have HR0_3 := Aside0.mk hr0_3
 have HC0_3 := Aside0.mk hc0_3
 clear hr0_3 hc0_3
 have HR0_4 := Aside0.mk hr0_4
 have HC0_4 := Aside0.mk hc0_4
 clear hr0_4 hc0_4
 have HR0_5 := Aside0.mk hr0_5
 have HC0_5 := Aside0.mk hc0_5
 clear hr0_5 hc0_5
 have HR0_6 := Aside0.mk hr0_6
 have HC0_6 := Aside0.mk hc0_6
 clear hr0_6 hc0_6
 have HR0_7 := Aside0.mk hr0_7
 have HC0_7 := Aside0.mk hc0_7
 clear hr0_7 hc0_7
 have HR0_8 := Aside0.mk hr0_8
 have HC0_8 := Aside0.mk hc0_8
 clear hr0_8 hc0_8
 have HB := m_ (Below.refl w.heap.size w)
 have H : ((spec_l1In.f a0_0 0 1023).bind fun t272 => (if t272 = true then ((spec_l1In.f a0_1 0 63).bind fun t273 => (spec_ConfCheck.j0 k (l0_2.length : Int) (!t273) a0_0 a0_1 l0_2 l0_3 l0_4 l0_5 l0_6 l0_7 l0_8 a0_9)) else (spec_ConfCheck.j0 k (l0_2.length : Int) true a0_0 a0_1 l0_2 l0_3 l0_4 l0_5 l0_6 l0_7 l0_8 a0_9))) = some r := h
 clear h
 have HC2 := Aside0.mk H
 clear H
 go_enter Tryd.func16, Tryd.ntmps16
 go_upto_region 2 with (first | ((with_reducible refine gate_dst (N := 1) rfl ?_); (try (refine gate_guard (by rfl) ?_; dsimp only)); refine box_event ?hg (N := 1) ?hd (cs := #[.int .i64 a0_0, .int .i64 a0_1, .slice A0_2 l0_2.length c0_2, .slice A0_3 l0_3.length c0_3, .slice A0_4 l0_4.length c0_4, .slice A0_5 l0_5.length c0_5, .slice A0_6 l0_6.length c0_6, .slice A0_7 l0_7.length c0_7, .slice A0_8 l0_8.length c0_8, .int .i64 a0_9]) (t := 32) ?hr ?_; (case hd => rfl); (case hg => rfl); (case hr => first | (go_simp; done) | (go_simp; rfl)); intro gb271 hg w3 hbox hb; have n0_ := m_ (below_step (bN HB.out) hb); have n1_ := m_ (hbox); have n2_ := m_ ((by rw [hg]; exact (below_size (bN HB.out)) : w.heap.size ≤ gb271)); have n3_ := m_ ((by rw [hg]; exact (below_size (bN HB.out)) : w.heap.size ≤ gb271)); clear HB; have HB := n0_; have BK271 := n1_; have GW271 := n2_; have GE271 := n3_; clear n0_ n1_ n2_ n3_; clear hb hbox hg; have hcz4_0 : w3.cell? ⟨gb271, 0, none⟩ = some (.int .i64 a0_0) := bc BK271 0; have hcz4_1 : w3.cell? ⟨gb271, 1, none⟩ = some (.int .i64 a0_1) := bc BK271 1; have hcz4_2 : w3.cell? ⟨gb271, 2, none⟩ = some (.slice A0_2 l0_2.length c0_2) := bc BK271 2; have hcz4_3 : w3.cell? ⟨gb271, 3, none⟩ = some (.slice A0_3 l0_3.length c0_3) := bc BK271 3; have hcz4_4 : w3.cell? ⟨gb271, 4, none⟩ = some (.slice A0_4 l0_4.length c0_4) := bc BK271 4; have hcz4_5 : w3.cell? ⟨gb271, 5, none⟩ = some (.slice A0_5 l0_5.length c0_5) := bc BK271 5; have hcz4_6 : w3.cell? ⟨gb271, 6, none⟩ = some (.slice A0_6 l0_6.length c0_6) := bc BK271 6; have hcz4_7 : w3.cell? ⟨gb271, 7, none⟩ = some (.slice A0_7 l0_7.length c0_7) := bc BK271 7; have hcz4_8 : w3.cell? ⟨gb271, 8, none⟩ = some (.slice A0_8 l0_8.length c0_8) := bc BK271 8; have hcz4_9 : w3.cell? ⟨gb271, 9, none⟩ = some (.int .i64 a0_9) := bc BK271 9; have hfz4_0 := blk_frozen BK271.out 0; have hfz4_1 := blk_frozen BK271.out 1; have hfz4_2 := blk_frozen BK271.out 2; have hfz4_3 := blk_frozen BK271.out 3; have hfz4_4 := blk_frozen BK271.out 4; have hfz4_5 := blk_frozen BK271.out 5; have hfz4_6 := blk_frozen BK271.out 6; have hfz4_7 := blk_frozen BK271.out 7; have hfz4_8 := blk_frozen BK271.out 8; have hfz4_9 := blk_frozen BK271.out 9))
 (try simp only [Act.put, List.setIfInBounds_toArray, List.set_cons_zero, List.set_cons_succ])
 go_cut [7] (fun v7 wc => ∃ (kq : Nat) (x7_1 : Bool), v7 = .bool x7_1 ∧ Aside0 (spec_ConfCheck.j0 kq (l0_2.length : Int) x7_1 a0_0 a0_1 l0_2 l0_3 l0_4 l0_5 l0_6 l0_7 l0_8 a0_9 = some r) ∧ Aside0 (kq ≤ k) ∧ Aside0 (wc.heap[gb271]? = some (.cells #[.int .i64 a0_0, .int .i64 a0_1, (.slice A0_2 l0_2.length c0_2), (.slice A0_3 l0_3.length c0_3), (.slice A0_4 l0_4.length c0_4), (.slice A0_5 l0_5.length c0_5), (.slice A0_6 l0_6.length c0_6), (.slice A0_7 l0_7.length c0_7), (.slice A0_8 l0_8.length c0_8), .int .i64 a0_9] 32 (0, 0))) ∧ Aside0 (Below w.heap.size w wc))
 case first =>
  have H := HC2.out
  clear HC2
  replace H := Option.bind_eq_some_iff.mp H
  obtain ⟨t272, A50, H⟩ := H
  replace H : (if t272 = true then ((spec_l1In.f a0_1 0 63).bind fun t273 => (spec_ConfCheck.j0 k (l0_2.length : Int) (!t273) a0_0 a0_1 l0_2 l0_3 l0_4 l0_5 l0_6 l0_7 l0_8 a0_9)) else (spec_ConfCheck.j0 k (l0_2.length : Int) true a0_0 a0_1 l0_2 l0_3 l0_4 l0_5 l0_6 l0_7 l0_8 a0_9)) = some r := H
  have A5 := Aside0.mk A50
  clear A50
  by_cases c6 : t272 = true
  ·subst c6
   have H1 : ((spec_l1In.f a0_1 0 63).bind fun t273 => (spec_ConfCheck.j0 k (l0_2.length : Int) (!t273) a0_0 a0_1 l0_2 l0_3 l0_4 l0_5 l0_6 l0_7 l0_8 a0_9)) = some r := by rw [if_pos rfl] at H; exact H
   clear H
   have H := H1
   clear H1
   replace H := Option.bind_eq_some_iff.mp H
   obtain ⟨t273, A70, H⟩ := H
   replace H : (spec_ConfCheck.j0 k (l0_2.length : Int) (!t273) a0_0 a0_1 l0_2 l0_3 l0_4 l0_5 l0_6 l0_7 l0_8 a0_9) = some r := H
   have A7 := Aside0.mk A70
   clear A70
   have H' := Aside0.mk H
   clear H
   have hcz8_0 : w3.cell? ⟨gb271, 0, none⟩ = some (.int .i64 a0_0) := bc BK271 0
   have hcz8_1 : w3.cell? ⟨gb271, 1, none⟩ = some (.int .i64 a0_1) := bc BK271 1
   have hcz8_2 : w3.cell? ⟨gb271, 2, none⟩ = some (.slice A0_2 l0_2.length c0_2) := bc BK271 2
   have hcz8_3 : w3.cell? ⟨gb271, 3, none⟩ = some (.slice A0_3 l0_3.length c0_3) := bc BK271 3
   have hcz8_4 : w3.cell? ⟨gb271, 4, none⟩ = some (.slice A0_4 l0_4.length c0_4) := bc BK271 4
   have hcz8_5 : w3.cell? ⟨gb271, 5, none⟩ = some (.slice A0_5 l0_5.length c0_5) := bc BK271 5
   have hcz8_6 : w3.cell? ⟨gb271, 6, none⟩ = some (.slice A0_6 l0_6.length c0_6) := bc BK271 6
   have hcz8_7 : w3.cell? ⟨gb271, 7, none⟩ = some (.slice A0_7 l0_7.length c0_7) := bc BK271 7
   have hcz8_8 : w3.cell? ⟨gb271, 8, none⟩ = some (.slice A0_8 l0_8.length c0_8) := bc BK271 8
   have hcz8_9 : w3.cell? ⟨gb271, 9, none⟩ = some (.int .i64 a0_9) := bc BK271 9
   have hfz8_0 := blk_frozen BK271.out 0
   have hfz8_1 := blk_frozen BK271.out 1
   have hfz8_2 := blk_frozen BK271.out 2
   have hfz8_3 := blk_frozen BK271.out 3
   have hfz8_4 := blk_frozen BK271.out 4
   have hfz8_5 := blk_frozen BK271.out 5
   have hfz8_6 := blk_frozen BK271.out 6
   have hfz8_7 := blk_frozen BK271.out 7
   have hfz8_8 := blk_frozen BK271.out 8
   have hfz8_9 := blk_frozen BK271.out 9
   go_wp2_with (first | ((with_reducible refine gate_callee (f := 25) rfl ?_); refine goesL_ (some 10) rfl rfl Tryd.func25 (by kernel_rfl) rfl #[.int .i64 a0_0, .int .i64 0, .int .i64 1023] rfl gl_ ?_; (with_reducible refine (spec_l1In.calls a0_0 0 1023 true _ A5.out).mono ?_); rintro e w' ⟨rfl, ⟨nd, rfl⟩⟩; refine ⟨_, rfl, ?_⟩) | (go_at_call 25; (with_reducible refine (spec_l1In.calls a0_1 0 63 t273 _ A7.out).mono ?_); rintro e w' ⟨rfl, ⟨nd, rfl⟩⟩))
   go_meet
   case rel => exact ⟨_, (!t273), (by first | rfl | (simp; done) | (simp [*]; done)), H', ⟨by first | omega | exact Nat.le_refl _⟩, ⟨kN BK271.out⟩, ⟨by repeat (first | (with_reducible first | exact HB.out | apply below_alloc | apply pw_below_drewN | apply below_drew1 | refine below_set ?_ GE271.out) | exact HB.out)⟩⟩
  ·replace c6 := Bool.eq_false_iff.mpr c6
   subst c6
   have H1 : (spec_ConfCheck.j0 k (l0_2.length : Int) true a0_0 a0_1 l0_2 l0_3 l0_4 l0_5 l0_6 l0_7 l0_8 a0_9) = some r := by rw [if_neg (show ¬ (false = true) by decide)] at H; exact H
   clear H
   have H := H1
   clear H1
   have H' := Aside0.mk H
   clear H
   have hcz9_0 : w3.cell? ⟨gb271, 0, none⟩ = some (.int .i64 a0_0) := bc BK271 0
   have hcz9_1 : w3.cell? ⟨gb271, 1, none⟩ = some (.int .i64 a0_1) := bc BK271 1
   have hcz9_2 : w3.cell? ⟨gb271, 2, none⟩ = some (.slice A0_2 l0_2.length c0_2) := bc BK271 2
   have hcz9_3 : w3.cell? ⟨gb271, 3, none⟩ = some (.slice A0_3 l0_3.length c0_3) := bc BK271 3
   have hcz9_4 : w3.cell? ⟨gb271, 4, none⟩ = some (.slice A0_4 l0_4.length c0_4) := bc BK271 4
   have hcz9_5 : w3.cell? ⟨gb271, 5, none⟩ = some (.slice A0_5 l0_5.length c0_5) := bc BK271 5
   have hcz9_6 : w3.cell? ⟨gb271, 6, none⟩ = some (.slice A0_6 l0_6.length c0_6) := bc BK271 6
   have hcz9_7 : w3.cell? ⟨gb271, 7, none⟩ = some (.slice A0_7 l0_7.length c0_7) := bc BK271 7
   have hcz9_8 : w3.cell? ⟨gb271, 8, none⟩ = some (.slice A0_8 l0_8.length c0_8) := bc BK271 8
   have hcz9_9 : w3.cell? ⟨gb271, 9, none⟩ = some (.int .i64 a0_9) := bc BK271 9
   have hfz9_0 := blk_frozen BK271.out 0
   have hfz9_1 := blk_frozen BK271.out 1
   have hfz9_2 := blk_frozen BK271.out 2
   have hfz9_3 := blk_frozen BK271.out 3
   have hfz9_4 := blk_frozen BK271.out 4
   have hfz9_5 := blk_frozen BK271.out 5
   have hfz9_6 := blk_frozen BK271.out 6
   have hfz9_7 := blk_frozen BK271.out 7
   have hfz9_8 := blk_frozen BK271.out 8
   have hfz9_9 := blk_frozen BK271.out 9
   go_wp2_with (first | ((with_reducible refine gate_callee (f := 25) rfl ?_); refine goesL_ (some 10) rfl rfl Tryd.func25 (by kernel_rfl) rfl #[.int .i64 a0_0, .int .i64 0, .int .i64 1023] rfl gl_ ?_; (with_reducible refine (spec_l1In.calls a0_0 0 1023 false _ A5.out).mono ?_); rintro e w' ⟨rfl, ⟨nd, rfl⟩⟩; refine ⟨_, rfl, ?_⟩))
   go_meet
   case rel => exact ⟨_, (true), (by first | rfl | (simp; done) | (simp [*]; done)), H', ⟨by first | omega | exact Nat.le_refl _⟩, ⟨kN BK271.out⟩, ⟨by repeat (first | (with_reducible first | exact HB.out | apply below_alloc | apply pw_below_drewN | apply below_drew1 | refine below_set ?_ GE271.out) | exact HB.out)⟩⟩
 case rest =>
  clear HC2
  try clear c1
  try clear c2
  try clear p2
  try clear c6
  try clear hcz4_0
  try clear hcz4_1
  try clear hcz4_2
  try clear hcz4_3
  try clear hcz4_4
  try clear hcz4_5
  try clear hcz4_6
  try clear hcz4_7
  try clear hcz4_8
  try clear hcz4_9
  try clear hcz8_0
  try clear hcz8_1
  try clear hcz8_2
  try clear hcz8_3
  try clear hcz8_4
  try clear hcz8_5
  try clear hcz8_6
  try clear hcz8_7
  try clear hcz8_8
  try clear hcz8_9
  try clear hcz9_0
  try clear hcz9_1
  try clear hcz9_2
  try clear hcz9_3
  try clear hcz9_4
  try clear hcz9_5
  try clear hcz9_6
  try clear hcz9_7
  try clear hcz9_8
  try clear hcz9_9
  try clear hfz4_0
  try clear hfz4_1
  try clear hfz4_2
  try clear hfz4_3
  try clear hfz4_4
  try clear hfz4_5
  try clear hfz4_6
  try clear hfz4_7
  try clear hfz4_8
  try clear hfz4_9
  try clear hfz8_0
  try clear hfz8_1
  try clear hfz8_2
  try clear hfz8_3
  try clear hfz8_4
  try clear hfz8_5
  try clear hfz8_6
  try clear hfz8_7
  try clear hfz8_8
  try clear hfz8_9
  try clear hfz9_0
  try clear hfz9_1
  try clear hfz9_2
  try clear hfz9_3
  try clear hfz9_4
  try clear hfz9_5
  try clear hfz9_6
  try clear hfz9_7
  try clear hfz9_8
  try clear hfz9_9
  obtain ⟨kq, x7_1, rfl, HA, HJ1, BK271, HB⟩ := hcut
  cases kq with
  | zero => exact absurd HA.out (by simp [spec_ConfCheck.j0])
  | succ kj1 =>
   have H := HA.out
   clear HA
   simp only [spec_ConfCheck.j0] at H
   by_cases c10 : x7_1 = true
   ·subst c10
    have H1 : (some 1) = some r := by rw [if_pos rfl] at H; exact H
    clear H
    have H := H1
    clear H1
    obtain rfl := Option.some.inj H
    go_wp2
    go_ret
    exact ⟨by first | rfl | (simp [errW_none, errW_some] <;> rfl) | (simp [*, errW_none, errW_some] <;> rfl), by repeat (first | (with_reducible first | exact HB.out | apply below_alloc | apply pw_below_drewN | apply below_drew1 | refine below_set ?_ GE271.out) | exact HB.out)⟩
   ·replace c10 := Bool.eq_false_iff.mpr c10
    subst c10
    have H1 : ((spec_l11Progs.f kj1 l0_2).bind fun t274 => (if t274 = true then (if (l0_3.length : Int) = (l0_2.length : Int) then ((spec_l11Apids.f kj1 l0_3).bind fun t275 => (spec_ConfCheck.j1 kj1 (l0_2.length : Int) (!t275) a0_0 a0_1 l0_2 l0_3 l0_4 l0_5 l0_6 l0_7 l0_8 a0_9)) else (spec_ConfCheck.j1 kj1 (l0_2.length : Int) true a0_0 a0_1 l0_2 l0_3 l0_4 l0_5 l0_6 l0_7 l0_8 a0_9)) else (some 2))) = some r := by rw [if_neg (show ¬ (false = true) by decide)] at H; exact H
    clear H
    have H := H1
    clear H1
    replace H := Option.bind_eq_some_iff.mp H
    obtain ⟨t274, A110, H⟩ := H
    replace H : (if t274 = true then (if (l0_3.length : Int) = (l0_2.length : Int) then ((spec_l11Apids.f kj1 l0_3).bind fun t275 => (spec_ConfCheck.j1 kj1 (l0_2.length : Int) (!t275) a0_0 a0_1 l0_2 l0_3 l0_4 l0_5 l0_6 l0_7 l0_8 a0_9)) else (spec_ConfCheck.j1 kj1 (l0_2.length : Int) true a0_0 a0_1 l0_2 l0_3 l0_4 l0_5 l0_6 l0_7 l0_8 a0_9)) else (some 2)) = some r := H
    have A11 := Aside0.mk A110
    clear A110
    by_cases c12 : t274 = true
    ·subst c12
     have H1 : (if (l0_3.length : Int) = (l0_2.length : Int) then ((spec_l11Apids.f kj1 l0_3).bind fun t275 => (spec_ConfCheck.j1 kj1 (l0_2.length : Int) (!t275) a0_0 a0_1 l0_2 l0_3 l0_4 l0_5 l0_6 l0_7 l0_8 a0_9)) else (spec_ConfCheck.j1 kj1 (l0_2.length : Int) true a0_0 a0_1 l0_2 l0_3 l0_4 l0_5 l0_6 l0_7 l0_8 a0_9)) = some r := by rw [if_pos rfl] at H; exact H
     clear H
     have H := H1
     clear H1
     have HC13 := Aside0.mk H
     clear H
     have hcz14_0 : wc.cell? ⟨gb271, 0, none⟩ = some (.int .i64 a0_0) := bc BK271 0
     have hcz14_1 : wc.cell? ⟨gb271, 1, none⟩ = some (.int .i64 a0_1) := bc BK271 1
     have hcz14_2 : wc.cell? ⟨gb271, 2, none⟩ = some (.slice A0_2 l0_2.length c0_2) := bc BK271 2
     have hcz14_3 : wc.cell? ⟨gb271, 3, none⟩ = some (.slice A0_3 l0_3.length c0_3) := bc BK271 3
     have hcz14_4 : wc.cell? ⟨gb271, 4, none⟩ = some (.slice A0_4 l0_4.length c0_4) := bc BK271 4
     have hcz14_5 : wc.cell? ⟨gb271, 5, none⟩ = some (.slice A0_5 l0_5.length c0_5) := bc BK271 5
     have hcz14_6 : wc.cell? ⟨gb271, 6, none⟩ = some (.slice A0_6 l0_6.length c0_6) := bc BK271 6
     have hcz14_7 : wc.cell? ⟨gb271, 7, none⟩ = some (.slice A0_7 l0_7.length c0_7) := bc BK271 7
     have hcz14_8 : wc.cell? ⟨gb271, 8, none⟩ = some (.slice A0_8 l0_8.length c0_8) := bc BK271 8
     have hcz14_9 : wc.cell? ⟨gb271, 9, none⟩ = some (.int .i64 a0_9) := bc BK271 9
     have hfz14_0 := blk_frozen BK271.out 0
     have hfz14_1 := blk_frozen BK271.out 1
     have hfz14_2 := blk_frozen BK271.out 2
     have hfz14_3 := blk_frozen BK271.out 3
     have hfz14_4 := blk_frozen BK271.out 4
     have hfz14_5 := blk_frozen BK271.out 5
     have hfz14_6 := blk_frozen BK271.out 6
     have hfz14_7 := blk_frozen BK271.out 7
     have hfz14_8 := blk_frozen BK271.out 8
     have hfz14_9 := blk_frozen BK271.out 9
     go_upto_region 6 with (first | ((with_reducible refine gate_callee (f := 38) rfl ?_); refine goesL_ (some 21) rfl rfl Tryd.func38 (by kernel_rfl) rfl #[.slice A0_2 l0_2.length c0_2] rfl gl_ ?_; (with_reducible refine (spec_l11Progs.calls kj1 _ _ l0_2 true _ ?side1 ?side2 A11.out).mono ?_); (case side1 => exact cN (Kd.C_below HR0_2.out HB.out)); (case side2 => exact HC0_2.out); rintro e w15 ⟨rfl, hb⟩; refine ⟨_, rfl, ?_⟩; have n0_ := m_ (blk_below (kN BK271.out) hb); have n1_ := m_ (below_step (bN HB.out) hb); clear BK271; clear HB; have BK271 := n0_; have HB := n1_; clear n0_ n1_; (try clear hb); (try clear hb2); (try clear hk); (try clear hi)))
     (try simp only [Act.put, List.setIfInBounds_toArray, List.set_cons_zero, List.set_cons_succ])
     go_cut [23] (fun v23 wc => ∃ (kq : Nat) (x23_12 : Bool), v23 = .bool x23_12 ∧ Aside0 (spec_ConfCheck.j1 kq (l0_2.length : Int) x23_12 a0_0 a0_1 l0_2 l0_3 l0_4 l0_5 l0_6 l0_7 l0_8 a0_9 = some r) ∧ Aside0 (kq ≤ kj1) ∧ Aside0 (wc.heap[gb271]? = some (.cells #[.int .i64 a0_0, .int .i64 a0_1, (.slice A0_2 l0_2.length c0_2), (.slice A0_3 l0_3.length c0_3), (.slice A0_4 l0_4.length c0_4), (.slice A0_5 l0_5.length c0_5), (.slice A0_6 l0_6.length c0_6), (.slice A0_7 l0_7.length c0_7), (.slice A0_8 l0_8.length c0_8), .int .i64 a0_9] 32 (0, 0))) ∧ Aside0 (Below w.heap.size w wc))
     case first =>
      have H := HC13.out
      clear HC13
      by_cases c16 : (l0_3.length : Int) = (l0_2.length : Int)
      ·rw [if_pos c16] at H
       have c16b0 : ((l0_3.length : Int) == (l0_2.length : Int)) = true := beq_iff_eq.mpr c16
       have c16b1 : ((l0_3.length : Int) != (l0_2.length : Int)) = false := bne_eq_false_iff_eq.mpr c16
       have c16b2 : (l0_3.length == l0_2.length) = true := by first | simpa using c16 | (simp at c16 ⊢; omega)
       clear c16
       (first | rw [c16b0] | (simp only [i64_w, i32_w]; rw [c16b0]) | skip)
       replace H := Option.bind_eq_some_iff.mp H
       obtain ⟨t275, A170, H⟩ := H
       replace H : (spec_ConfCheck.j1 kj1 (l0_2.length : Int) (!t275) a0_0 a0_1 l0_2 l0_3 l0_4 l0_5 l0_6 l0_7 l0_8 a0_9) = some r := H
       have A17 := Aside0.mk A170
       clear A170
       have H' := Aside0.mk H
       clear H
       have hcz18_0 : w15.cell? ⟨gb271, 0, none⟩ = some (.int .i64 a0_0) := bc BK271 0
       have hcz18_1 : w15.cell? ⟨gb271, 1, none⟩ = some (.int .i64 a0_1) := bc BK271 1
       have hcz18_2 : w15.cell? ⟨gb271, 2, none⟩ = some (.slice A0_2 l0_2.length c0_2) := bc BK271 2
       have hcz18_3 : w15.cell? ⟨gb271, 3, none⟩ = some (.slice A0_3 l0_3.length c0_3) := bc BK271 3
       have hcz18_4 : w15.cell? ⟨gb271, 4, none⟩ = some (.slice A0_4 l0_4.length c0_4) := bc BK271 4
       have hcz18_5 : w15.cell? ⟨gb271, 5, none⟩ = some (.slice A0_5 l0_5.length c0_5) := bc BK271 5
       have hcz18_6 : w15.cell? ⟨gb271, 6, none⟩ = some (.slice A0_6 l0_6.length c0_6) := bc BK271 6
       have hcz18_7 : w15.cell? ⟨gb271, 7, none⟩ = some (.slice A0_7 l0_7.length c0_7) := bc BK271 7
       have hcz18_8 : w15.cell? ⟨gb271, 8, none⟩ = some (.slice A0_8 l0_8.length c0_8) := bc BK271 8
       have hcz18_9 : w15.cell? ⟨gb271, 9, none⟩ = some (.int .i64 a0_9) := bc BK271 9
       have hfz18_0 := blk_frozen BK271.out 0
       have hfz18_1 := blk_frozen BK271.out 1
       have hfz18_2 := blk_frozen BK271.out 2
       have hfz18_3 := blk_frozen BK271.out 3
       have hfz18_4 := blk_frozen BK271.out 4
       have hfz18_5 := blk_frozen BK271.out 5
       have hfz18_6 := blk_frozen BK271.out 6
       have hfz18_7 := blk_frozen BK271.out 7
       have hfz18_8 := blk_frozen BK271.out 8
       have hfz18_9 := blk_frozen BK271.out 9
       go_wp2_with (first | (go_at_call 39; (with_reducible refine (spec_l11Apids.calls kj1 _ _ l0_3 t275 _ ?side1 ?side2 A17.out).mono ?_); (case side1 => exact cN (Kd.C_below HR0_3.out HB.out)); (case side2 => exact HC0_3.out); rintro e w' ⟨rfl, ⟨nd, rfl⟩⟩))
       go_meet
       case rel => exact ⟨_, (!t275), (by first | rfl | (simp; done) | (simp [*]; done)), H', ⟨by have := HJ1.out; first | omega | exact Nat.le_refl _⟩, ⟨kN BK271.out⟩, ⟨by repeat (first | (with_reducible first | exact HB.out | apply below_alloc | apply pw_below_drewN | apply below_drew1 | refine below_set ?_ GE271.out) | exact HB.out)⟩⟩
      ·rw [if_neg c16] at H
       have c16b0 : ((l0_3.length : Int) == (l0_2.length : Int)) = false := beq_eq_false_iff_ne.mpr c16
       have c16b1 : ((l0_3.length : Int) != (l0_2.length : Int)) = true := bne_iff_ne.mpr c16
       have c16b2 : (l0_3.length == l0_2.length) = false := by first | simpa using c16 | (simp at c16 ⊢; omega)
       (first | rw [c16b0] | (simp only [i64_w, i32_w]; rw [c16b0]) | skip)
       have H' := Aside0.mk H
       clear H
       have hcz19_0 : w15.cell? ⟨gb271, 0, none⟩ = some (.int .i64 a0_0) := bc BK271 0
       have hcz19_1 : w15.cell? ⟨gb271, 1, none⟩ = some (.int .i64 a0_1) := bc BK271 1
       have hcz19_2 : w15.cell? ⟨gb271, 2, none⟩ = some (.slice A0_2 l0_2.length c0_2) := bc BK271 2
       have hcz19_3 : w15.cell? ⟨gb271, 3, none⟩ = some (.slice A0_3 l0_3.length c0_3) := bc BK271 3
       have hcz19_4 : w15.cell? ⟨gb271, 4, none⟩ = some (.slice A0_4 l0_4.length c0_4) := bc BK271 4
       have hcz19_5 : w15.cell? ⟨gb271, 5, none⟩ = some (.slice A0_5 l0_5.length c0_5) := bc BK271 5
       have hcz19_6 : w15.cell? ⟨gb271, 6, none⟩ = some (.slice A0_6 l0_6.length c0_6) := bc BK271 6
       have hcz19_7 : w15.cell? ⟨gb271, 7, none⟩ = some (.slice A0_7 l0_7.length c0_7) := bc BK271 7
       have hcz19_8 : w15.cell? ⟨gb271, 8, none⟩ = some (.slice A0_8 l0_8.length c0_8) := bc BK271 8
       have hcz19_9 : w15.cell? ⟨gb271, 9, none⟩ = some (.int .i64 a0_9) := bc BK271 9
       have hfz19_0 := blk_frozen BK271.out 0
       have hfz19_1 := blk_frozen BK271.out 1
       have hfz19_2 := blk_frozen BK271.out 2
       have hfz19_3 := blk_frozen BK271.out 3
       have hfz19_4 := blk_frozen BK271.out 4
       have hfz19_5 := blk_frozen BK271.out 5
       have hfz19_6 := blk_frozen BK271.out 6
       have hfz19_7 := blk_frozen BK271.out 7
       have hfz19_8 := blk_frozen BK271.out 8
       have hfz19_9 := blk_frozen BK271.out 9
       go_wp2
       go_meet
       case rel => exact ⟨_, (true), (by first | rfl | (simp; done) | (simp [*]; done)), H', ⟨by have := HJ1.out; first | omega | exact Nat.le_refl _⟩, ⟨kN BK271.out⟩, ⟨by repeat (first | (with_reducible first | exact HB.out | apply below_alloc | apply pw_below_drewN | apply below_drew1 | refine below_set ?_ GE271.out) | exact HB.out)⟩⟩
     case rest =>
      clear HC13
      try clear c1
      try clear c2
      try clear p2
      try clear c3
      try clear c6
      try clear c10
      try clear c12
      try clear c16
      try clear c16b0
      try clear c16b1
      try clear c16b2
      try clear hcz14_0
      try clear hcz14_1
      try clear hcz14_2
      try clear hcz14_3
      try clear hcz14_4
      try clear hcz14_5
      try clear hcz14_6
      try clear hcz14_7
      try clear hcz14_8
      try clear hcz14_9
      try clear hcz18_0
      try clear hcz18_1
      try clear hcz18_2
      try clear hcz18_3
      try clear hcz18_4
      try clear hcz18_5
      try clear hcz18_6
      try clear hcz18_7
      try clear hcz18_8
      try clear hcz18_9
      try clear hcz19_0
      try clear hcz19_1
      try clear hcz19_2
      try clear hcz19_3
      try clear hcz19_4
      try clear hcz19_5
      try clear hcz19_6
      try clear hcz19_7
      try clear hcz19_8
      try clear hcz19_9
      try clear hcz4_0
      try clear hcz4_1
      try clear hcz4_2
      try clear hcz4_3
      try clear hcz4_4
      try clear hcz4_5
      try clear hcz4_6
      try clear hcz4_7
      try clear hcz4_8
      try clear hcz4_9
      try clear hcz8_0
      try clear hcz8_1
      try clear hcz8_2
      try clear hcz8_3
      try clear hcz8_4
      try clear hcz8_5
      try clear hcz8_6
      try clear hcz8_7
      try clear hcz8_8
      try clear hcz8_9
      try clear hcz9_0
      try clear hcz9_1
      try clear hcz9_2
      try clear hcz9_3
      try clear hcz9_4
      try clear hcz9_5
      try clear hcz9_6
      try clear hcz9_7
      try clear hcz9_8
      try clear hcz9_9
      try clear hfz14_0
      try clear hfz14_1
      try clear hfz14_2
      try clear hfz14_3
      try clear hfz14_4
      try clear hfz14_5
      try clear hfz14_6
      try clear hfz14_7
      try clear hfz14_8
      try clear hfz14_9
      try clear hfz18_0
      try clear hfz18_1
      try clear hfz18_2
      try clear hfz18_3
      try clear hfz18_4
      try clear hfz18_5
      try clear hfz18_6
      try clear hfz18_7
      try clear hfz18_8
      try clear hfz18_9
      try clear hfz19_0
      try clear hfz19_1
      try clear hfz19_2
      try clear hfz19_3
      try clear hfz19_4
      try clear hfz19_5
      try clear hfz19_6
      try clear hfz19_7
      try clear hfz19_8
      try clear hfz19_9
      try clear hfz4_0
      try clear hfz4_1
      try clear hfz4_2
      try clear hfz4_3
      try clear hfz4_4
      try clear hfz4_5
      try clear hfz4_6
      try clear hfz4_7
      try clear hfz4_8
      try clear hfz4_9
      try clear hfz8_0
      try clear hfz8_1
      try clear hfz8_2
      try clear hfz8_3
      try clear hfz8_4
      try clear hfz8_5
      try clear hfz8_6
      try clear hfz8_7
      try clear hfz8_8
      try clear hfz8_9
      try clear hfz9_0
      try clear hfz9_1
      try clear hfz9_2
      try clear hfz9_3
      try clear hfz9_4
      try clear hfz9_5
      try clear hfz9_6
      try clear hfz9_7
      try clear hfz9_8
      try clear hfz9_9
      try clear p2
      obtain ⟨kq, x23_12, rfl, HA, HJ12, BK271, HB⟩ := hcut
      cases kq with
      | zero => exact absurd HA.out (by simp [spec_ConfCheck.j1])
      | succ kj12 =>
       have H := HA.out
       clear HA
       simp only [spec_ConfCheck.j1] at H
       by_cases c20 : x23_12 = true
       ·subst c20
        have H1 : (some 3) = some r := by rw [if_pos rfl] at H; exact H
        clear H
        have H := H1
        clear H1
        obtain rfl := Option.some.inj H
        go_wp2
        go_ret
        exact ⟨by first | rfl | (simp [errW_none, errW_some] <;> rfl) | (simp [*, errW_none, errW_some] <;> rfl), by repeat (first | (with_reducible first | exact HB.out | apply below_alloc | apply pw_below_drewN | apply below_drew1 | refine below_set ?_ GE271.out) | exact HB.out)⟩
       ·replace c20 := Bool.eq_false_iff.mpr c20
        subst c20
        have H1 : (if (l0_4.length : Int) = (l0_2.length : Int) then ((spec_l11Budgets.f kj12 l0_4).bind fun t276 => (spec_ConfCheck.j2 kj12 (l0_2.length : Int) (!t276) a0_0 a0_1 l0_2 l0_3 l0_4 l0_5 l0_6 l0_7 l0_8 a0_9)) else (spec_ConfCheck.j2 kj12 (l0_2.length : Int) true a0_0 a0_1 l0_2 l0_3 l0_4 l0_5 l0_6 l0_7 l0_8 a0_9)) = some r := by rw [if_neg (show ¬ (false = true) by decide)] at H; exact H
        clear H
        have H := H1
        clear H1
        have HC21 := Aside0.mk H
        clear H
        go_upto_region 8 with (fail)
        go_cut [35] (fun v35 wc => ∃ (kq : Nat) (x35_20 : Bool), v35 = .bool x35_20 ∧ Aside0 (spec_ConfCheck.j2 kq (l0_2.length : Int) x35_20 a0_0 a0_1 l0_2 l0_3 l0_4 l0_5 l0_6 l0_7 l0_8 a0_9 = some r) ∧ Aside0 (kq ≤ kj12) ∧ Aside0 (wc.heap[gb271]? = some (.cells #[.int .i64 a0_0, .int .i64 a0_1, (.slice A0_2 l0_2.length c0_2), (.slice A0_3 l0_3.length c0_3), (.slice A0_4 l0_4.length c0_4), (.slice A0_5 l0_5.length c0_5), (.slice A0_6 l0_6.length c0_6), (.slice A0_7 l0_7.length c0_7), (.slice A0_8 l0_8.length c0_8), .int .i64 a0_9] 32 (0, 0))) ∧ Aside0 (Below w.heap.size w wc))
        case first =>
         have H := HC21.out
         clear HC21
         by_cases c22 : (l0_4.length : Int) = (l0_2.length : Int)
         ·rw [if_pos c22] at H
          have c22b0 : ((l0_4.length : Int) == (l0_2.length : Int)) = true := beq_iff_eq.mpr c22
          have c22b1 : ((l0_4.length : Int) != (l0_2.length : Int)) = false := bne_eq_false_iff_eq.mpr c22
          have c22b2 : (l0_4.length == l0_2.length) = true := by first | simpa using c22 | (simp at c22 ⊢; omega)
          clear c22
          (first | rw [c22b0] | (simp only [i64_w, i32_w]; rw [c22b0]) | skip)
          replace H := Option.bind_eq_some_iff.mp H
          obtain ⟨t276, A230, H⟩ := H
          replace H : (spec_ConfCheck.j2 kj12 (l0_2.length : Int) (!t276) a0_0 a0_1 l0_2 l0_3 l0_4 l0_5 l0_6 l0_7 l0_8 a0_9) = some r := H
          have A23 := Aside0.mk A230
          clear A230
          have H' := Aside0.mk H
          clear H
          have hcz24_0 : wc.cell? ⟨gb271, 0, none⟩ = some (.int .i64 a0_0) := bc BK271 0
          have hcz24_1 : wc.cell? ⟨gb271, 1, none⟩ = some (.int .i64 a0_1) := bc BK271 1
          have hcz24_2 : wc.cell? ⟨gb271, 2, none⟩ = some (.slice A0_2 l0_2.length c0_2) := bc BK271 2
          have hcz24_3 : wc.cell? ⟨gb271, 3, none⟩ = some (.slice A0_3 l0_3.length c0_3) := bc BK271 3
          have hcz24_4 : wc.cell? ⟨gb271, 4, none⟩ = some (.slice A0_4 l0_4.length c0_4) := bc BK271 4
          have hcz24_5 : wc.cell? ⟨gb271, 5, none⟩ = some (.slice A0_5 l0_5.length c0_5) := bc BK271 5
          have hcz24_6 : wc.cell? ⟨gb271, 6, none⟩ = some (.slice A0_6 l0_6.length c0_6) := bc BK271 6
          have hcz24_7 : wc.cell? ⟨gb271, 7, none⟩ = some (.slice A0_7 l0_7.length c0_7) := bc BK271 7
          have hcz24_8 : wc.cell? ⟨gb271, 8, none⟩ = some (.slice A0_8 l0_8.length c0_8) := bc BK271 8
          have hcz24_9 : wc.cell? ⟨gb271, 9, none⟩ = some (.int .i64 a0_9) := bc BK271 9
          have hfz24_0 := blk_frozen BK271.out 0
          have hfz24_1 := blk_frozen BK271.out 1
          have hfz24_2 := blk_frozen BK271.out 2
          have hfz24_3 := blk_frozen BK271.out 3
          have hfz24_4 := blk_frozen BK271.out 4
          have hfz24_5 := blk_frozen BK271.out 5
          have hfz24_6 := blk_frozen BK271.out 6
          have hfz24_7 := blk_frozen BK271.out 7
          have hfz24_8 := blk_frozen BK271.out 8
          have hfz24_9 := blk_frozen BK271.out 9
          go_wp2_with (first | (go_at_call 40; (with_reducible refine (spec_l11Budgets.calls kj12 _ _ l0_4 t276 _ ?side1 ?side2 A23.out).mono ?_); (case side1 => exact cN (Kd.C_below HR0_4.out HB.out)); (case side2 => exact HC0_4.out); rintro e w' ⟨rfl, ⟨nd, rfl⟩⟩))
          go_meet
          case rel => exact ⟨_, (!t276), (by first | rfl | (simp; done) | (simp [*]; done)), H', ⟨by have := HJ1.out; have := HJ12.out; first | omega | exact Nat.le_refl _⟩, ⟨kN BK271.out⟩, ⟨by repeat (first | (with_reducible first | exact HB.out | apply below_alloc | apply pw_below_drewN | apply below_drew1 | refine below_set ?_ GE271.out) | exact HB.out)⟩⟩
         ·rw [if_neg c22] at H
          have c22b0 : ((l0_4.length : Int) == (l0_2.length : Int)) = false := beq_eq_false_iff_ne.mpr c22
          have c22b1 : ((l0_4.length : Int) != (l0_2.length : Int)) = true := bne_iff_ne.mpr c22
          have c22b2 : (l0_4.length == l0_2.length) = false := by first | simpa using c22 | (simp at c22 ⊢; omega)
          (first | rw [c22b0] | (simp only [i64_w, i32_w]; rw [c22b0]) | skip)
          have H' := Aside0.mk H
          clear H
          have hcz25_0 : wc.cell? ⟨gb271, 0, none⟩ = some (.int .i64 a0_0) := bc BK271 0
          have hcz25_1 : wc.cell? ⟨gb271, 1, none⟩ = some (.int .i64 a0_1) := bc BK271 1
          have hcz25_2 : wc.cell? ⟨gb271, 2, none⟩ = some (.slice A0_2 l0_2.length c0_2) := bc BK271 2
          have hcz25_3 : wc.cell? ⟨gb271, 3, none⟩ = some (.slice A0_3 l0_3.length c0_3) := bc BK271 3
          have hcz25_4 : wc.cell? ⟨gb271, 4, none⟩ = some (.slice A0_4 l0_4.length c0_4) := bc BK271 4
          have hcz25_5 : wc.cell? ⟨gb271, 5, none⟩ = some (.slice A0_5 l0_5.length c0_5) := bc BK271 5
          have hcz25_6 : wc.cell? ⟨gb271, 6, none⟩ = some (.slice A0_6 l0_6.length c0_6) := bc BK271 6
          have hcz25_7 : wc.cell? ⟨gb271, 7, none⟩ = some (.slice A0_7 l0_7.length c0_7) := bc BK271 7
          have hcz25_8 : wc.cell? ⟨gb271, 8, none⟩ = some (.slice A0_8 l0_8.length c0_8) := bc BK271 8
          have hcz25_9 : wc.cell? ⟨gb271, 9, none⟩ = some (.int .i64 a0_9) := bc BK271 9
          have hfz25_0 := blk_frozen BK271.out 0
          have hfz25_1 := blk_frozen BK271.out 1
          have hfz25_2 := blk_frozen BK271.out 2
          have hfz25_3 := blk_frozen BK271.out 3
          have hfz25_4 := blk_frozen BK271.out 4
          have hfz25_5 := blk_frozen BK271.out 5
          have hfz25_6 := blk_frozen BK271.out 6
          have hfz25_7 := blk_frozen BK271.out 7
          have hfz25_8 := blk_frozen BK271.out 8
          have hfz25_9 := blk_frozen BK271.out 9
          go_wp2
          go_meet
          case rel => exact ⟨_, (true), (by first | rfl | (simp; done) | (simp [*]; done)), H', ⟨by have := HJ1.out; have := HJ12.out; first | omega | exact Nat.le_refl _⟩, ⟨kN BK271.out⟩, ⟨by repeat (first | (with_reducible first | exact HB.out | apply below_alloc | apply pw_below_drewN | apply below_drew1 | refine below_set ?_ GE271.out) | exact HB.out)⟩⟩
        case rest =>
         clear HC21
         try clear c1
         try clear c2
         try clear p2
         try clear c3
         try clear c6
         try clear c10
         try clear c12
         try clear c16
         try clear c16b0
         try clear c16b1
         try clear c16b2
         try clear c20
         try clear c22
         try clear c22b0
         try clear c22b1
         try clear c22b2
         try clear c25
         try clear hcz14_0
         try clear hcz14_1
         try clear hcz14_2
         try clear hcz14_3
         try clear hcz14_4
         try clear hcz14_5
         try clear hcz14_6
         try clear hcz14_7
         try clear hcz14_8
         try clear hcz14_9
         try clear hcz18_0
         try clear hcz18_1
         try clear hcz18_2
         try clear hcz18_3
         try clear hcz18_4
         try clear hcz18_5
         try clear hcz18_6
         try clear hcz18_7
         try clear hcz18_8
         try clear hcz18_9
         try clear hcz19_0
         try clear hcz19_1
         try clear hcz19_2
         try clear hcz19_3
         try clear hcz19_4
         try clear hcz19_5
         try clear hcz19_6
         try clear hcz19_7
         try clear hcz19_8
         try clear hcz19_9
         try clear hcz24_0
         try clear hcz24_1
         try clear hcz24_2
         try clear hcz24_3
         try clear hcz24_4
         try clear hcz24_5
         try clear hcz24_6
         try clear hcz24_7
         try clear hcz24_8
         try clear hcz24_9
         try clear hcz25_0
         try clear hcz25_1
         try clear hcz25_2
         try clear hcz25_3
         try clear hcz25_4
         try clear hcz25_5
         try clear hcz25_6
         try clear hcz25_7
         try clear hcz25_8
         try clear hcz25_9
         try clear hcz4_0
         try clear hcz4_1
         try clear hcz4_2
         try clear hcz4_3
         try clear hcz4_4
         try clear hcz4_5
         try clear hcz4_6
         try clear hcz4_7
         try clear hcz4_8
         try clear hcz4_9
         try clear hcz8_0
         try clear hcz8_1
         try clear hcz8_2
         try clear hcz8_3
         try clear hcz8_4
         try clear hcz8_5
         try clear hcz8_6
         try clear hcz8_7
         try clear hcz8_8
         try clear hcz8_9
         try clear hcz9_0
         try clear hcz9_1
         try clear hcz9_2
         try clear hcz9_3
         try clear hcz9_4
         try clear hcz9_5
         try clear hcz9_6
         try clear hcz9_7
         try clear hcz9_8
         try clear hcz9_9
         try clear hfz14_0
         try clear hfz14_1
         try clear hfz14_2
         try clear hfz14_3
         try clear hfz14_4
         try clear hfz14_5
         try clear hfz14_6
         try clear hfz14_7
         try clear hfz14_8
         try clear hfz14_9
         try clear hfz18_0
         try clear hfz18_1
         try clear hfz18_2
         try clear hfz18_3
         try clear hfz18_4
         try clear hfz18_5
         try clear hfz18_6
         try clear hfz18_7
         try clear hfz18_8
         try clear hfz18_9
         try clear hfz19_0
         try clear hfz19_1
         try clear hfz19_2
         try clear hfz19_3
         try clear hfz19_4
         try clear hfz19_5
         try clear hfz19_6
         try clear hfz19_7
         try clear hfz19_8
         try clear hfz19_9
         try clear hfz24_0
         try clear hfz24_1
         try clear hfz24_2
         try clear hfz24_3
         try clear hfz24_4
         try clear hfz24_5
         try clear hfz24_6
         try clear hfz24_7
         try clear hfz24_8
         try clear hfz24_9
         try clear hfz25_0
         try clear hfz25_1
         try clear hfz25_2
         try clear hfz25_3
         try clear hfz25_4
         try clear hfz25_5
         try clear hfz25_6
         try clear hfz25_7
         try clear hfz25_8
         try clear hfz25_9
         try clear hfz4_0
         try clear hfz4_1
         try clear hfz4_2
         try clear hfz4_3
         try clear hfz4_4
         try clear hfz4_5
         try clear hfz4_6
         try clear hfz4_7
         try clear hfz4_8
         try clear hfz4_9
         try clear hfz8_0
         try clear hfz8_1
         try clear hfz8_2
         try clear hfz8_3
         try clear hfz8_4
         try clear hfz8_5
         try clear hfz8_6
         try clear hfz8_7
         try clear hfz8_8
         try clear hfz8_9
         try clear hfz9_0
         try clear hfz9_1
         try clear hfz9_2
         try clear hfz9_3
         try clear hfz9_4
         try clear hfz9_5
         try clear hfz9_6
         try clear hfz9_7
         try clear hfz9_8
         try clear hfz9_9
         try clear p2
         obtain ⟨kq, x35_20, rfl, HA, HJ20, BK271, HB⟩ := hcut
         cases kq with
         | zero => exact absurd HA.out (by simp [spec_ConfCheck.j2])
         | succ kj20 =>
          have H := HA.out
          clear HA
          simp only [spec_ConfCheck.j2] at H
          by_cases c26 : x35_20 = true
          ·subst c26
           have H1 : (some 4) = some r := by rw [if_pos rfl] at H; exact H
           clear H
           have H := H1
           clear H1
           obtain rfl := Option.some.inj H
           go_wp2
           go_ret
           exact ⟨by first | rfl | (simp [errW_none, errW_some] <;> rfl) | (simp [*, errW_none, errW_some] <;> rfl), by repeat (first | (with_reducible first | exact HB.out | apply below_alloc | apply pw_below_drewN | apply below_drew1 | refine below_set ?_ GE271.out) | exact HB.out)⟩
          ·replace c26 := Bool.eq_false_iff.mpr c26
           subst c26
           have H1 : ((spec_l11Turns.f kj20 l0_5 (-1) (wrap64 ((l0_2.length : Int) - 1))).bind fun t277 => (if t277 = true then ((spec_l11Turns.f kj20 l0_6 (-1) (wrap64 ((l0_2.length : Int) - 1))).bind fun t278 => (if t278 = true then (spec_ConfCheck.j3 kj20 (l0_2.length : Int) ((l0_5.length : Int) != (l0_6.length : Int)) a0_0 a0_1 l0_2 l0_3 l0_4 l0_5 l0_6 l0_7 l0_8 a0_9) else (spec_ConfCheck.j3 kj20 (l0_2.length : Int) true a0_0 a0_1 l0_2 l0_3 l0_4 l0_5 l0_6 l0_7 l0_8 a0_9))) else (spec_ConfCheck.j3 kj20 (l0_2.length : Int) true a0_0 a0_1 l0_2 l0_3 l0_4 l0_5 l0_6 l0_7 l0_8 a0_9))) = some r := by rw [if_neg (show ¬ (false = true) by decide)] at H; exact H
           clear H
           have H := H1
           clear H1
           have HC27 := Aside0.mk H
           clear H
           go_upto_region 10 with (fail)
           go_cut [47] (fun v47 wc => ∃ (kq : Nat) (x47_26 : Bool), v47 = .bool x47_26 ∧ Aside0 (spec_ConfCheck.j3 kq (l0_2.length : Int) x47_26 a0_0 a0_1 l0_2 l0_3 l0_4 l0_5 l0_6 l0_7 l0_8 a0_9 = some r) ∧ Aside0 (kq ≤ kj20) ∧ Aside0 (wc.heap[gb271]? = some (.cells #[.int .i64 a0_0, .int .i64 a0_1, (.slice A0_2 l0_2.length c0_2), (.slice A0_3 l0_3.length c0_3), (.slice A0_4 l0_4.length c0_4), (.slice A0_5 l0_5.length c0_5), (.slice A0_6 l0_6.length c0_6), (.slice A0_7 l0_7.length c0_7), (.slice A0_8 l0_8.length c0_8), .int .i64 a0_9] 32 (0, 0))) ∧ Aside0 (Below w.heap.size w wc))
           case first =>
            have H := HC27.out
            clear HC27
            replace H := Option.bind_eq_some_iff.mp H
            obtain ⟨t277, A280, H⟩ := H
            replace H : (if t277 = true then ((spec_l11Turns.f kj20 l0_6 (-1) (wrap64 ((l0_2.length : Int) - 1))).bind fun t278 => (if t278 = true then (spec_ConfCheck.j3 kj20 (l0_2.length : Int) ((l0_5.length : Int) != (l0_6.length : Int)) a0_0 a0_1 l0_2 l0_3 l0_4 l0_5 l0_6 l0_7 l0_8 a0_9) else (spec_ConfCheck.j3 kj20 (l0_2.length : Int) true a0_0 a0_1 l0_2 l0_3 l0_4 l0_5 l0_6 l0_7 l0_8 a0_9))) else (spec_ConfCheck.j3 kj20 (l0_2.length : Int) true a0_0 a0_1 l0_2 l0_3 l0_4 l0_5 l0_6 l0_7 l0_8 a0_9)) = some r := H
            have A28 := Aside0.mk A280
            clear A280
            by_cases c29 : t277 = true
            ·subst c29
             have H1 : ((spec_l11Turns.f kj20 l0_6 (-1) (wrap64 ((l0_2.length : Int) - 1))).bind fun t278 => (if t278 = true then (spec_ConfCheck.j3 kj20 (l0_2.length : Int) ((l0_5.length : Int) != (l0_6.length : Int)) a0_0 a0_1 l0_2 l0_3 l0_4 l0_5 l0_6 l0_7 l0_8 a0_9) else (spec_ConfCheck.j3 kj20 (l0_2.length : Int) true a0_0 a0_1 l0_2 l0_3 l0_4 l0_5 l0_6 l0_7 l0_8 a0_9))) = some r := by rw [if_pos rfl] at H; exact H
             clear H
             have H := H1
             clear H1
             replace H := Option.bind_eq_some_iff.mp H
             obtain ⟨t278, A300, H⟩ := H
             replace H : (if t278 = true then (spec_ConfCheck.j3 kj20 (l0_2.length : Int) ((l0_5.length : Int) != (l0_6.length : Int)) a0_0 a0_1 l0_2 l0_3 l0_4 l0_5 l0_6 l0_7 l0_8 a0_9) else (spec_ConfCheck.j3 kj20 (l0_2.length : Int) true a0_0 a0_1 l0_2 l0_3 l0_4 l0_5 l0_6 l0_7 l0_8 a0_9)) = some r := H
             have A30 := Aside0.mk A300
             clear A300
             by_cases c31 : t278 = true
             ·subst c31
              have H1 : (spec_ConfCheck.j3 kj20 (l0_2.length : Int) ((l0_5.length : Int) != (l0_6.length : Int)) a0_0 a0_1 l0_2 l0_3 l0_4 l0_5 l0_6 l0_7 l0_8 a0_9) = some r := by rw [if_pos rfl] at H; exact H
              clear H
              have H := H1
              clear H1
              have H' := Aside0.mk H
              clear H
              have hcz32_0 : wc.cell? ⟨gb271, 0, none⟩ = some (.int .i64 a0_0) := bc BK271 0
              have hcz32_1 : wc.cell? ⟨gb271, 1, none⟩ = some (.int .i64 a0_1) := bc BK271 1
              have hcz32_2 : wc.cell? ⟨gb271, 2, none⟩ = some (.slice A0_2 l0_2.length c0_2) := bc BK271 2
              have hcz32_3 : wc.cell? ⟨gb271, 3, none⟩ = some (.slice A0_3 l0_3.length c0_3) := bc BK271 3
              have hcz32_4 : wc.cell? ⟨gb271, 4, none⟩ = some (.slice A0_4 l0_4.length c0_4) := bc BK271 4
              have hcz32_5 : wc.cell? ⟨gb271, 5, none⟩ = some (.slice A0_5 l0_5.length c0_5) := bc BK271 5
              have hcz32_6 : wc.cell? ⟨gb271, 6, none⟩ = some (.slice A0_6 l0_6.length c0_6) := bc BK271 6
              have hcz32_7 : wc.cell? ⟨gb271, 7, none⟩ = some (.slice A0_7 l0_7.length c0_7) := bc BK271 7
              have hcz32_8 : wc.cell? ⟨gb271, 8, none⟩ = some (.slice A0_8 l0_8.length c0_8) := bc BK271 8
              have hcz32_9 : wc.cell? ⟨gb271, 9, none⟩ = some (.int .i64 a0_9) := bc BK271 9
              have hfz32_0 := blk_frozen BK271.out 0
              have hfz32_1 := blk_frozen BK271.out 1
              have hfz32_2 := blk_frozen BK271.out 2
              have hfz32_3 := blk_frozen BK271.out 3
              have hfz32_4 := blk_frozen BK271.out 4
              have hfz32_5 := blk_frozen BK271.out 5
              have hfz32_6 := blk_frozen BK271.out 6
              have hfz32_7 := blk_frozen BK271.out 7
              have hfz32_8 := blk_frozen BK271.out 8
              have hfz32_9 := blk_frozen BK271.out 9
              go_wp2_with (first | ((with_reducible refine gate_callee (f := 41) rfl ?_); refine goesL_ (some 52) rfl rfl Tryd.func41 (by kernel_rfl) rfl #[.slice A0_5 l0_5.length c0_5, .int .i64 (-1), .int .i64 (wrap64 ((l0_2.length : Int) - 1))] rfl gl_ ?_; (with_reducible refine (spec_l11Turns.calls kj20 _ _ l0_5 (-1) (wrap64 ((l0_2.length : Int) - 1)) true _ ?side1 ?side2 A28.out).mono ?_); (case side1 => exact cN (Kd.C_below HR0_5.out HB.out)); (case side2 => exact HC0_5.out); rintro e w' ⟨rfl, ⟨nd, rfl⟩⟩; refine ⟨_, rfl, ?_⟩) | (go_at_call 41; (with_reducible refine (spec_l11Turns.calls kj20 _ _ l0_6 (-1) (wrap64 ((l0_2.length : Int) - 1)) true _ ?side1 ?side2 A30.out).mono ?_); (case side1 => exact cN (Kd.C_below HR0_6.out (bN HB.out))); (case side2 => exact HC0_6.out); rintro e w' ⟨rfl, ⟨nd, rfl⟩⟩))
              go_meet
              case rel => exact ⟨_, (((l0_5.length : Int) != (l0_6.length : Int))), (by first | rfl | (simp; done) | (simp [*]; done)), H', ⟨by have := HJ1.out; have := HJ12.out; have := HJ20.out; first | omega | exact Nat.le_refl _⟩, ⟨kN BK271.out⟩, ⟨by repeat (first | (with_reducible first | exact HB.out | apply below_alloc | apply pw_below_drewN | apply below_drew1 | refine below_set ?_ GE271.out) | exact HB.out)⟩⟩
             ·replace c31 := Bool.eq_false_iff.mpr c31
              subst c31
              have H1 : (spec_ConfCheck.j3 kj20 (l0_2.length : Int) true a0_0 a0_1 l0_2 l0_3 l0_4 l0_5 l0_6 l0_7 l0_8 a0_9) = some r := by rw [if_neg (show ¬ (false = true) by decide)] at H; exact H
              clear H
              have H := H1
              clear H1
              have H' := Aside0.mk H
              clear H
              have hcz33_0 : wc.cell? ⟨gb271, 0, none⟩ = some (.int .i64 a0_0) := bc BK271 0
              have hcz33_1 : wc.cell? ⟨gb271, 1, none⟩ = some (.int .i64 a0_1) := bc BK271 1
              have hcz33_2 : wc.cell? ⟨gb271, 2, none⟩ = some (.slice A0_2 l0_2.length c0_2) := bc BK271 2
              have hcz33_3 : wc.cell? ⟨gb271, 3, none⟩ = some (.slice A0_3 l0_3.length c0_3) := bc BK271 3
              have hcz33_4 : wc.cell? ⟨gb271, 4, none⟩ = some (.slice A0_4 l0_4.length c0_4) := bc BK271 4
              have hcz33_5 : wc.cell? ⟨gb271, 5, none⟩ = some (.slice A0_5 l0_5.length c0_5) := bc BK271 5
              have hcz33_6 : wc.cell? ⟨gb271, 6, none⟩ = some (.slice A0_6 l0_6.length c0_6) := bc BK271 6
              have hcz33_7 : wc.cell? ⟨gb271, 7, none⟩ = some (.slice A0_7 l0_7.length c0_7) := bc BK271 7
              have hcz33_8 : wc.cell? ⟨gb271, 8, none⟩ = some (.slice A0_8 l0_8.length c0_8) := bc BK271 8
              have hcz33_9 : wc.cell? ⟨gb271, 9, none⟩ = some (.int .i64 a0_9) := bc BK271 9
              have hfz33_0 := blk_frozen BK271.out 0
              have hfz33_1 := blk_frozen BK271.out 1
              have hfz33_2 := blk_frozen BK271.out 2
              have hfz33_3 := blk_frozen BK271.out 3
              have hfz33_4 := blk_frozen BK271.out 4
              have hfz33_5 := blk_frozen BK271.out 5
              have hfz33_6 := blk_frozen BK271.out 6
              have hfz33_7 := blk_frozen BK271.out 7
              have hfz33_8 := blk_frozen BK271.out 8
              have hfz33_9 := blk_frozen BK271.out 9
              go_wp2_with (first | ((with_reducible refine gate_callee (f := 41) rfl ?_); refine goesL_ (some 52) rfl rfl Tryd.func41 (by kernel_rfl) rfl #[.slice A0_5 l0_5.length c0_5, .int .i64 (-1), .int .i64 (wrap64 ((l0_2.length : Int) - 1))] rfl gl_ ?_; (with_reducible refine (spec_l11Turns.calls kj20 _ _ l0_5 (-1) (wrap64 ((l0_2.length : Int) - 1)) true _ ?side1 ?side2 A28.out).mono ?_); (case side1 => exact cN (Kd.C_below HR0_5.out HB.out)); (case side2 => exact HC0_5.out); rintro e w' ⟨rfl, ⟨nd, rfl⟩⟩; refine ⟨_, rfl, ?_⟩) | (go_at_call 41; (with_reducible refine (spec_l11Turns.calls kj20 _ _ l0_6 (-1) (wrap64 ((l0_2.length : Int) - 1)) false _ ?side1 ?side2 A30.out).mono ?_); (case side1 => exact cN (Kd.C_below HR0_6.out (bN HB.out))); (case side2 => exact HC0_6.out); rintro e w' ⟨rfl, ⟨nd, rfl⟩⟩))
              go_meet
              case rel => exact ⟨_, (true), (by first | rfl | (simp; done) | (simp [*]; done)), H', ⟨by have := HJ1.out; have := HJ12.out; have := HJ20.out; first | omega | exact Nat.le_refl _⟩, ⟨kN BK271.out⟩, ⟨by repeat (first | (with_reducible first | exact HB.out | apply below_alloc | apply pw_below_drewN | apply below_drew1 | refine below_set ?_ GE271.out) | exact HB.out)⟩⟩
            ·replace c29 := Bool.eq_false_iff.mpr c29
             subst c29
             have H1 : (spec_ConfCheck.j3 kj20 (l0_2.length : Int) true a0_0 a0_1 l0_2 l0_3 l0_4 l0_5 l0_6 l0_7 l0_8 a0_9) = some r := by rw [if_neg (show ¬ (false = true) by decide)] at H; exact H
             clear H
             have H := H1
             clear H1
             have H' := Aside0.mk H
             clear H
             have hcz34_0 : wc.cell? ⟨gb271, 0, none⟩ = some (.int .i64 a0_0) := bc BK271 0
             have hcz34_1 : wc.cell? ⟨gb271, 1, none⟩ = some (.int .i64 a0_1) := bc BK271 1
             have hcz34_2 : wc.cell? ⟨gb271, 2, none⟩ = some (.slice A0_2 l0_2.length c0_2) := bc BK271 2
             have hcz34_3 : wc.cell? ⟨gb271, 3, none⟩ = some (.slice A0_3 l0_3.length c0_3) := bc BK271 3
             have hcz34_4 : wc.cell? ⟨gb271, 4, none⟩ = some (.slice A0_4 l0_4.length c0_4) := bc BK271 4
             have hcz34_5 : wc.cell? ⟨gb271, 5, none⟩ = some (.slice A0_5 l0_5.length c0_5) := bc BK271 5
             have hcz34_6 : wc.cell? ⟨gb271, 6, none⟩ = some (.slice A0_6 l0_6.length c0_6) := bc BK271 6
             have hcz34_7 : wc.cell? ⟨gb271, 7, none⟩ = some (.slice A0_7 l0_7.length c0_7) := bc BK271 7
             have hcz34_8 : wc.cell? ⟨gb271, 8, none⟩ = some (.slice A0_8 l0_8.length c0_8) := bc BK271 8
             have hcz34_9 : wc.cell? ⟨gb271, 9, none⟩ = some (.int .i64 a0_9) := bc BK271 9
             have hfz34_0 := blk_frozen BK271.out 0
             have hfz34_1 := blk_frozen BK271.out 1
             have hfz34_2 := blk_frozen BK271.out 2
             have hfz34_3 := blk_frozen BK271.out 3
             have hfz34_4 := blk_frozen BK271.out 4
             have hfz34_5 := blk_frozen BK271.out 5
             have hfz34_6 := blk_frozen BK271.out 6
             have hfz34_7 := blk_frozen BK271.out 7
             have hfz34_8 := blk_frozen BK271.out 8
             have hfz34_9 := blk_frozen BK271.out 9
             go_wp2_with (first | ((with_reducible refine gate_callee (f := 41) rfl ?_); refine goesL_ (some 52) rfl rfl Tryd.func41 (by kernel_rfl) rfl #[.slice A0_5 l0_5.length c0_5, .int .i64 (-1), .int .i64 (wrap64 ((l0_2.length : Int) - 1))] rfl gl_ ?_; (with_reducible refine (spec_l11Turns.calls kj20 _ _ l0_5 (-1) (wrap64 ((l0_2.length : Int) - 1)) false _ ?side1 ?side2 A28.out).mono ?_); (case side1 => exact cN (Kd.C_below HR0_5.out HB.out)); (case side2 => exact HC0_5.out); rintro e w' ⟨rfl, ⟨nd, rfl⟩⟩; refine ⟨_, rfl, ?_⟩))
             go_meet
             case rel => exact ⟨_, (true), (by first | rfl | (simp; done) | (simp [*]; done)), H', ⟨by have := HJ1.out; have := HJ12.out; have := HJ20.out; first | omega | exact Nat.le_refl _⟩, ⟨kN BK271.out⟩, ⟨by repeat (first | (with_reducible first | exact HB.out | apply below_alloc | apply pw_below_drewN | apply below_drew1 | refine below_set ?_ GE271.out) | exact HB.out)⟩⟩
           case rest =>
            clear HC27
            try clear c1
            try clear c2
            try clear p2
            try clear c3
            try clear c4
            try clear c6
            try clear p6
            try clear c10
            try clear c12
            try clear c16
            try clear c16b0
            try clear c16b1
            try clear c16b2
            try clear c20
            try clear c22
            try clear c22b0
            try clear c22b1
            try clear c22b2
            try clear c25
            try clear c26
            try clear c29
            try clear c31
            try clear hcz14_0
            try clear hcz14_1
            try clear hcz14_2
            try clear hcz14_3
            try clear hcz14_4
            try clear hcz14_5
            try clear hcz14_6
            try clear hcz14_7
            try clear hcz14_8
            try clear hcz14_9
            try clear hcz18_0
            try clear hcz18_1
            try clear hcz18_2
            try clear hcz18_3
            try clear hcz18_4
            try clear hcz18_5
            try clear hcz18_6
            try clear hcz18_7
            try clear hcz18_8
            try clear hcz18_9
            try clear hcz19_0
            try clear hcz19_1
            try clear hcz19_2
            try clear hcz19_3
            try clear hcz19_4
            try clear hcz19_5
            try clear hcz19_6
            try clear hcz19_7
            try clear hcz19_8
            try clear hcz19_9
            try clear hcz24_0
            try clear hcz24_1
            try clear hcz24_2
            try clear hcz24_3
            try clear hcz24_4
            try clear hcz24_5
            try clear hcz24_6
            try clear hcz24_7
            try clear hcz24_8
            try clear hcz24_9
            try clear hcz25_0
            try clear hcz25_1
            try clear hcz25_2
            try clear hcz25_3
            try clear hcz25_4
            try clear hcz25_5
            try clear hcz25_6
            try clear hcz25_7
            try clear hcz25_8
            try clear hcz25_9
            try clear hcz32_0
            try clear hcz32_1
            try clear hcz32_2
            try clear hcz32_3
            try clear hcz32_4
            try clear hcz32_5
            try clear hcz32_6
            try clear hcz32_7
            try clear hcz32_8
            try clear hcz32_9
            try clear hcz33_0
            try clear hcz33_1
            try clear hcz33_2
            try clear hcz33_3
            try clear hcz33_4
            try clear hcz33_5
            try clear hcz33_6
            try clear hcz33_7
            try clear hcz33_8
            try clear hcz33_9
            try clear hcz34_0
            try clear hcz34_1
            try clear hcz34_2
            try clear hcz34_3
            try clear hcz34_4
            try clear hcz34_5
            try clear hcz34_6
            try clear hcz34_7
            try clear hcz34_8
            try clear hcz34_9
            try clear hcz4_0
            try clear hcz4_1
            try clear hcz4_2
            try clear hcz4_3
            try clear hcz4_4
            try clear hcz4_5
            try clear hcz4_6
            try clear hcz4_7
            try clear hcz4_8
            try clear hcz4_9
            try clear hcz8_0
            try clear hcz8_1
            try clear hcz8_2
            try clear hcz8_3
            try clear hcz8_4
            try clear hcz8_5
            try clear hcz8_6
            try clear hcz8_7
            try clear hcz8_8
            try clear hcz8_9
            try clear hcz9_0
            try clear hcz9_1
            try clear hcz9_2
            try clear hcz9_3
            try clear hcz9_4
            try clear hcz9_5
            try clear hcz9_6
            try clear hcz9_7
            try clear hcz9_8
            try clear hcz9_9
            try clear hfz14_0
            try clear hfz14_1
            try clear hfz14_2
            try clear hfz14_3
            try clear hfz14_4
            try clear hfz14_5
            try clear hfz14_6
            try clear hfz14_7
            try clear hfz14_8
            try clear hfz14_9
            try clear hfz18_0
            try clear hfz18_1
            try clear hfz18_2
            try clear hfz18_3
            try clear hfz18_4
            try clear hfz18_5
            try clear hfz18_6
            try clear hfz18_7
            try clear hfz18_8
            try clear hfz18_9
            try clear hfz19_0
            try clear hfz19_1
            try clear hfz19_2
            try clear hfz19_3
            try clear hfz19_4
            try clear hfz19_5
            try clear hfz19_6
            try clear hfz19_7
            try clear hfz19_8
            try clear hfz19_9
            try clear hfz24_0
            try clear hfz24_1
            try clear hfz24_2
            try clear hfz24_3
            try clear hfz24_4
            try clear hfz24_5
            try clear hfz24_6
            try clear hfz24_7
            try clear hfz24_8
            try clear hfz24_9
            try clear hfz25_0
            try clear hfz25_1
            try clear hfz25_2
            try clear hfz25_3
            try clear hfz25_4
            try clear hfz25_5
            try clear hfz25_6
            try clear hfz25_7
            try clear hfz25_8
            try clear hfz25_9
            try clear hfz32_0
            try clear hfz32_1
            try clear hfz32_2
            try clear hfz32_3
            try clear hfz32_4
            try clear hfz32_5
            try clear hfz32_6
            try clear hfz32_7
            try clear hfz32_8
            try clear hfz32_9
            try clear hfz33_0
            try clear hfz33_1
            try clear hfz33_2
            try clear hfz33_3
            try clear hfz33_4
            try clear hfz33_5
            try clear hfz33_6
            try clear hfz33_7
            try clear hfz33_8
            try clear hfz33_9
            try clear hfz34_0
            try clear hfz34_1
            try clear hfz34_2
            try clear hfz34_3
            try clear hfz34_4
            try clear hfz34_5
            try clear hfz34_6
            try clear hfz34_7
            try clear hfz34_8
            try clear hfz34_9
            try clear hfz4_0
            try clear hfz4_1
            try clear hfz4_2
            try clear hfz4_3
            try clear hfz4_4
            try clear hfz4_5
            try clear hfz4_6
            try clear hfz4_7
            try clear hfz4_8
            try clear hfz4_9
            try clear hfz8_0
            try clear hfz8_1
            try clear hfz8_2
            try clear hfz8_3
            try clear hfz8_4
            try clear hfz8_5
            try clear hfz8_6
            try clear hfz8_7
            try clear hfz8_8
            try clear hfz8_9
            try clear hfz9_0
            try clear hfz9_1
            try clear hfz9_2
            try clear hfz9_3
            try clear hfz9_4
            try clear hfz9_5
            try clear hfz9_6
            try clear hfz9_7
            try clear hfz9_8
            try clear hfz9_9
            try clear p2
            obtain ⟨kq, x47_26, rfl, HA, HJ26, BK271, HB⟩ := hcut
            cases kq with
            | zero => exact absurd HA.out (by simp [spec_ConfCheck.j3])
            | succ kj26 =>
             have H := HA.out
             clear HA
             simp only [spec_ConfCheck.j3] at H
             by_cases c35 : x47_26 = true
             ·subst c35
              have H1 : (some 5) = some r := by rw [if_pos rfl] at H; exact H
              clear H
              have H := H1
              clear H1
              obtain rfl := Option.some.inj H
              go_wp2
              go_ret
              exact ⟨by first | rfl | (simp [errW_none, errW_some] <;> rfl) | (simp [*, errW_none, errW_some] <;> rfl), by repeat (first | (with_reducible first | exact HB.out | apply below_alloc | apply pw_below_drewN | apply below_drew1 | refine below_set ?_ GE271.out) | exact HB.out)⟩
             ·replace c35 := Bool.eq_false_iff.mpr c35
              subst c35
              have H1 : ((spec_l11Turns.f kj26 l0_7 0 (l0_2.length : Int)).bind fun t279 => (if t279 = true then ((spec_RulesOk.f kj26 l0_8).bind fun t280 => (if t280 = true then ((spec_l1In.f a0_9 0 9999).bind fun t281 => (if t281 = true then (some 0) else (some 8))) else (some 7))) else (some 6))) = some r := by rw [if_neg (show ¬ (false = true) by decide)] at H; exact H
              clear H
              have H := H1
              clear H1
              replace H := Option.bind_eq_some_iff.mp H
              obtain ⟨t279, A360, H⟩ := H
              replace H : (if t279 = true then ((spec_RulesOk.f kj26 l0_8).bind fun t280 => (if t280 = true then ((spec_l1In.f a0_9 0 9999).bind fun t281 => (if t281 = true then (some 0) else (some 8))) else (some 7))) else (some 6)) = some r := H
              have A36 := Aside0.mk A360
              clear A360
              by_cases c37 : t279 = true
              ·subst c37
               have H1 : ((spec_RulesOk.f kj26 l0_8).bind fun t280 => (if t280 = true then ((spec_l1In.f a0_9 0 9999).bind fun t281 => (if t281 = true then (some 0) else (some 8))) else (some 7))) = some r := by rw [if_pos rfl] at H; exact H
               clear H
               have H := H1
               clear H1
               replace H := Option.bind_eq_some_iff.mp H
               obtain ⟨t280, A380, H⟩ := H
               replace H : (if t280 = true then ((spec_l1In.f a0_9 0 9999).bind fun t281 => (if t281 = true then (some 0) else (some 8))) else (some 7)) = some r := H
               have A38 := Aside0.mk A380
               clear A380
               by_cases c39 : t280 = true
               ·subst c39
                have H1 : ((spec_l1In.f a0_9 0 9999).bind fun t281 => (if t281 = true then (some 0) else (some 8))) = some r := by rw [if_pos rfl] at H; exact H
                clear H
                have H := H1
                clear H1
                replace H := Option.bind_eq_some_iff.mp H
                obtain ⟨t281, A400, H⟩ := H
                replace H : (if t281 = true then (some 0) else (some 8)) = some r := H
                have A40 := Aside0.mk A400
                clear A400
                by_cases c41 : t281 = true
                ·subst c41
                 have H1 : (some 0) = some r := by rw [if_pos rfl] at H; exact H
                 clear H
                 have H := H1
                 clear H1
                 obtain rfl := Option.some.inj H
                 have hcz42_0 : wc.cell? ⟨gb271, 0, none⟩ = some (.int .i64 a0_0) := bc BK271 0
                 have hcz42_1 : wc.cell? ⟨gb271, 1, none⟩ = some (.int .i64 a0_1) := bc BK271 1
                 have hcz42_2 : wc.cell? ⟨gb271, 2, none⟩ = some (.slice A0_2 l0_2.length c0_2) := bc BK271 2
                 have hcz42_3 : wc.cell? ⟨gb271, 3, none⟩ = some (.slice A0_3 l0_3.length c0_3) := bc BK271 3
                 have hcz42_4 : wc.cell? ⟨gb271, 4, none⟩ = some (.slice A0_4 l0_4.length c0_4) := bc BK271 4
                 have hcz42_5 : wc.cell? ⟨gb271, 5, none⟩ = some (.slice A0_5 l0_5.length c0_5) := bc BK271 5
                 have hcz42_6 : wc.cell? ⟨gb271, 6, none⟩ = some (.slice A0_6 l0_6.length c0_6) := bc BK271 6
                 have hcz42_7 : wc.cell? ⟨gb271, 7, none⟩ = some (.slice A0_7 l0_7.length c0_7) := bc BK271 7
                 have hcz42_8 : wc.cell? ⟨gb271, 8, none⟩ = some (.slice A0_8 l0_8.length c0_8) := bc BK271 8
                 have hcz42_9 : wc.cell? ⟨gb271, 9, none⟩ = some (.int .i64 a0_9) := bc BK271 9
                 have hfz42_0 := blk_frozen BK271.out 0
                 have hfz42_1 := blk_frozen BK271.out 1
                 have hfz42_2 := blk_frozen BK271.out 2
                 have hfz42_3 := blk_frozen BK271.out 3
                 have hfz42_4 := blk_frozen BK271.out 4
                 have hfz42_5 := blk_frozen BK271.out 5
                 have hfz42_6 := blk_frozen BK271.out 6
                 have hfz42_7 := blk_frozen BK271.out 7
                 have hfz42_8 := blk_frozen BK271.out 8
                 have hfz42_9 := blk_frozen BK271.out 9
                 go_wp2_with (first | ((with_reducible refine gate_callee (f := 41) rfl ?_); refine goesL_ (some 75) rfl rfl Tryd.func41 (by kernel_rfl) rfl #[.slice A0_7 l0_7.length c0_7, .int .i64 0, .int .i64 (l0_2.length : Int)] rfl gl_ ?_; (with_reducible refine (spec_l11Turns.calls kj26 _ _ l0_7 0 (l0_2.length : Int) true _ ?side1 ?side2 A36.out).mono ?_); (case side1 => exact cN (Kd.C_below HR0_7.out HB.out)); (case side2 => exact HC0_7.out); rintro e w' ⟨rfl, ⟨nd, rfl⟩⟩; refine ⟨_, rfl, ?_⟩) | ((with_reducible refine gate_callee (f := 42) rfl ?_); refine goesL_ (some 80) rfl rfl Tryd.func42 (by kernel_rfl) rfl #[.slice A0_8 l0_8.length c0_8] rfl gl_ ?_; (with_reducible refine (spec_RulesOk.calls kj26 _ _ l0_8 true _ ?side1 ?side2 A38.out).mono ?_); (case side1 => exact cN (Kd.C_below HR0_8.out (bN HB.out))); (case side2 => exact HC0_8.out); rintro e w43 ⟨rfl, hb⟩; refine ⟨_, rfl, ?_⟩; have n0_ := m_ (blk_below (kN BK271.out) hb); have n1_ := m_ (below_step (bN HB.out) hb); clear BK271; clear HB; have BK271 := n0_; have HB := n1_; clear n0_ n1_; (try clear hb); (try clear hb2); (try clear hk); (try clear hi); have hcz44_0 : w43.cell? ⟨gb271, 0, none⟩ = some (.int .i64 a0_0) := bc BK271 0; have hcz44_1 : w43.cell? ⟨gb271, 1, none⟩ = some (.int .i64 a0_1) := bc BK271 1; have hcz44_2 : w43.cell? ⟨gb271, 2, none⟩ = some (.slice A0_2 l0_2.length c0_2) := bc BK271 2; have hcz44_3 : w43.cell? ⟨gb271, 3, none⟩ = some (.slice A0_3 l0_3.length c0_3) := bc BK271 3; have hcz44_4 : w43.cell? ⟨gb271, 4, none⟩ = some (.slice A0_4 l0_4.length c0_4) := bc BK271 4; have hcz44_5 : w43.cell? ⟨gb271, 5, none⟩ = some (.slice A0_5 l0_5.length c0_5) := bc BK271 5; have hcz44_6 : w43.cell? ⟨gb271, 6, none⟩ = some (.slice A0_6 l0_6.length c0_6) := bc BK271 6; have hcz44_7 : w43.cell? ⟨gb271, 7, none⟩ = some (.slice A0_7 l0_7.length c0_7) := bc BK271 7; have hcz44_8 : w43.cell? ⟨gb271, 8, none⟩ = some (.slice A0_8 l0_8.length c0_8) := bc BK271 8; have hcz44_9 : w43.cell? ⟨gb271, 9, none⟩ = some (.int .i64 a0_9) := bc BK271 9; have hfz44_0 := blk_frozen BK271.out 0; have hfz44_1 := blk_frozen BK271.out 1; have hfz44_2 := blk_frozen BK271.out 2; have hfz44_3 := blk_frozen BK271.out 3; have hfz44_4 := blk_frozen BK271.out 4; have hfz44_5 := blk_frozen BK271.out 5; have hfz44_6 := blk_frozen BK271.out 6; have hfz44_7 := blk_frozen BK271.out 7; have hfz44_8 := blk_frozen BK271.out 8; have hfz44_9 := blk_frozen BK271.out 9) | ((with_reducible refine gate_callee (f := 25) rfl ?_); refine goesL_ (some 85) rfl rfl Tryd.func25 (by kernel_rfl) rfl #[.int .i64 a0_9, .int .i64 0, .int .i64 9999] rfl gl_ ?_; (with_reducible refine (spec_l1In.calls a0_9 0 9999 true _ A40.out).mono ?_); rintro e w' ⟨rfl, ⟨nd, rfl⟩⟩; refine ⟨_, rfl, ?_⟩))
                 go_ret
                 exact ⟨by first | rfl | (simp [errW_none, errW_some] <;> rfl) | (simp [*, errW_none, errW_some] <;> rfl), by repeat (first | (with_reducible first | exact HB.out | apply below_alloc | apply pw_below_drewN | apply below_drew1 | refine below_set ?_ GE271.out) | exact HB.out)⟩
                ·replace c41 := Bool.eq_false_iff.mpr c41
                 subst c41
                 have H1 : (some 8) = some r := by rw [if_neg (show ¬ (false = true) by decide)] at H; exact H
                 clear H
                 have H := H1
                 clear H1
                 obtain rfl := Option.some.inj H
                 have hcz45_0 : wc.cell? ⟨gb271, 0, none⟩ = some (.int .i64 a0_0) := bc BK271 0
                 have hcz45_1 : wc.cell? ⟨gb271, 1, none⟩ = some (.int .i64 a0_1) := bc BK271 1
                 have hcz45_2 : wc.cell? ⟨gb271, 2, none⟩ = some (.slice A0_2 l0_2.length c0_2) := bc BK271 2
                 have hcz45_3 : wc.cell? ⟨gb271, 3, none⟩ = some (.slice A0_3 l0_3.length c0_3) := bc BK271 3
                 have hcz45_4 : wc.cell? ⟨gb271, 4, none⟩ = some (.slice A0_4 l0_4.length c0_4) := bc BK271 4
                 have hcz45_5 : wc.cell? ⟨gb271, 5, none⟩ = some (.slice A0_5 l0_5.length c0_5) := bc BK271 5
                 have hcz45_6 : wc.cell? ⟨gb271, 6, none⟩ = some (.slice A0_6 l0_6.length c0_6) := bc BK271 6
                 have hcz45_7 : wc.cell? ⟨gb271, 7, none⟩ = some (.slice A0_7 l0_7.length c0_7) := bc BK271 7
                 have hcz45_8 : wc.cell? ⟨gb271, 8, none⟩ = some (.slice A0_8 l0_8.length c0_8) := bc BK271 8
                 have hcz45_9 : wc.cell? ⟨gb271, 9, none⟩ = some (.int .i64 a0_9) := bc BK271 9
                 have hfz45_0 := blk_frozen BK271.out 0
                 have hfz45_1 := blk_frozen BK271.out 1
                 have hfz45_2 := blk_frozen BK271.out 2
                 have hfz45_3 := blk_frozen BK271.out 3
                 have hfz45_4 := blk_frozen BK271.out 4
                 have hfz45_5 := blk_frozen BK271.out 5
                 have hfz45_6 := blk_frozen BK271.out 6
                 have hfz45_7 := blk_frozen BK271.out 7
                 have hfz45_8 := blk_frozen BK271.out 8
                 have hfz45_9 := blk_frozen BK271.out 9
                 go_wp2_with (first | ((with_reducible refine gate_callee (f := 41) rfl ?_); refine goesL_ (some 75) rfl rfl Tryd.func41 (by kernel_rfl) rfl #[.slice A0_7 l0_7.length c0_7, .int .i64 0, .int .i64 (l0_2.length : Int)] rfl gl_ ?_; (with_reducible refine (spec_l11Turns.calls kj26 _ _ l0_7 0 (l0_2.length : Int) true _ ?side1 ?side2 A36.out).mono ?_); (case side1 => exact cN (Kd.C_below HR0_7.out HB.out)); (case side2 => exact HC0_7.out); rintro e w' ⟨rfl, ⟨nd, rfl⟩⟩; refine ⟨_, rfl, ?_⟩) | ((with_reducible refine gate_callee (f := 42) rfl ?_); refine goesL_ (some 80) rfl rfl Tryd.func42 (by kernel_rfl) rfl #[.slice A0_8 l0_8.length c0_8] rfl gl_ ?_; (with_reducible refine (spec_RulesOk.calls kj26 _ _ l0_8 true _ ?side1 ?side2 A38.out).mono ?_); (case side1 => exact cN (Kd.C_below HR0_8.out (bN HB.out))); (case side2 => exact HC0_8.out); rintro e w46 ⟨rfl, hb⟩; refine ⟨_, rfl, ?_⟩; have n0_ := m_ (blk_below (kN BK271.out) hb); have n1_ := m_ (below_step (bN HB.out) hb); clear BK271; clear HB; have BK271 := n0_; have HB := n1_; clear n0_ n1_; (try clear hb); (try clear hb2); (try clear hk); (try clear hi); have hcz47_0 : w46.cell? ⟨gb271, 0, none⟩ = some (.int .i64 a0_0) := bc BK271 0; have hcz47_1 : w46.cell? ⟨gb271, 1, none⟩ = some (.int .i64 a0_1) := bc BK271 1; have hcz47_2 : w46.cell? ⟨gb271, 2, none⟩ = some (.slice A0_2 l0_2.length c0_2) := bc BK271 2; have hcz47_3 : w46.cell? ⟨gb271, 3, none⟩ = some (.slice A0_3 l0_3.length c0_3) := bc BK271 3; have hcz47_4 : w46.cell? ⟨gb271, 4, none⟩ = some (.slice A0_4 l0_4.length c0_4) := bc BK271 4; have hcz47_5 : w46.cell? ⟨gb271, 5, none⟩ = some (.slice A0_5 l0_5.length c0_5) := bc BK271 5; have hcz47_6 : w46.cell? ⟨gb271, 6, none⟩ = some (.slice A0_6 l0_6.length c0_6) := bc BK271 6; have hcz47_7 : w46.cell? ⟨gb271, 7, none⟩ = some (.slice A0_7 l0_7.length c0_7) := bc BK271 7; have hcz47_8 : w46.cell? ⟨gb271, 8, none⟩ = some (.slice A0_8 l0_8.length c0_8) := bc BK271 8; have hcz47_9 : w46.cell? ⟨gb271, 9, none⟩ = some (.int .i64 a0_9) := bc BK271 9; have hfz47_0 := blk_frozen BK271.out 0; have hfz47_1 := blk_frozen BK271.out 1; have hfz47_2 := blk_frozen BK271.out 2; have hfz47_3 := blk_frozen BK271.out 3; have hfz47_4 := blk_frozen BK271.out 4; have hfz47_5 := blk_frozen BK271.out 5; have hfz47_6 := blk_frozen BK271.out 6; have hfz47_7 := blk_frozen BK271.out 7; have hfz47_8 := blk_frozen BK271.out 8; have hfz47_9 := blk_frozen BK271.out 9) | ((with_reducible refine gate_callee (f := 25) rfl ?_); refine goesL_ (some 85) rfl rfl Tryd.func25 (by kernel_rfl) rfl #[.int .i64 a0_9, .int .i64 0, .int .i64 9999] rfl gl_ ?_; (with_reducible refine (spec_l1In.calls a0_9 0 9999 false _ A40.out).mono ?_); rintro e w' ⟨rfl, ⟨nd, rfl⟩⟩; refine ⟨_, rfl, ?_⟩))
                 go_ret
                 exact ⟨by first | rfl | (simp [errW_none, errW_some] <;> rfl) | (simp [*, errW_none, errW_some] <;> rfl), by repeat (first | (with_reducible first | exact HB.out | apply below_alloc | apply pw_below_drewN | apply below_drew1 | refine below_set ?_ GE271.out) | exact HB.out)⟩
               ·replace c39 := Bool.eq_false_iff.mpr c39
                subst c39
                have H1 : (some 7) = some r := by rw [if_neg (show ¬ (false = true) by decide)] at H; exact H
                clear H
                have H := H1
                clear H1
                obtain rfl := Option.some.inj H
                have hcz48_0 : wc.cell? ⟨gb271, 0, none⟩ = some (.int .i64 a0_0) := bc BK271 0
                have hcz48_1 : wc.cell? ⟨gb271, 1, none⟩ = some (.int .i64 a0_1) := bc BK271 1
                have hcz48_2 : wc.cell? ⟨gb271, 2, none⟩ = some (.slice A0_2 l0_2.length c0_2) := bc BK271 2
                have hcz48_3 : wc.cell? ⟨gb271, 3, none⟩ = some (.slice A0_3 l0_3.length c0_3) := bc BK271 3
                have hcz48_4 : wc.cell? ⟨gb271, 4, none⟩ = some (.slice A0_4 l0_4.length c0_4) := bc BK271 4
                have hcz48_5 : wc.cell? ⟨gb271, 5, none⟩ = some (.slice A0_5 l0_5.length c0_5) := bc BK271 5
                have hcz48_6 : wc.cell? ⟨gb271, 6, none⟩ = some (.slice A0_6 l0_6.length c0_6) := bc BK271 6
                have hcz48_7 : wc.cell? ⟨gb271, 7, none⟩ = some (.slice A0_7 l0_7.length c0_7) := bc BK271 7
                have hcz48_8 : wc.cell? ⟨gb271, 8, none⟩ = some (.slice A0_8 l0_8.length c0_8) := bc BK271 8
                have hcz48_9 : wc.cell? ⟨gb271, 9, none⟩ = some (.int .i64 a0_9) := bc BK271 9
                have hfz48_0 := blk_frozen BK271.out 0
                have hfz48_1 := blk_frozen BK271.out 1
                have hfz48_2 := blk_frozen BK271.out 2
                have hfz48_3 := blk_frozen BK271.out 3
                have hfz48_4 := blk_frozen BK271.out 4
                have hfz48_5 := blk_frozen BK271.out 5
                have hfz48_6 := blk_frozen BK271.out 6
                have hfz48_7 := blk_frozen BK271.out 7
                have hfz48_8 := blk_frozen BK271.out 8
                have hfz48_9 := blk_frozen BK271.out 9
                go_wp2_with (first | ((with_reducible refine gate_callee (f := 41) rfl ?_); refine goesL_ (some 75) rfl rfl Tryd.func41 (by kernel_rfl) rfl #[.slice A0_7 l0_7.length c0_7, .int .i64 0, .int .i64 (l0_2.length : Int)] rfl gl_ ?_; (with_reducible refine (spec_l11Turns.calls kj26 _ _ l0_7 0 (l0_2.length : Int) true _ ?side1 ?side2 A36.out).mono ?_); (case side1 => exact cN (Kd.C_below HR0_7.out HB.out)); (case side2 => exact HC0_7.out); rintro e w' ⟨rfl, ⟨nd, rfl⟩⟩; refine ⟨_, rfl, ?_⟩) | ((with_reducible refine gate_callee (f := 42) rfl ?_); refine goesL_ (some 80) rfl rfl Tryd.func42 (by kernel_rfl) rfl #[.slice A0_8 l0_8.length c0_8] rfl gl_ ?_; (with_reducible refine (spec_RulesOk.calls kj26 _ _ l0_8 false _ ?side1 ?side2 A38.out).mono ?_); (case side1 => exact cN (Kd.C_below HR0_8.out (bN HB.out))); (case side2 => exact HC0_8.out); rintro e w49 ⟨rfl, hb⟩; refine ⟨_, rfl, ?_⟩; have n0_ := m_ (blk_below (kN BK271.out) hb); have n1_ := m_ (below_step (bN HB.out) hb); clear BK271; clear HB; have BK271 := n0_; have HB := n1_; clear n0_ n1_; (try clear hb); (try clear hb2); (try clear hk); (try clear hi)))
                go_ret
                exact ⟨by first | rfl | (simp [errW_none, errW_some] <;> rfl) | (simp [*, errW_none, errW_some] <;> rfl), by repeat (first | (with_reducible first | exact HB.out | apply below_alloc | apply pw_below_drewN | apply below_drew1 | refine below_set ?_ GE271.out) | exact HB.out)⟩
              ·replace c37 := Bool.eq_false_iff.mpr c37
               subst c37
               have H1 : (some 6) = some r := by rw [if_neg (show ¬ (false = true) by decide)] at H; exact H
               clear H
               have H := H1
               clear H1
               obtain rfl := Option.some.inj H
               have hcz50_0 : wc.cell? ⟨gb271, 0, none⟩ = some (.int .i64 a0_0) := bc BK271 0
               have hcz50_1 : wc.cell? ⟨gb271, 1, none⟩ = some (.int .i64 a0_1) := bc BK271 1
               have hcz50_2 : wc.cell? ⟨gb271, 2, none⟩ = some (.slice A0_2 l0_2.length c0_2) := bc BK271 2
               have hcz50_3 : wc.cell? ⟨gb271, 3, none⟩ = some (.slice A0_3 l0_3.length c0_3) := bc BK271 3
               have hcz50_4 : wc.cell? ⟨gb271, 4, none⟩ = some (.slice A0_4 l0_4.length c0_4) := bc BK271 4
               have hcz50_5 : wc.cell? ⟨gb271, 5, none⟩ = some (.slice A0_5 l0_5.length c0_5) := bc BK271 5
               have hcz50_6 : wc.cell? ⟨gb271, 6, none⟩ = some (.slice A0_6 l0_6.length c0_6) := bc BK271 6
               have hcz50_7 : wc.cell? ⟨gb271, 7, none⟩ = some (.slice A0_7 l0_7.length c0_7) := bc BK271 7
               have hcz50_8 : wc.cell? ⟨gb271, 8, none⟩ = some (.slice A0_8 l0_8.length c0_8) := bc BK271 8
               have hcz50_9 : wc.cell? ⟨gb271, 9, none⟩ = some (.int .i64 a0_9) := bc BK271 9
               have hfz50_0 := blk_frozen BK271.out 0
               have hfz50_1 := blk_frozen BK271.out 1
               have hfz50_2 := blk_frozen BK271.out 2
               have hfz50_3 := blk_frozen BK271.out 3
               have hfz50_4 := blk_frozen BK271.out 4
               have hfz50_5 := blk_frozen BK271.out 5
               have hfz50_6 := blk_frozen BK271.out 6
               have hfz50_7 := blk_frozen BK271.out 7
               have hfz50_8 := blk_frozen BK271.out 8
               have hfz50_9 := blk_frozen BK271.out 9
               go_wp2_with (first | ((with_reducible refine gate_callee (f := 41) rfl ?_); refine goesL_ (some 75) rfl rfl Tryd.func41 (by kernel_rfl) rfl #[.slice A0_7 l0_7.length c0_7, .int .i64 0, .int .i64 (l0_2.length : Int)] rfl gl_ ?_; (with_reducible refine (spec_l11Turns.calls kj26 _ _ l0_7 0 (l0_2.length : Int) false _ ?side1 ?side2 A36.out).mono ?_); (case side1 => exact cN (Kd.C_below HR0_7.out HB.out)); (case side2 => exact HC0_7.out); rintro e w' ⟨rfl, ⟨nd, rfl⟩⟩; refine ⟨_, rfl, ?_⟩))
               go_ret
               exact ⟨by first | rfl | (simp [errW_none, errW_some] <;> rfl) | (simp [*, errW_none, errW_some] <;> rfl), by repeat (first | (with_reducible first | exact HB.out | apply below_alloc | apply pw_below_drewN | apply below_drew1 | refine below_set ?_ GE271.out) | exact HB.out)⟩
    ·replace c12 := Bool.eq_false_iff.mpr c12
     subst c12
     have H1 : (some 2) = some r := by rw [if_neg (show ¬ (false = true) by decide)] at H; exact H
     clear H
     have H := H1
     clear H1
     obtain rfl := Option.some.inj H
     have hcz51_0 : wc.cell? ⟨gb271, 0, none⟩ = some (.int .i64 a0_0) := bc BK271 0
     have hcz51_1 : wc.cell? ⟨gb271, 1, none⟩ = some (.int .i64 a0_1) := bc BK271 1
     have hcz51_2 : wc.cell? ⟨gb271, 2, none⟩ = some (.slice A0_2 l0_2.length c0_2) := bc BK271 2
     have hcz51_3 : wc.cell? ⟨gb271, 3, none⟩ = some (.slice A0_3 l0_3.length c0_3) := bc BK271 3
     have hcz51_4 : wc.cell? ⟨gb271, 4, none⟩ = some (.slice A0_4 l0_4.length c0_4) := bc BK271 4
     have hcz51_5 : wc.cell? ⟨gb271, 5, none⟩ = some (.slice A0_5 l0_5.length c0_5) := bc BK271 5
     have hcz51_6 : wc.cell? ⟨gb271, 6, none⟩ = some (.slice A0_6 l0_6.length c0_6) := bc BK271 6
     have hcz51_7 : wc.cell? ⟨gb271, 7, none⟩ = some (.slice A0_7 l0_7.length c0_7) := bc BK271 7
     have hcz51_8 : wc.cell? ⟨gb271, 8, none⟩ = some (.slice A0_8 l0_8.length c0_8) := bc BK271 8
     have hcz51_9 : wc.cell? ⟨gb271, 9, none⟩ = some (.int .i64 a0_9) := bc BK271 9
     have hfz51_0 := blk_frozen BK271.out 0
     have hfz51_1 := blk_frozen BK271.out 1
     have hfz51_2 := blk_frozen BK271.out 2
     have hfz51_3 := blk_frozen BK271.out 3
     have hfz51_4 := blk_frozen BK271.out 4
     have hfz51_5 := blk_frozen BK271.out 5
     have hfz51_6 := blk_frozen BK271.out 6
     have hfz51_7 := blk_frozen BK271.out 7
     have hfz51_8 := blk_frozen BK271.out 8
     have hfz51_9 := blk_frozen BK271.out 9
     go_wp2_with (first | ((with_reducible refine gate_callee (f := 38) rfl ?_); refine goesL_ (some 21) rfl rfl Tryd.func38 (by kernel_rfl) rfl #[.slice A0_2 l0_2.length c0_2] rfl gl_ ?_; (with_reducible refine (spec_l11Progs.calls kj1 _ _ l0_2 false _ ?side1 ?side2 A11.out).mono ?_); (case side1 => exact cN (Kd.C_below HR0_2.out HB.out)); (case side2 => exact HC0_2.out); rintro e w52 ⟨rfl, hb⟩; refine ⟨_, rfl, ?_⟩; have n0_ := m_ (blk_below (kN BK271.out) hb); have n1_ := m_ (below_step (bN HB.out) hb); clear BK271; clear HB; have BK271 := n0_; have HB := n1_; clear n0_ n1_; (try clear hb); (try clear hb2); (try clear hk); (try clear hi)))
     go_ret
     exact ⟨by first | rfl | (simp [errW_none, errW_some] <;> rfl) | (simp [*, errW_none, errW_some] <;> rfl), by repeat (first | (with_reducible first | exact HB.out | apply below_alloc | apply pw_below_drewN | apply below_drew1 | refine below_set ?_ GE271.out) | exact HB.out)⟩

end Go.Proofs.YtcenmlpfbpogoaaDoor.P
