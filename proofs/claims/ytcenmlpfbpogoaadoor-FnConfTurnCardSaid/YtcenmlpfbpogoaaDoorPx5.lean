/- The machine side of these statements, function by function: what each Go function answers (as a Lean function), and that it does. Written by a program (mp.py) for this claim. -/
import Derived.Test.YtcenmlpfbpogoaaDoorPx0
import Derived.Test.YtcenmlpfbpogoaaDoorPx1
import Derived.Test.YtcenmlpfbpogoaaDoorPx2
import Derived.Test.YtcenmlpfbpogoaaDoorPx3
import Derived.Test.YtcenmlpfbpogoaaDoorPx4
namespace Go.Proofs.YtcenmlpfbpogoaaDoor.P
open Go.RowKit Go.Proofs.YtcenmlpfbpogoaaDoorW.PrintWords Go.Proofs.YtcenmlpfbpogoaaDoorW.PrintLast Go.Proofs.YtcenmlpfbpogoaaDoorW.PrintMore
attribute [local go_sem] max2_int min2_int max_two min_two max_three min_three max_four min_four   -- for this text's walks alone
set_option linter.unusedVariables false
set_option linter.unusedSimpArgs false

/-! ### impl_Conf_fault: function 37 -/
mutual
def impl_Conf_fault.j0 : Nat → Int → Bool → Int → Int → List (List (S107)) → List Int → List Int → List Int → List Int → List Int → List (S78) → Int → Option (Option Int)
 | 0, _, _, _, _, _, _, _, _, _, _, _, _ => none
 | k + 1, x3, x7, x133000, x133001, x133002, x133003, x133004, x133005, x133006, x133007, x133008, x133009 => if x7 = true then (some (some 1)) else ((impl_progsOk.f k x133002).bind fun t135 => (if t135 = true then ((impl_apidsOk.f k x133003 x3).bind fun t136 => (if t136 = true then (if (x133004.length : Int) = x3 then ((impl_allWithin.f k x133004 1 40).bind fun t137 => (impl_Conf_fault.j1 k x3 (!t137) x133000 x133001 x133002 x133003 x133004 x133005 x133006 x133007 x133008 x133009)) else (impl_Conf_fault.j1 k x3 true x133000 x133001 x133002 x133003 x133004 x133005 x133006 x133007 x133008 x133009)) else (some (some 3)))) else (some (some 2))))
def impl_Conf_fault.j1 : Nat → Int → Bool → Int → Int → List (List (S107)) → List Int → List Int → List Int → List Int → List Int → List (S78) → Int → Option (Option Int)
 | 0, _, _, _, _, _, _, _, _, _, _, _, _ => none
 | k + 1, x3, x35, x133000, x133001, x133002, x133003, x133004, x133005, x133006, x133007, x133008, x133009 => if x35 = true then (some (some 4)) else ((impl_turnsOk.f k x133005 x133006 x3).bind fun t138 => (if t138 = true then (if (x133007.length : Int) < 1 then (impl_Conf_fault.j2 k true x133000 x133001 x133002 x133003 x133004 x133005 x133006 x133007 x133008 x133009) else (if (x133007.length : Int) > 8 then (impl_Conf_fault.j2 k true x133000 x133001 x133002 x133003 x133004 x133005 x133006 x133007 x133008 x133009) else ((impl_allWithin.f k x133007 0 x3).bind fun t139 => (impl_Conf_fault.j2 k (!t139) x133000 x133001 x133002 x133003 x133004 x133005 x133006 x133007 x133008 x133009)))) else (some (some 5))))
def impl_Conf_fault.j2 : Nat → Bool → Int → Int → List (List (S107)) → List Int → List Int → List Int → List Int → List Int → List (S78) → Int → Option (Option Int)
 | 0, _, _, _, _, _, _, _, _, _, _, _ => none
 | k + 1, x59, x133000, x133001, x133002, x133003, x133004, x133005, x133006, x133007, x133008, x133009 => if x59 = true then (some (some 6)) else ((impl_RulesOk.f k x133008).bind fun t140 => (if t140 = true then ((impl_within.f x133009 9999).bind fun t141 => (if t141 = true then (some none) else (some (some 8)))) else (some (some 7))))
end
def impl_Conf_fault.f (k : Nat) (a0_0 : Int) (a0_1 : Int) (l0_2 : List (List (S107))) (l0_3 : List Int) (l0_4 : List Int) (l0_5 : List Int) (l0_6 : List Int) (l0_7 : List Int) (l0_8 : List (S78)) (a0_9 : Int) : Option (Option Int) := (impl_within.f a0_0 1023).bind fun t133 => (if t133 = true then ((impl_within.f a0_1 63).bind fun t134 => (impl_Conf_fault.j0 k (l0_2.length : Int) (!t134) a0_0 a0_1 l0_2 l0_3 l0_4 l0_5 l0_6 l0_7 l0_8 a0_9)) else (impl_Conf_fault.j0 k (l0_2.length : Int) true a0_0 a0_1 l0_2 l0_3 l0_4 l0_5 l0_6 l0_7 l0_8 a0_9))
theorem impl_Conf_fault.mono_l : ∀ k, (∀ y0 y1 y2 y3 y4 y5 y6 y7 y8 y9 y10 y11, LeO (impl_Conf_fault.j0 k y0 y1 y2 y3 y4 y5 y6 y7 y8 y9 y10 y11) (impl_Conf_fault.j0 (k + 1) y0 y1 y2 y3 y4 y5 y6 y7 y8 y9 y10 y11)) ∧ (∀ y0 y1 y2 y3 y4 y5 y6 y7 y8 y9 y10 y11, LeO (impl_Conf_fault.j1 k y0 y1 y2 y3 y4 y5 y6 y7 y8 y9 y10 y11) (impl_Conf_fault.j1 (k + 1) y0 y1 y2 y3 y4 y5 y6 y7 y8 y9 y10 y11)) ∧ (∀ y0 y1 y2 y3 y4 y5 y6 y7 y8 y9 y10, LeO (impl_Conf_fault.j2 k y0 y1 y2 y3 y4 y5 y6 y7 y8 y9 y10) (impl_Conf_fault.j2 (k + 1) y0 y1 y2 y3 y4 y5 y6 y7 y8 y9 y10))
 | 0 => ⟨fun _ _ _ _ _ _ _ _ _ _ _ _ r h => by simp [impl_Conf_fault.j0] at h, fun _ _ _ _ _ _ _ _ _ _ _ _ r h => by simp [impl_Conf_fault.j1] at h, fun _ _ _ _ _ _ _ _ _ _ _ r h => by simp [impl_Conf_fault.j2] at h⟩
 | k + 1 => by
  obtain ⟨ih0, ih1, ih2⟩ := impl_Conf_fault.mono_l k
  refine ⟨?_, ?_, ?_⟩
  ·intro y0 y1 y2 y3 y4 y5 y6 y7 y8 y9 y10 y11
   unfold impl_Conf_fault.j0
   repeat' first
   | (with_reducible exact ih0 _ _ _ _ _ _ _ _ _ _ _ _)
   | (with_reducible exact ih1 _ _ _ _ _ _ _ _ _ _ _ _)
   | (with_reducible exact ih2 _ _ _ _ _ _ _ _ _ _ _)
   | (with_reducible exact impl_RulesOk.mono _ _)
   | (with_reducible exact impl_allWithin.mono _ _ _ _)
   | (with_reducible exact impl_apidsOk.mono _ _ _)
   | (with_reducible exact impl_progsOk.mono _ _)
   | (with_reducible exact impl_turnsOk.mono _ _ _ _)
   | (with_reducible exact LeO.refl _)
   | (with_reducible exact LeO.none _)
   | (with_reducible refine LeO.ite ?_ ?_)
   | (with_reducible refine LeO.bind ?_ (fun _ => ?_))
   | exact ih0 _ _ _ _ _ _ _ _ _ _ _ _
   | exact ih1 _ _ _ _ _ _ _ _ _ _ _ _
   | exact ih2 _ _ _ _ _ _ _ _ _ _ _
   | exact impl_RulesOk.mono _ _
   | exact impl_allWithin.mono _ _ _ _
   | exact impl_apidsOk.mono _ _ _
   | exact impl_progsOk.mono _ _
   | exact impl_turnsOk.mono _ _ _ _
   | exact LeO.none _
   | refine LeO.ite ?_ ?_
   | refine LeO.bind ?_ (fun _ => ?_)
  ·intro y0 y1 y2 y3 y4 y5 y6 y7 y8 y9 y10 y11
   unfold impl_Conf_fault.j1
   repeat' first
   | (with_reducible exact ih0 _ _ _ _ _ _ _ _ _ _ _ _)
   | (with_reducible exact ih1 _ _ _ _ _ _ _ _ _ _ _ _)
   | (with_reducible exact ih2 _ _ _ _ _ _ _ _ _ _ _)
   | (with_reducible exact impl_RulesOk.mono _ _)
   | (with_reducible exact impl_allWithin.mono _ _ _ _)
   | (with_reducible exact impl_apidsOk.mono _ _ _)
   | (with_reducible exact impl_progsOk.mono _ _)
   | (with_reducible exact impl_turnsOk.mono _ _ _ _)
   | (with_reducible exact LeO.refl _)
   | (with_reducible exact LeO.none _)
   | (with_reducible refine LeO.ite ?_ ?_)
   | (with_reducible refine LeO.bind ?_ (fun _ => ?_))
   | exact ih0 _ _ _ _ _ _ _ _ _ _ _ _
   | exact ih1 _ _ _ _ _ _ _ _ _ _ _ _
   | exact ih2 _ _ _ _ _ _ _ _ _ _ _
   | exact impl_RulesOk.mono _ _
   | exact impl_allWithin.mono _ _ _ _
   | exact impl_apidsOk.mono _ _ _
   | exact impl_progsOk.mono _ _
   | exact impl_turnsOk.mono _ _ _ _
   | exact LeO.none _
   | refine LeO.ite ?_ ?_
   | refine LeO.bind ?_ (fun _ => ?_)
  ·intro y0 y1 y2 y3 y4 y5 y6 y7 y8 y9 y10
   unfold impl_Conf_fault.j2
   repeat' first
   | (with_reducible exact ih0 _ _ _ _ _ _ _ _ _ _ _ _)
   | (with_reducible exact ih1 _ _ _ _ _ _ _ _ _ _ _ _)
   | (with_reducible exact ih2 _ _ _ _ _ _ _ _ _ _ _)
   | (with_reducible exact impl_RulesOk.mono _ _)
   | (with_reducible exact impl_allWithin.mono _ _ _ _)
   | (with_reducible exact impl_apidsOk.mono _ _ _)
   | (with_reducible exact impl_progsOk.mono _ _)
   | (with_reducible exact impl_turnsOk.mono _ _ _ _)
   | (with_reducible exact LeO.refl _)
   | (with_reducible exact LeO.none _)
   | (with_reducible refine LeO.ite ?_ ?_)
   | (with_reducible refine LeO.bind ?_ (fun _ => ?_))
   | exact ih0 _ _ _ _ _ _ _ _ _ _ _ _
   | exact ih1 _ _ _ _ _ _ _ _ _ _ _ _
   | exact ih2 _ _ _ _ _ _ _ _ _ _ _
   | exact impl_RulesOk.mono _ _
   | exact impl_allWithin.mono _ _ _ _
   | exact impl_apidsOk.mono _ _ _
   | exact impl_progsOk.mono _ _
   | exact impl_turnsOk.mono _ _ _ _
   | exact LeO.none _
   | refine LeO.ite ?_ ?_
   | refine LeO.bind ?_ (fun _ => ?_)
theorem impl_Conf_fault.mono : ∀ a0 a1 a2 a3 a4 a5 a6 a7 a8 a9 k, LeO (impl_Conf_fault.f k a0 a1 a2 a3 a4 a5 a6 a7 a8 a9) (impl_Conf_fault.f (k + 1) a0 a1 a2 a3 a4 a5 a6 a7 a8 a9) := by
 intro a0 a1 a2 a3 a4 a5 a6 a7 a8 a9 k
 obtain ⟨ih0, ih1, ih2⟩ := impl_Conf_fault.mono_l k
 unfold impl_Conf_fault.f
 repeat' first
   | (with_reducible exact ih0 _ _ _ _ _ _ _ _ _ _ _ _)
   | (with_reducible exact ih1 _ _ _ _ _ _ _ _ _ _ _ _)
   | (with_reducible exact ih2 _ _ _ _ _ _ _ _ _ _ _)
   | (with_reducible exact impl_RulesOk.mono _ _)
   | (with_reducible exact impl_allWithin.mono _ _ _ _)
   | (with_reducible exact impl_apidsOk.mono _ _ _)
   | (with_reducible exact impl_progsOk.mono _ _)
   | (with_reducible exact impl_turnsOk.mono _ _ _ _)
   | (with_reducible exact LeO.refl _)
   | (with_reducible exact LeO.none _)
   | (with_reducible refine LeO.ite ?_ ?_)
   | (with_reducible refine LeO.bind ?_ (fun _ => ?_))
   | exact ih0 _ _ _ _ _ _ _ _ _ _ _ _
   | exact ih1 _ _ _ _ _ _ _ _ _ _ _ _
   | exact ih2 _ _ _ _ _ _ _ _ _ _ _
   | exact impl_RulesOk.mono _ _
   | exact impl_allWithin.mono _ _ _ _
   | exact impl_apidsOk.mono _ _ _
   | exact impl_progsOk.mono _ _
   | exact impl_turnsOk.mono _ _ _ _
   | exact LeO.none _
   | refine LeO.ite ?_ ?_
   | refine LeO.bind ?_ (fun _ => ?_)
set_option maxHeartbeats 8000000 in
set_option maxRecDepth 100000 in
theorem impl_Conf_fault.calls (k : Nat) (a0_0 : Int) (a0_1 : Int) (A0_2 : Option Addr) (c0_2 : Nat) (l0_2 : List (List (S107))) (A0_3 : Option Addr) (c0_3 : Nat) (l0_3 : List Int) (A0_4 : Option Addr) (c0_4 : Nat) (l0_4 : List Int) (A0_5 : Option Addr) (c0_5 : Nat) (l0_5 : List Int) (A0_6 : Option Addr) (c0_6 : Nat) (l0_6 : List Int) (A0_7 : Option Addr) (c0_7 : Nat) (l0_7 : List Int) (A0_8 : Option Addr) (c0_8 : Nat) (l0_8 : List (S78)) (a0_9 : Int) (r : Option Int) (w : World) (hr0_2 : Kd.C (Kd.slice 107 k107) w A0_2 l0_2.length l0_2) (hc0_2 : l0_2.length ≤ c0_2) (hr0_3 : Kd.C (Kd.int .i64) w A0_3 l0_3.length l0_3) (hc0_3 : l0_3.length ≤ c0_3) (hr0_4 : Kd.C (Kd.int .i64) w A0_4 l0_4.length l0_4) (hc0_4 : l0_4.length ≤ c0_4) (hr0_5 : Kd.C (Kd.int .i64) w A0_5 l0_5.length l0_5) (hc0_5 : l0_5.length ≤ c0_5) (hr0_6 : Kd.C (Kd.int .i64) w A0_6 l0_6.length l0_6) (hc0_6 : l0_6.length ≤ c0_6) (hr0_7 : Kd.C (Kd.int .i64) w A0_7 l0_7.length l0_7) (hc0_7 : l0_7.length ≤ c0_7) (hr0_8 : Kd.C k78 w A0_8 l0_8.length l0_8) (hc0_8 : l0_8.length ≤ c0_8) (h : impl_Conf_fault.f k a0_0 a0_1 l0_2 l0_3 l0_4 l0_5 l0_6 l0_7 l0_8 a0_9 = some r) :
  Calls Tryd.prog 37 #[.agg #[.int .i64 a0_0, .int .i64 a0_1, .slice A0_2 l0_2.length c0_2, .slice A0_3 l0_3.length c0_3, .slice A0_4 l0_4.length c0_4, .slice A0_5 l0_5.length c0_5, .slice A0_6 l0_6.length c0_6, .slice A0_7 l0_7.length c0_7, .slice A0_8 l0_8.length c0_8, .int .i64 a0_9]] w fun e w' => e = .returned (errW r) ∧ Below w.heap.size w w' := by
 have hu32 := Tryd.underlying32
 have hu101 := Tryd.underlying101
 have hu64 := Tryd.underlying64
 have HR0_2 := Aside0.mk hr0_2
 have HC0_2 := Aside0.mk hc0_2
 clear hr0_2 hc0_2
 have HR0_3 := Aside0.mk hr0_3
 have HC0_3 := Aside0.mk hc0_3
 clear hr0_3 hc0_3
 have HR0_4 := Aside0.mk hr0_4
 have HC0_4 := Aside0.mk hc0_4
 clear hr0_4 hc0_4
 have HR0_5 := Aside0.mk hr0_5
 have HC0_5 := Aside0.mk hc0_5
 clear hr0_5 hc0_5
 have HR0_6 := Aside0.mk hr0_6
 have HC0_6 := Aside0.mk hc0_6
 clear hr0_6 hc0_6
 have HR0_7 := Aside0.mk hr0_7
 have HC0_7 := Aside0.mk hc0_7
 clear hr0_7 hc0_7
 have HR0_8 := Aside0.mk hr0_8
 have HC0_8 := Aside0.mk hc0_8
 clear hr0_8 hc0_8
 have HB := m_ (Below.refl w.heap.size w)
 have H : ((impl_within.f a0_0 1023).bind fun t133 => (if t133 = true then ((impl_within.f a0_1 63).bind fun t134 => (impl_Conf_fault.j0 k (l0_2.length : Int) (!t134) a0_0 a0_1 l0_2 l0_3 l0_4 l0_5 l0_6 l0_7 l0_8 a0_9)) else (impl_Conf_fault.j0 k (l0_2.length : Int) true a0_0 a0_1 l0_2 l0_3 l0_4 l0_5 l0_6 l0_7 l0_8 a0_9))) = some r := h
 clear h
 have HC2 := Aside0.mk H
 clear H
 go_enter Tryd.func37, Tryd.ntmps37
 go_upto_region 2 with (first | ((with_reducible refine gate_dst (N := 1) rfl ?_); (try (refine gate_guard (by rfl) ?_; dsimp only)); refine box_event ?hg (N := 1) ?hd (cs := #[.int .i64 a0_0, .int .i64 a0_1, .slice A0_2 l0_2.length c0_2, .slice A0_3 l0_3.length c0_3, .slice A0_4 l0_4.length c0_4, .slice A0_5 l0_5.length c0_5, .slice A0_6 l0_6.length c0_6, .slice A0_7 l0_7.length c0_7, .slice A0_8 l0_8.length c0_8, .int .i64 a0_9]) (t := 32) ?hr ?_; (case hd => rfl); (case hg => rfl); (case hr => first | (go_simp; done) | (go_simp; rfl)); intro gb132 hg w3 hbox hb; have n0_ := m_ (below_step (bN HB.out) hb); have n1_ := m_ (hbox); have n2_ := m_ ((by rw [hg]; exact (below_size (bN HB.out)) : w.heap.size ≤ gb132)); have n3_ := m_ ((by rw [hg]; exact (below_size (bN HB.out)) : w.heap.size ≤ gb132)); clear HB; have HB := n0_; have BK132 := n1_; have GW132 := n2_; have GE132 := n3_; clear n0_ n1_ n2_ n3_ hb hbox hg; obtain ⟨⟨hcz4_0, hcz4_1, hcz4_2, hcz4_3, hcz4_4, hcz4_5, hcz4_6, hcz4_7, hcz4_8, hcz4_9⟩, hfz4_0, hfz4_1, hfz4_2, hfz4_3, hfz4_4, hfz4_5, hfz4_6, hfz4_7, hfz4_8, hfz4_9⟩ := row10 BK132.out))
 (try simp only [Act.put, List.setIfInBounds_toArray, List.set_cons_zero, List.set_cons_succ])
 go_cut [7] (fun v7 wc => ∃ (kq : Nat) (x7_1 : Bool), v7 = .bool x7_1 ∧ Aside0 (impl_Conf_fault.j0 kq (l0_2.length : Int) x7_1 a0_0 a0_1 l0_2 l0_3 l0_4 l0_5 l0_6 l0_7 l0_8 a0_9 = some r) ∧ Aside0 (kq ≤ k) ∧ Aside0 (wc.heap[gb132]? = some (.cells #[.int .i64 a0_0, .int .i64 a0_1, (.slice A0_2 l0_2.length c0_2), (.slice A0_3 l0_3.length c0_3), (.slice A0_4 l0_4.length c0_4), (.slice A0_5 l0_5.length c0_5), (.slice A0_6 l0_6.length c0_6), (.slice A0_7 l0_7.length c0_7), (.slice A0_8 l0_8.length c0_8), .int .i64 a0_9] 32 (0, 0))) ∧ Aside0 (Below w.heap.size w wc))
 case first =>
  have H := HC2.out
  clear HC2
  replace H := Option.bind_eq_some_iff.mp H
  obtain ⟨t133, A50, H⟩ := H
  replace H : (if t133 = true then ((impl_within.f a0_1 63).bind fun t134 => (impl_Conf_fault.j0 k (l0_2.length : Int) (!t134) a0_0 a0_1 l0_2 l0_3 l0_4 l0_5 l0_6 l0_7 l0_8 a0_9)) else (impl_Conf_fault.j0 k (l0_2.length : Int) true a0_0 a0_1 l0_2 l0_3 l0_4 l0_5 l0_6 l0_7 l0_8 a0_9)) = some r := H
  have A5 := Aside0.mk A50
  clear A50
  by_cases c6 : t133 = true
  ·subst c6
   have H1 : ((impl_within.f a0_1 63).bind fun t134 => (impl_Conf_fault.j0 k (l0_2.length : Int) (!t134) a0_0 a0_1 l0_2 l0_3 l0_4 l0_5 l0_6 l0_7 l0_8 a0_9)) = some r := by rw [if_pos rfl] at H; exact H
   clear H
   have H := H1
   clear H1
   replace H := Option.bind_eq_some_iff.mp H
   obtain ⟨t134, A70, H⟩ := H
   replace H : (impl_Conf_fault.j0 k (l0_2.length : Int) (!t134) a0_0 a0_1 l0_2 l0_3 l0_4 l0_5 l0_6 l0_7 l0_8 a0_9) = some r := H
   have A7 := Aside0.mk A70
   clear A70
   have H' := Aside0.mk H
   clear H
   obtain ⟨⟨hcz8_0, hcz8_1, hcz8_2, hcz8_3, hcz8_4, hcz8_5, hcz8_6, hcz8_7, hcz8_8, hcz8_9⟩, hfz8_0, hfz8_1, hfz8_2, hfz8_3, hfz8_4, hfz8_5, hfz8_6, hfz8_7, hfz8_8, hfz8_9⟩ := row10 BK132.out
   go_wp2_with (first | ((with_reducible refine gate_callee (f := 30) rfl ?_); refine goesL_ (some 10) rfl rfl Tryd.func30 (by kernel_rfl) rfl #[.int .i64 a0_0, .int .i64 1023] rfl gl_ ?_; (with_reducible refine (impl_within.calls a0_0 1023 true _ A5.out).mono ?_); rintro e w' ⟨rfl, ⟨nd, rfl⟩⟩; refine ⟨_, rfl, ?_⟩) | (go_at_call 30; (with_reducible refine (impl_within.calls a0_1 63 t134 _ A7.out).mono ?_); rintro e w' ⟨rfl, ⟨nd, rfl⟩⟩))
   go_meet
   case rel => exact ⟨_, (!t134), (by first | rfl | (simp; done) | (simp [*]; done)), H', ⟨by first | omega | exact Nat.le_refl _⟩, ⟨kN BK132.out⟩, ⟨(hB1 HB.out GE132.out)⟩⟩
  ·replace c6 := Bool.eq_false_iff.mpr c6
   subst c6
   have H1 : (impl_Conf_fault.j0 k (l0_2.length : Int) true a0_0 a0_1 l0_2 l0_3 l0_4 l0_5 l0_6 l0_7 l0_8 a0_9) = some r := by rw [if_neg (show ¬ (false = true) by decide)] at H; exact H
   clear H
   have H := H1
   clear H1
   have H' := Aside0.mk H
   clear H
   obtain ⟨⟨hcz9_0, hcz9_1, hcz9_2, hcz9_3, hcz9_4, hcz9_5, hcz9_6, hcz9_7, hcz9_8, hcz9_9⟩, hfz9_0, hfz9_1, hfz9_2, hfz9_3, hfz9_4, hfz9_5, hfz9_6, hfz9_7, hfz9_8, hfz9_9⟩ := row10 BK132.out
   go_wp2_with (first | ((with_reducible refine gate_callee (f := 30) rfl ?_); refine goesL_ (some 10) rfl rfl Tryd.func30 (by kernel_rfl) rfl #[.int .i64 a0_0, .int .i64 1023] rfl gl_ ?_; (with_reducible refine (impl_within.calls a0_0 1023 false _ A5.out).mono ?_); rintro e w' ⟨rfl, ⟨nd, rfl⟩⟩; refine ⟨_, rfl, ?_⟩))
   go_meet
   case rel => exact ⟨_, (true), (by first | rfl | (simp; done) | (simp [*]; done)), H', ⟨by first | omega | exact Nat.le_refl _⟩, ⟨kN BK132.out⟩, ⟨(hB1 HB.out GE132.out)⟩⟩
 case rest =>
  clear HC2
  try clear p2
  try clear c3
  try clear c6
  obtain ⟨kq, x7_1, rfl, HA, HJ1, BK132, HB⟩ := hcut
  cases kq with
  | zero => exact absurd HA.out (by simp [impl_Conf_fault.j0])
  | succ kj1 =>
   have H := HA.out
   clear HA
   simp only [impl_Conf_fault.j0] at H
   by_cases c10 : x7_1 = true
   ·subst c10
    have H1 : (some (some 1)) = some r := by rw [if_pos rfl] at H; exact H
    clear H
    have H := H1
    clear H1
    obtain rfl := Option.some.inj H
    go_wp2
    go_ret
    exact ⟨rf_, (hB1 HB.out GE132.out)⟩
   ·replace c10 := Bool.eq_false_iff.mpr c10
    subst c10
    have H1 : ((impl_progsOk.f kj1 l0_2).bind fun t135 => (if t135 = true then ((impl_apidsOk.f kj1 l0_3 (l0_2.length : Int)).bind fun t136 => (if t136 = true then (if (l0_4.length : Int) = (l0_2.length : Int) then ((impl_allWithin.f kj1 l0_4 1 40).bind fun t137 => (impl_Conf_fault.j1 kj1 (l0_2.length : Int) (!t137) a0_0 a0_1 l0_2 l0_3 l0_4 l0_5 l0_6 l0_7 l0_8 a0_9)) else (impl_Conf_fault.j1 kj1 (l0_2.length : Int) true a0_0 a0_1 l0_2 l0_3 l0_4 l0_5 l0_6 l0_7 l0_8 a0_9)) else (some (some 3)))) else (some (some 2)))) = some r := by rw [if_neg (show ¬ (false = true) by decide)] at H; exact H
    clear H
    have H := H1
    clear H1
    replace H := Option.bind_eq_some_iff.mp H
    obtain ⟨t135, A110, H⟩ := H
    replace H : (if t135 = true then ((impl_apidsOk.f kj1 l0_3 (l0_2.length : Int)).bind fun t136 => (if t136 = true then (if (l0_4.length : Int) = (l0_2.length : Int) then ((impl_allWithin.f kj1 l0_4 1 40).bind fun t137 => (impl_Conf_fault.j1 kj1 (l0_2.length : Int) (!t137) a0_0 a0_1 l0_2 l0_3 l0_4 l0_5 l0_6 l0_7 l0_8 a0_9)) else (impl_Conf_fault.j1 kj1 (l0_2.length : Int) true a0_0 a0_1 l0_2 l0_3 l0_4 l0_5 l0_6 l0_7 l0_8 a0_9)) else (some (some 3)))) else (some (some 2))) = some r := H
    have A11 := Aside0.mk A110
    clear A110
    by_cases c12 : t135 = true
    ·subst c12
     have H1 : ((impl_apidsOk.f kj1 l0_3 (l0_2.length : Int)).bind fun t136 => (if t136 = true then (if (l0_4.length : Int) = (l0_2.length : Int) then ((impl_allWithin.f kj1 l0_4 1 40).bind fun t137 => (impl_Conf_fault.j1 kj1 (l0_2.length : Int) (!t137) a0_0 a0_1 l0_2 l0_3 l0_4 l0_5 l0_6 l0_7 l0_8 a0_9)) else (impl_Conf_fault.j1 kj1 (l0_2.length : Int) true a0_0 a0_1 l0_2 l0_3 l0_4 l0_5 l0_6 l0_7 l0_8 a0_9)) else (some (some 3)))) = some r := by rw [if_pos rfl] at H; exact H
     clear H
     have H := H1
     clear H1
     replace H := Option.bind_eq_some_iff.mp H
     obtain ⟨t136, A130, H⟩ := H
     replace H : (if t136 = true then (if (l0_4.length : Int) = (l0_2.length : Int) then ((impl_allWithin.f kj1 l0_4 1 40).bind fun t137 => (impl_Conf_fault.j1 kj1 (l0_2.length : Int) (!t137) a0_0 a0_1 l0_2 l0_3 l0_4 l0_5 l0_6 l0_7 l0_8 a0_9)) else (impl_Conf_fault.j1 kj1 (l0_2.length : Int) true a0_0 a0_1 l0_2 l0_3 l0_4 l0_5 l0_6 l0_7 l0_8 a0_9)) else (some (some 3))) = some r := H
     have A13 := Aside0.mk A130
     clear A130
     by_cases c14 : t136 = true
     ·subst c14
      have H1 : (if (l0_4.length : Int) = (l0_2.length : Int) then ((impl_allWithin.f kj1 l0_4 1 40).bind fun t137 => (impl_Conf_fault.j1 kj1 (l0_2.length : Int) (!t137) a0_0 a0_1 l0_2 l0_3 l0_4 l0_5 l0_6 l0_7 l0_8 a0_9)) else (impl_Conf_fault.j1 kj1 (l0_2.length : Int) true a0_0 a0_1 l0_2 l0_3 l0_4 l0_5 l0_6 l0_7 l0_8 a0_9)) = some r := by rw [if_pos rfl] at H; exact H
      clear H
      have H := H1
      clear H1
      have HC15 := Aside0.mk H
      clear H
      obtain ⟨⟨hcz16_0, hcz16_1, hcz16_2, hcz16_3, hcz16_4, hcz16_5, hcz16_6, hcz16_7, hcz16_8, hcz16_9⟩, hfz16_0, hfz16_1, hfz16_2, hfz16_3, hfz16_4, hfz16_5, hfz16_6, hfz16_7, hfz16_8, hfz16_9⟩ := row10 BK132.out
      go_upto_region 8 with (first | ((with_reducible refine gate_callee (f := 58) rfl ?_); refine goesL_ (some 23) rfl rfl Tryd.func58 (by kernel_rfl) rfl #[.slice A0_2 l0_2.length c0_2] rfl gl_ ?_; (with_reducible refine (impl_progsOk.calls kj1 _ _ l0_2 true _ ?side1 ?side2 A11.out).mono ?_); (case side1 => exact cN (Kd.C_below HR0_2.out HB.out)); (case side2 => exact HC0_2.out); rintro e w17 ⟨rfl, hb⟩; refine ⟨_, rfl, ?_⟩; have n0_ := m_ (blk_below (kN BK132.out) hb); have n1_ := m_ (below_step (bN HB.out) hb); clear BK132 HB; have BK132 := n0_; have HB := n1_; clear n0_ n1_; (try clear hb); (try clear hb2); (try clear hk); (try clear hi); obtain ⟨⟨hcz18_0, hcz18_1, hcz18_2, hcz18_3, hcz18_4, hcz18_5, hcz18_6, hcz18_7, hcz18_8, hcz18_9⟩, hfz18_0, hfz18_1, hfz18_2, hfz18_3, hfz18_4, hfz18_5, hfz18_6, hfz18_7, hfz18_8, hfz18_9⟩ := row10 BK132.out) | ((with_reducible refine gate_callee (f := 59) rfl ?_); refine goesL_ (some 31) rfl rfl Tryd.func59 (by kernel_rfl) rfl #[.slice A0_3 l0_3.length c0_3, .int .i64 (l0_2.length : Int)] rfl gl_ ?_; (with_reducible refine (impl_apidsOk.calls kj1 _ _ l0_3 (l0_2.length : Int) true _ ?side1 ?side2 A13.out).mono ?_); (case side1 => exact cN (Kd.C_below HR0_3.out HB.out)); (case side2 => exact HC0_3.out); rintro e w' ⟨rfl, ⟨nd, rfl⟩⟩; refine ⟨_, rfl, ?_⟩))
      (try simp only [Act.put, List.setIfInBounds_toArray, List.set_cons_zero, List.set_cons_succ])
      go_cut [35] (fun v35 wc => ∃ (kq : Nat) (x35_14 : Bool), v35 = .bool x35_14 ∧ Aside0 (impl_Conf_fault.j1 kq (l0_2.length : Int) x35_14 a0_0 a0_1 l0_2 l0_3 l0_4 l0_5 l0_6 l0_7 l0_8 a0_9 = some r) ∧ Aside0 (kq ≤ kj1) ∧ Aside0 (wc.heap[gb132]? = some (.cells #[.int .i64 a0_0, .int .i64 a0_1, (.slice A0_2 l0_2.length c0_2), (.slice A0_3 l0_3.length c0_3), (.slice A0_4 l0_4.length c0_4), (.slice A0_5 l0_5.length c0_5), (.slice A0_6 l0_6.length c0_6), (.slice A0_7 l0_7.length c0_7), (.slice A0_8 l0_8.length c0_8), .int .i64 a0_9] 32 (0, 0))) ∧ Aside0 (Below w.heap.size w wc))
      case first =>
       have H := HC15.out
       clear HC15
       by_cases c19 : (l0_4.length : Int) = (l0_2.length : Int)
       ·rw [if_pos c19] at H
        have c19b0 : ((l0_4.length : Int) == (l0_2.length : Int)) = true := beq_iff_eq.mpr c19
        have c19b1 : ((l0_4.length : Int) != (l0_2.length : Int)) = false := bne_eq_false_iff_eq.mpr c19
        have c19b2 : (l0_4.length == l0_2.length) = true := by first | simpa using c19 | (simp at c19 ⊢; omega)
        clear c19
        (first | rw [c19b0] | (simp only [i64_w, i32_w]; rw [c19b0]) | skip)
        replace H := Option.bind_eq_some_iff.mp H
        obtain ⟨t137, A200, H⟩ := H
        replace H : (impl_Conf_fault.j1 kj1 (l0_2.length : Int) (!t137) a0_0 a0_1 l0_2 l0_3 l0_4 l0_5 l0_6 l0_7 l0_8 a0_9) = some r := H
        have A20 := Aside0.mk A200
        clear A200
        have H' := Aside0.mk H
        clear H
        obtain ⟨⟨hcz21_0, hcz21_1, hcz21_2, hcz21_3, hcz21_4, hcz21_5, hcz21_6, hcz21_7, hcz21_8, hcz21_9⟩, hfz21_0, hfz21_1, hfz21_2, hfz21_3, hfz21_4, hfz21_5, hfz21_6, hfz21_7, hfz21_8, hfz21_9⟩ := row10 BK132.out
        go_wp2_with (first | (go_at_call 60; (with_reducible refine (impl_allWithin.calls kj1 _ _ l0_4 1 40 t137 _ ?side1 ?side2 A20.out).mono ?_); (case side1 => exact cN (Kd.C_below HR0_4.out HB.out)); (case side2 => exact HC0_4.out); rintro e w' ⟨rfl, ⟨nd, rfl⟩⟩))
        go_meet
        case rel => exact ⟨_, (!t137), (by first | rfl | (simp; done) | (simp [*]; done)), H', ⟨by have := HJ1.out; first | omega | exact Nat.le_refl _⟩, ⟨kN BK132.out⟩, ⟨(hB1 HB.out GE132.out)⟩⟩
       ·rw [if_neg c19] at H
        have c19b0 : ((l0_4.length : Int) == (l0_2.length : Int)) = false := beq_eq_false_iff_ne.mpr c19
        have c19b1 : ((l0_4.length : Int) != (l0_2.length : Int)) = true := bne_iff_ne.mpr c19
        have c19b2 : (l0_4.length == l0_2.length) = false := by first | simpa using c19 | (simp at c19 ⊢; omega)
        (first | rw [c19b0] | (simp only [i64_w, i32_w]; rw [c19b0]) | skip)
        have H' := Aside0.mk H
        clear H
        obtain ⟨⟨hcz22_0, hcz22_1, hcz22_2, hcz22_3, hcz22_4, hcz22_5, hcz22_6, hcz22_7, hcz22_8, hcz22_9⟩, hfz22_0, hfz22_1, hfz22_2, hfz22_3, hfz22_4, hfz22_5, hfz22_6, hfz22_7, hfz22_8, hfz22_9⟩ := row10 BK132.out
        go_wp2
        go_meet
        case rel => exact ⟨_, (true), (by first | rfl | (simp; done) | (simp [*]; done)), H', ⟨by have := HJ1.out; first | omega | exact Nat.le_refl _⟩, ⟨kN BK132.out⟩, ⟨(hB1 HB.out GE132.out)⟩⟩
      case rest =>
       clear HC15
       try clear c1
       try clear p2
       try clear c3
       try clear c5
       try clear c6
       try clear c10
       try clear c12
       try clear c14
       try clear c19
       try clear c19b0
       try clear c19b1
       try clear c19b2
       try clear p2
       obtain ⟨kq, x35_14, rfl, HA, HJ14, BK132, HB⟩ := hcut
       cases kq with
       | zero => exact absurd HA.out (by simp [impl_Conf_fault.j1])
       | succ kj14 =>
        have H := HA.out
        clear HA
        simp only [impl_Conf_fault.j1] at H
        by_cases c23 : x35_14 = true
        ·subst c23
         have H1 : (some (some 4)) = some r := by rw [if_pos rfl] at H; exact H
         clear H
         have H := H1
         clear H1
         obtain rfl := Option.some.inj H
         go_wp2
         go_ret
         exact ⟨rf_, (hB1 HB.out GE132.out)⟩
        ·replace c23 := Bool.eq_false_iff.mpr c23
         subst c23
         have H1 : ((impl_turnsOk.f kj14 l0_5 l0_6 (l0_2.length : Int)).bind fun t138 => (if t138 = true then (if (l0_7.length : Int) < 1 then (impl_Conf_fault.j2 kj14 true a0_0 a0_1 l0_2 l0_3 l0_4 l0_5 l0_6 l0_7 l0_8 a0_9) else (if (l0_7.length : Int) > 8 then (impl_Conf_fault.j2 kj14 true a0_0 a0_1 l0_2 l0_3 l0_4 l0_5 l0_6 l0_7 l0_8 a0_9) else ((impl_allWithin.f kj14 l0_7 0 (l0_2.length : Int)).bind fun t139 => (impl_Conf_fault.j2 kj14 (!t139) a0_0 a0_1 l0_2 l0_3 l0_4 l0_5 l0_6 l0_7 l0_8 a0_9)))) else (some (some 5)))) = some r := by rw [if_neg (show ¬ (false = true) by decide)] at H; exact H
         clear H
         have H := H1
         clear H1
         replace H := Option.bind_eq_some_iff.mp H
         obtain ⟨t138, A240, H⟩ := H
         replace H : (if t138 = true then (if (l0_7.length : Int) < 1 then (impl_Conf_fault.j2 kj14 true a0_0 a0_1 l0_2 l0_3 l0_4 l0_5 l0_6 l0_7 l0_8 a0_9) else (if (l0_7.length : Int) > 8 then (impl_Conf_fault.j2 kj14 true a0_0 a0_1 l0_2 l0_3 l0_4 l0_5 l0_6 l0_7 l0_8 a0_9) else ((impl_allWithin.f kj14 l0_7 0 (l0_2.length : Int)).bind fun t139 => (impl_Conf_fault.j2 kj14 (!t139) a0_0 a0_1 l0_2 l0_3 l0_4 l0_5 l0_6 l0_7 l0_8 a0_9)))) else (some (some 5))) = some r := H
         have A24 := Aside0.mk A240
         clear A240
         by_cases c25 : t138 = true
         ·subst c25
          have H1 : (if (l0_7.length : Int) < 1 then (impl_Conf_fault.j2 kj14 true a0_0 a0_1 l0_2 l0_3 l0_4 l0_5 l0_6 l0_7 l0_8 a0_9) else (if (l0_7.length : Int) > 8 then (impl_Conf_fault.j2 kj14 true a0_0 a0_1 l0_2 l0_3 l0_4 l0_5 l0_6 l0_7 l0_8 a0_9) else ((impl_allWithin.f kj14 l0_7 0 (l0_2.length : Int)).bind fun t139 => (impl_Conf_fault.j2 kj14 (!t139) a0_0 a0_1 l0_2 l0_3 l0_4 l0_5 l0_6 l0_7 l0_8 a0_9)))) = some r := by rw [if_pos rfl] at H; exact H
          clear H
          have H := H1
          clear H1
          have HC26 := Aside0.mk H
          clear H
          obtain ⟨⟨hcz27_0, hcz27_1, hcz27_2, hcz27_3, hcz27_4, hcz27_5, hcz27_6, hcz27_7, hcz27_8, hcz27_9⟩, hfz27_0, hfz27_1, hfz27_2, hfz27_3, hfz27_4, hfz27_5, hfz27_6, hfz27_7, hfz27_8, hfz27_9⟩ := row10 BK132.out
          go_upto_region 12 with (first | ((with_reducible refine gate_callee (f := 61) rfl ?_); refine goesL_ (some 55) rfl rfl Tryd.func61 (by kernel_rfl) rfl #[.slice A0_5 l0_5.length c0_5, .slice A0_6 l0_6.length c0_6, .int .i64 (l0_2.length : Int)] rfl gl_ ?_; (with_reducible refine (impl_turnsOk.calls kj14 _ _ l0_5 _ _ l0_6 (l0_2.length : Int) true _ ?side1 ?side2 ?side3 ?side4 A24.out).mono ?_); (case side1 => exact cN (Kd.C_below HR0_5.out HB.out)); (case side2 => exact HC0_5.out); (case side3 => exact cN (Kd.C_below HR0_6.out HB.out)); (case side4 => exact HC0_6.out); rintro e w' ⟨rfl, ⟨nd, rfl⟩⟩; refine ⟨_, rfl, ?_⟩))
          (try simp only [Act.put, List.setIfInBounds_toArray, List.set_cons_zero, List.set_cons_succ])
          go_cut [59] (fun v59 wc => ∃ (kq : Nat) (x59_25 : Bool), v59 = .bool x59_25 ∧ Aside0 (impl_Conf_fault.j2 kq x59_25 a0_0 a0_1 l0_2 l0_3 l0_4 l0_5 l0_6 l0_7 l0_8 a0_9 = some r) ∧ Aside0 (kq ≤ kj14) ∧ Aside0 (wc.heap[gb132]? = some (.cells #[.int .i64 a0_0, .int .i64 a0_1, (.slice A0_2 l0_2.length c0_2), (.slice A0_3 l0_3.length c0_3), (.slice A0_4 l0_4.length c0_4), (.slice A0_5 l0_5.length c0_5), (.slice A0_6 l0_6.length c0_6), (.slice A0_7 l0_7.length c0_7), (.slice A0_8 l0_8.length c0_8), .int .i64 a0_9] 32 (0, 0))) ∧ Aside0 (Below w.heap.size w wc))
          case first =>
           have H := HC26.out
           clear HC26
           by_cases c28 : (l0_7.length : Int) < 1
           ·rw [if_pos c28] at H
            have c28b0 : decide ((l0_7.length : Int) < 1) = true := decide_eq_true c28
            have c28b1 : decide (l0_7.length < 1) = true := decide_eq_true (by omega)
            clear c28
            (first | rw [c28b0] | (simp only [i64_w, i32_w]; rw [c28b0]) | skip)
            have H' := Aside0.mk H
            clear H
            obtain ⟨⟨hcz29_0, hcz29_1, hcz29_2, hcz29_3, hcz29_4, hcz29_5, hcz29_6, hcz29_7, hcz29_8, hcz29_9⟩, hfz29_0, hfz29_1, hfz29_2, hfz29_3, hfz29_4, hfz29_5, hfz29_6, hfz29_7, hfz29_8, hfz29_9⟩ := row10 BK132.out
            go_wp2
            go_meet
            case rel => exact ⟨_, (true), (by first | rfl | (simp; done) | (simp [*]; done)), H', ⟨by have := HJ1.out; have := HJ14.out; first | omega | exact Nat.le_refl _⟩, ⟨kN BK132.out⟩, ⟨(hB1 HB.out GE132.out)⟩⟩
           ·rw [if_neg c28] at H
            have c28b0 : decide ((l0_7.length : Int) < 1) = false := decide_eq_false c28
            have c28b1 : decide (l0_7.length < 1) = false := decide_eq_false (by omega)
            clear c28
            (first | rw [c28b0] | (simp only [i64_w, i32_w]; rw [c28b0]) | skip)
            by_cases c30 : (l0_7.length : Int) > 8
            ·rw [if_pos c30] at H
             have c30b0 : decide (8 < (l0_7.length : Int)) = true := decide_eq_true c30
             have c30b1 : decide (8 < l0_7.length) = true := decide_eq_true (by omega)
             clear c30
             have H' := Aside0.mk H
             clear H
             obtain ⟨⟨hcz31_0, hcz31_1, hcz31_2, hcz31_3, hcz31_4, hcz31_5, hcz31_6, hcz31_7, hcz31_8, hcz31_9⟩, hfz31_0, hfz31_1, hfz31_2, hfz31_3, hfz31_4, hfz31_5, hfz31_6, hfz31_7, hfz31_8, hfz31_9⟩ := row10 BK132.out
             go_wp2
             go_meet
             case rel => exact ⟨_, (true), (by first | rfl | (simp; done) | (simp [*]; done)), H', ⟨by have := HJ1.out; have := HJ14.out; first | omega | exact Nat.le_refl _⟩, ⟨kN BK132.out⟩, ⟨(hB1 HB.out GE132.out)⟩⟩
            ·rw [if_neg c30] at H
             have c30b0 : decide (8 < (l0_7.length : Int)) = false := decide_eq_false c30
             have c30b1 : decide (8 < l0_7.length) = false := decide_eq_false (by omega)
             clear c30
             replace H := Option.bind_eq_some_iff.mp H
             obtain ⟨t139, A320, H⟩ := H
             replace H : (impl_Conf_fault.j2 kj14 (!t139) a0_0 a0_1 l0_2 l0_3 l0_4 l0_5 l0_6 l0_7 l0_8 a0_9) = some r := H
             have A32 := Aside0.mk A320
             clear A320
             have H' := Aside0.mk H
             clear H
             obtain ⟨⟨hcz33_0, hcz33_1, hcz33_2, hcz33_3, hcz33_4, hcz33_5, hcz33_6, hcz33_7, hcz33_8, hcz33_9⟩, hfz33_0, hfz33_1, hfz33_2, hfz33_3, hfz33_4, hfz33_5, hfz33_6, hfz33_7, hfz33_8, hfz33_9⟩ := row10 BK132.out
             go_wp2_with (first | (go_at_call 60; (with_reducible refine (impl_allWithin.calls kj14 _ _ l0_7 0 (l0_2.length : Int) t139 _ ?side1 ?side2 A32.out).mono ?_); (case side1 => exact cN (Kd.C_below HR0_7.out HB.out)); (case side2 => exact HC0_7.out); rintro e w' ⟨rfl, ⟨nd, rfl⟩⟩))
             go_meet
             case rel => exact ⟨_, (!t139), (by first | rfl | (simp; done) | (simp [*]; done)), H', ⟨by have := HJ1.out; have := HJ14.out; first | omega | exact Nat.le_refl _⟩, ⟨kN BK132.out⟩, ⟨(hB1 HB.out GE132.out)⟩⟩
          case rest =>
           clear HC26
           try clear c1
           try clear c2
           try clear p2
           try clear c3
           try clear c5
           try clear c6
           try clear c10
           try clear c12
           try clear c14
           try clear c19
           try clear c19b0
           try clear c19b1
           try clear c19b2
           try clear c23
           try clear c25
           try clear c28
           try clear c28b0
           try clear c28b1
           try clear c30
           try clear c30b0
           try clear c30b1
           try clear p2
           obtain ⟨kq, x59_25, rfl, HA, HJ25, BK132, HB⟩ := hcut
           cases kq with
           | zero => exact absurd HA.out (by simp [impl_Conf_fault.j2])
           | succ kj25 =>
            have H := HA.out
            clear HA
            simp only [impl_Conf_fault.j2] at H
            by_cases c34 : x59_25 = true
            ·subst c34
             have H1 : (some (some 6)) = some r := by rw [if_pos rfl] at H; exact H
             clear H
             have H := H1
             clear H1
             obtain rfl := Option.some.inj H
             go_wp2
             go_ret
             exact ⟨rf_, (hB1 HB.out GE132.out)⟩
            ·replace c34 := Bool.eq_false_iff.mpr c34
             subst c34
             have H1 : ((impl_RulesOk.f kj25 l0_8).bind fun t140 => (if t140 = true then ((impl_within.f a0_9 9999).bind fun t141 => (if t141 = true then (some none) else (some (some 8)))) else (some (some 7)))) = some r := by rw [if_neg (show ¬ (false = true) by decide)] at H; exact H
             clear H
             have H := H1
             clear H1
             replace H := Option.bind_eq_some_iff.mp H
             obtain ⟨t140, A350, H⟩ := H
             replace H : (if t140 = true then ((impl_within.f a0_9 9999).bind fun t141 => (if t141 = true then (some none) else (some (some 8)))) else (some (some 7))) = some r := H
             have A35 := Aside0.mk A350
             clear A350
             by_cases c36 : t140 = true
             ·subst c36
              have H1 : ((impl_within.f a0_9 9999).bind fun t141 => (if t141 = true then (some none) else (some (some 8)))) = some r := by rw [if_pos rfl] at H; exact H
              clear H
              have H := H1
              clear H1
              replace H := Option.bind_eq_some_iff.mp H
              obtain ⟨t141, A370, H⟩ := H
              replace H : (if t141 = true then (some none) else (some (some 8))) = some r := H
              have A37 := Aside0.mk A370
              clear A370
              by_cases c38 : t141 = true
              ·subst c38
               have H1 : (some none) = some r := by rw [if_pos rfl] at H; exact H
               clear H
               have H := H1
               clear H1
               obtain rfl := Option.some.inj H
               obtain ⟨⟨hcz39_0, hcz39_1, hcz39_2, hcz39_3, hcz39_4, hcz39_5, hcz39_6, hcz39_7, hcz39_8, hcz39_9⟩, hfz39_0, hfz39_1, hfz39_2, hfz39_3, hfz39_4, hfz39_5, hfz39_6, hfz39_7, hfz39_8, hfz39_9⟩ := row10 BK132.out
               go_wp2_with (first | ((with_reducible refine gate_callee (f := 62) rfl ?_); refine goesL_ (some 82) rfl rfl Tryd.func62 (by kernel_rfl) rfl #[.slice A0_8 l0_8.length c0_8] rfl gl_ ?_; (with_reducible refine (impl_RulesOk.calls kj25 _ _ l0_8 true _ ?side1 ?side2 A35.out).mono ?_); (case side1 => exact cN (Kd.C_below HR0_8.out HB.out)); (case side2 => exact HC0_8.out); rintro e w40 ⟨rfl, hb⟩; refine ⟨_, rfl, ?_⟩; have n0_ := m_ (blk_below (kN BK132.out) hb); have n1_ := m_ (below_step (bN HB.out) hb); clear BK132 HB; have BK132 := n0_; have HB := n1_; clear n0_ n1_; (try clear hb); (try clear hb2); (try clear hk); (try clear hi); obtain ⟨⟨hcz41_0, hcz41_1, hcz41_2, hcz41_3, hcz41_4, hcz41_5, hcz41_6, hcz41_7, hcz41_8, hcz41_9⟩, hfz41_0, hfz41_1, hfz41_2, hfz41_3, hfz41_4, hfz41_5, hfz41_6, hfz41_7, hfz41_8, hfz41_9⟩ := row10 BK132.out) | ((with_reducible refine gate_callee (f := 30) rfl ?_); refine goesL_ (some 89) rfl rfl Tryd.func30 (by kernel_rfl) rfl #[.int .i64 a0_9, .int .i64 9999] rfl gl_ ?_; (with_reducible refine (impl_within.calls a0_9 9999 true _ A37.out).mono ?_); rintro e w' ⟨rfl, ⟨nd, rfl⟩⟩; refine ⟨_, rfl, ?_⟩))
               go_ret
               exact ⟨rf_, (hB1 HB.out GE132.out)⟩
              ·replace c38 := Bool.eq_false_iff.mpr c38
               subst c38
               have H1 : (some (some 8)) = some r := by rw [if_neg (show ¬ (false = true) by decide)] at H; exact H
               clear H
               have H := H1
               clear H1
               obtain rfl := Option.some.inj H
               obtain ⟨⟨hcz42_0, hcz42_1, hcz42_2, hcz42_3, hcz42_4, hcz42_5, hcz42_6, hcz42_7, hcz42_8, hcz42_9⟩, hfz42_0, hfz42_1, hfz42_2, hfz42_3, hfz42_4, hfz42_5, hfz42_6, hfz42_7, hfz42_8, hfz42_9⟩ := row10 BK132.out
               go_wp2_with (first | ((with_reducible refine gate_callee (f := 62) rfl ?_); refine goesL_ (some 82) rfl rfl Tryd.func62 (by kernel_rfl) rfl #[.slice A0_8 l0_8.length c0_8] rfl gl_ ?_; (with_reducible refine (impl_RulesOk.calls kj25 _ _ l0_8 true _ ?side1 ?side2 A35.out).mono ?_); (case side1 => exact cN (Kd.C_below HR0_8.out HB.out)); (case side2 => exact HC0_8.out); rintro e w43 ⟨rfl, hb⟩; refine ⟨_, rfl, ?_⟩; have n0_ := m_ (blk_below (kN BK132.out) hb); have n1_ := m_ (below_step (bN HB.out) hb); clear BK132 HB; have BK132 := n0_; have HB := n1_; clear n0_ n1_; (try clear hb); (try clear hb2); (try clear hk); (try clear hi); obtain ⟨⟨hcz44_0, hcz44_1, hcz44_2, hcz44_3, hcz44_4, hcz44_5, hcz44_6, hcz44_7, hcz44_8, hcz44_9⟩, hfz44_0, hfz44_1, hfz44_2, hfz44_3, hfz44_4, hfz44_5, hfz44_6, hfz44_7, hfz44_8, hfz44_9⟩ := row10 BK132.out) | ((with_reducible refine gate_callee (f := 30) rfl ?_); refine goesL_ (some 89) rfl rfl Tryd.func30 (by kernel_rfl) rfl #[.int .i64 a0_9, .int .i64 9999] rfl gl_ ?_; (with_reducible refine (impl_within.calls a0_9 9999 false _ A37.out).mono ?_); rintro e w' ⟨rfl, ⟨nd, rfl⟩⟩; refine ⟨_, rfl, ?_⟩))
               go_ret
               exact ⟨rf_, (hB1 HB.out GE132.out)⟩
             ·replace c36 := Bool.eq_false_iff.mpr c36
              subst c36
              have H1 : (some (some 7)) = some r := by rw [if_neg (show ¬ (false = true) by decide)] at H; exact H
              clear H
              have H := H1
              clear H1
              obtain rfl := Option.some.inj H
              obtain ⟨⟨hcz45_0, hcz45_1, hcz45_2, hcz45_3, hcz45_4, hcz45_5, hcz45_6, hcz45_7, hcz45_8, hcz45_9⟩, hfz45_0, hfz45_1, hfz45_2, hfz45_3, hfz45_4, hfz45_5, hfz45_6, hfz45_7, hfz45_8, hfz45_9⟩ := row10 BK132.out
              go_wp2_with (first | ((with_reducible refine gate_callee (f := 62) rfl ?_); refine goesL_ (some 82) rfl rfl Tryd.func62 (by kernel_rfl) rfl #[.slice A0_8 l0_8.length c0_8] rfl gl_ ?_; (with_reducible refine (impl_RulesOk.calls kj25 _ _ l0_8 false _ ?side1 ?side2 A35.out).mono ?_); (case side1 => exact cN (Kd.C_below HR0_8.out HB.out)); (case side2 => exact HC0_8.out); rintro e w46 ⟨rfl, hb⟩; refine ⟨_, rfl, ?_⟩; have n0_ := m_ (blk_below (kN BK132.out) hb); have n1_ := m_ (below_step (bN HB.out) hb); clear BK132 HB; have BK132 := n0_; have HB := n1_; clear n0_ n1_; (try clear hb); (try clear hb2); (try clear hk); (try clear hi)))
              go_ret
              exact ⟨rf_, (hB1 HB.out GE132.out)⟩
         ·replace c25 := Bool.eq_false_iff.mpr c25
          subst c25
          have H1 : (some (some 5)) = some r := by rw [if_neg (show ¬ (false = true) by decide)] at H; exact H
          clear H
          have H := H1
          clear H1
          obtain rfl := Option.some.inj H
          obtain ⟨⟨hcz47_0, hcz47_1, hcz47_2, hcz47_3, hcz47_4, hcz47_5, hcz47_6, hcz47_7, hcz47_8, hcz47_9⟩, hfz47_0, hfz47_1, hfz47_2, hfz47_3, hfz47_4, hfz47_5, hfz47_6, hfz47_7, hfz47_8, hfz47_9⟩ := row10 BK132.out
          go_wp2_with (first | ((with_reducible refine gate_callee (f := 61) rfl ?_); refine goesL_ (some 55) rfl rfl Tryd.func61 (by kernel_rfl) rfl #[.slice A0_5 l0_5.length c0_5, .slice A0_6 l0_6.length c0_6, .int .i64 (l0_2.length : Int)] rfl gl_ ?_; (with_reducible refine (impl_turnsOk.calls kj14 _ _ l0_5 _ _ l0_6 (l0_2.length : Int) false _ ?side1 ?side2 ?side3 ?side4 A24.out).mono ?_); (case side1 => exact cN (Kd.C_below HR0_5.out HB.out)); (case side2 => exact HC0_5.out); (case side3 => exact cN (Kd.C_below HR0_6.out HB.out)); (case side4 => exact HC0_6.out); rintro e w' ⟨rfl, ⟨nd, rfl⟩⟩; refine ⟨_, rfl, ?_⟩))
          go_ret
          exact ⟨rf_, (hB1 HB.out GE132.out)⟩
     ·replace c14 := Bool.eq_false_iff.mpr c14
      subst c14
      have H1 : (some (some 3)) = some r := by rw [if_neg (show ¬ (false = true) by decide)] at H; exact H
      clear H
      have H := H1
      clear H1
      obtain rfl := Option.some.inj H
      obtain ⟨⟨hcz48_0, hcz48_1, hcz48_2, hcz48_3, hcz48_4, hcz48_5, hcz48_6, hcz48_7, hcz48_8, hcz48_9⟩, hfz48_0, hfz48_1, hfz48_2, hfz48_3, hfz48_4, hfz48_5, hfz48_6, hfz48_7, hfz48_8, hfz48_9⟩ := row10 BK132.out
      go_wp2_with (first | ((with_reducible refine gate_callee (f := 58) rfl ?_); refine goesL_ (some 23) rfl rfl Tryd.func58 (by kernel_rfl) rfl #[.slice A0_2 l0_2.length c0_2] rfl gl_ ?_; (with_reducible refine (impl_progsOk.calls kj1 _ _ l0_2 true _ ?side1 ?side2 A11.out).mono ?_); (case side1 => exact cN (Kd.C_below HR0_2.out HB.out)); (case side2 => exact HC0_2.out); rintro e w49 ⟨rfl, hb⟩; refine ⟨_, rfl, ?_⟩; have n0_ := m_ (blk_below (kN BK132.out) hb); have n1_ := m_ (below_step (bN HB.out) hb); clear BK132 HB; have BK132 := n0_; have HB := n1_; clear n0_ n1_; (try clear hb); (try clear hb2); (try clear hk); (try clear hi); obtain ⟨⟨hcz50_0, hcz50_1, hcz50_2, hcz50_3, hcz50_4, hcz50_5, hcz50_6, hcz50_7, hcz50_8, hcz50_9⟩, hfz50_0, hfz50_1, hfz50_2, hfz50_3, hfz50_4, hfz50_5, hfz50_6, hfz50_7, hfz50_8, hfz50_9⟩ := row10 BK132.out) | ((with_reducible refine gate_callee (f := 59) rfl ?_); refine goesL_ (some 31) rfl rfl Tryd.func59 (by kernel_rfl) rfl #[.slice A0_3 l0_3.length c0_3, .int .i64 (l0_2.length : Int)] rfl gl_ ?_; (with_reducible refine (impl_apidsOk.calls kj1 _ _ l0_3 (l0_2.length : Int) false _ ?side1 ?side2 A13.out).mono ?_); (case side1 => exact cN (Kd.C_below HR0_3.out HB.out)); (case side2 => exact HC0_3.out); rintro e w' ⟨rfl, ⟨nd, rfl⟩⟩; refine ⟨_, rfl, ?_⟩))
      go_ret
      exact ⟨rf_, (hB1 HB.out GE132.out)⟩
    ·replace c12 := Bool.eq_false_iff.mpr c12
     subst c12
     have H1 : (some (some 2)) = some r := by rw [if_neg (show ¬ (false = true) by decide)] at H; exact H
     clear H
     have H := H1
     clear H1
     obtain rfl := Option.some.inj H
     obtain ⟨⟨hcz51_0, hcz51_1, hcz51_2, hcz51_3, hcz51_4, hcz51_5, hcz51_6, hcz51_7, hcz51_8, hcz51_9⟩, hfz51_0, hfz51_1, hfz51_2, hfz51_3, hfz51_4, hfz51_5, hfz51_6, hfz51_7, hfz51_8, hfz51_9⟩ := row10 BK132.out
     go_wp2_with (first | ((with_reducible refine gate_callee (f := 58) rfl ?_); refine goesL_ (some 23) rfl rfl Tryd.func58 (by kernel_rfl) rfl #[.slice A0_2 l0_2.length c0_2] rfl gl_ ?_; (with_reducible refine (impl_progsOk.calls kj1 _ _ l0_2 false _ ?side1 ?side2 A11.out).mono ?_); (case side1 => exact cN (Kd.C_below HR0_2.out HB.out)); (case side2 => exact HC0_2.out); rintro e w52 ⟨rfl, hb⟩; refine ⟨_, rfl, ?_⟩; have n0_ := m_ (blk_below (kN BK132.out) hb); have n1_ := m_ (below_step (bN HB.out) hb); clear BK132 HB; have BK132 := n0_; have HB := n1_; clear n0_ n1_; (try clear hb); (try clear hb2); (try clear hk); (try clear hi)))
     go_ret
     exact ⟨rf_, (hB1 HB.out GE132.out)⟩

end Go.Proofs.YtcenmlpfbpogoaaDoor.P
