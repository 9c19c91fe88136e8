/- The machine side of these statements, function by function: what each Go function answers (as a Lean function), and that it does. Written by a program (mp.py) for this claim. -/
import Derived.Test.YtlfhbpofboicbaaPx0
import Derived.Test.YtlfhbpofboicbaaPx1
import Derived.Test.YtlfhbpofboicbaaPx4
import Derived.Test.YtlfhbpofboicbaaPx7
import Derived.Test.YtlfhbpofboicbaaPx8
import Derived.Test.YtlfhbpofboicbaaPx9
import Derived.Test.YtlfhbpofboicbaaPx10
namespace Go.Proofs.Ytlfhbpofboicbaa.P
open Go.RowKit Go.Proofs.YtlfhbpofboicbaaW.PrintWords Go.Proofs.YtlfhbpofboicbaaW.PrintLast Go.Proofs.YtlfhbpofboicbaaW.PrintMore
attribute [local go_sem] max2_int min2_int max_two min_two max_three min_three max_four min_four   -- for this text's walks alone
set_option linter.unusedVariables false
set_option linter.unusedSimpArgs false

attribute [local go_sem high] eqA26
/-! ### laws_FnDownBack: function 6 -/
mutual
def laws_FnDownBack.j0 : Nat → List Int → List Int → Bool → Option (Bool)
 | 0, _, _, _ => none
 | k + 1, x0, x1, x21 => if x21 = true then (some true) else ((spec_DrawDownPut.f k x0).bind fun bt310 => ((impl_DownPut.f k bt310.1 bt310.2.1 bt310.2.2.1 bt310.2.2.2.1 bt310.2.2.2.2.1 bt310.2.2.2.2.2.1 bt310.2.2.2.2.2.2).bind fun t318 => ((impl_DownGet.f k t318).bind fun bt319 => ((spec_DownPut.f k bt310.1 bt310.2.1 bt310.2.2.1 bt310.2.2.2.1 bt310.2.2.2.2.1 bt310.2.2.2.2.2.1 bt310.2.2.2.2.2.2).bind fun t328 => (if t318.toList = t328.toList then (if (bt319.2.2.2.2.2.2.2 != (t318.toList != ([] : List UInt8))) = true then (laws_FnDownBack.j1 k x1 true) else (if bt319.2.2.2.2.2.2.2 = true then (if (!(bt319.1 == bt310.1) || (!(bt319.2.1 == bt310.2.1) || (!(bt319.2.2.1 == bt310.2.2.1) || (!(bt319.2.2.2.1 == bt310.2.2.2.1) || (!(bt319.2.2.2.2.1 == bt310.2.2.2.2.1) || (!(bt319.2.2.2.2.2.1.toList == bt310.2.2.2.2.2.1.toList) || (!(bt319.2.2.2.2.2.2.1.toList == bt310.2.2.2.2.2.2.toList)))))))) = true then (laws_FnDownBack.j1 k x1 true) else (laws_FnDownBack.j1 k x1 ((t318.size : Int) != 40))) else (laws_FnDownBack.j1 k x1 false))) else (laws_FnDownBack.j1 k x1 true))))))
def laws_FnDownBack.j1 : Nat → List Int → Bool → Option (Bool)
 | 0, _, _ => none
 | k + 1, x1, x53 => if x53 = true then (some false) else ((spec_DrawDownGet.f k x1).bind fun t329 => ((impl_DownGet.f k t329).bind fun bt330 => ((spec_DownGet.f k t329).bind fun bt339 => (if (bt330.1 == bt339.1 && (bt330.2.1 == bt339.2.1 && (bt330.2.2.1 == bt339.2.2.1 && (bt330.2.2.2.1 == bt339.2.2.2.1 && (bt330.2.2.2.2.1 == bt339.2.2.2.2.1 && (bt330.2.2.2.2.2.1.toList == bt339.2.2.2.2.2.1.toList && (bt330.2.2.2.2.2.2.1.toList == bt339.2.2.2.2.2.2.1.toList))))))) = true then (if (bt330.2.2.2.2.2.2.2 == bt339.2.2.2.2.2.2.2) = true then (if bt330.2.2.2.2.2.2.2 = true then ((impl_DownPut.f k bt330.1 bt330.2.1 bt330.2.2.1 bt330.2.2.2.1 bt330.2.2.2.2.1 bt330.2.2.2.2.2.1 bt330.2.2.2.2.2.2.1).bind fun t348 => (some (t348.toList == t329.toList))) else (some true)) else (some false)) else (some false)))))
end
def laws_FnDownBack.f (k : Nat) (l0 : List Int) (l1 : List Int) : Option (Bool) := if (l0.length : Int) > 1048576 then (laws_FnDownBack.j0 k l0 l1 true) else (laws_FnDownBack.j0 k l0 l1 (decide ((l1.length : Int) > 1048576)))
theorem laws_FnDownBack.mono_l : ∀ k, (∀ y0 y1 y2, LeO (laws_FnDownBack.j0 k y0 y1 y2) (laws_FnDownBack.j0 (k + 1) y0 y1 y2)) ∧ (∀ y0 y1, LeO (laws_FnDownBack.j1 k y0 y1) (laws_FnDownBack.j1 (k + 1) y0 y1))
 | 0 => ⟨fun _ _ _ r h => by simp [laws_FnDownBack.j0] at h, fun _ _ r h => by simp [laws_FnDownBack.j1] at h⟩
 | k + 1 => by
  obtain ⟨ih0, ih1⟩ := laws_FnDownBack.mono_l k
  refine ⟨?_, ?_⟩
  ·intro y0 y1 y2
   unfold laws_FnDownBack.j0
   repeat' first
   | (with_reducible exact ih0 _ _ _)
   | (with_reducible exact ih1 _ _)
   | (with_reducible exact impl_DownGet.mono _ _)
   | (with_reducible exact impl_DownPut.mono _ _ _ _ _ _ _ _)
   | (with_reducible exact spec_DownGet.mono _ _)
   | (with_reducible exact spec_DownPut.mono _ _ _ _ _ _ _ _)
   | (with_reducible exact spec_DrawDownGet.mono _ _)
   | (with_reducible exact spec_DrawDownPut.mono _ _)
   | (with_reducible exact LeO.refl _)
   | (with_reducible exact LeO.none _)
   | (with_reducible refine LeO.ite ?_ ?_)
   | (with_reducible refine LeO.bind ?_ (fun _ => ?_))
   | exact ih0 _ _ _
   | exact ih1 _ _
   | exact impl_DownGet.mono _ _
   | exact impl_DownPut.mono _ _ _ _ _ _ _ _
   | exact spec_DownGet.mono _ _
   | exact spec_DownPut.mono _ _ _ _ _ _ _ _
   | exact spec_DrawDownGet.mono _ _
   | exact spec_DrawDownPut.mono _ _
   | exact LeO.none _
   | refine LeO.ite ?_ ?_
   | refine LeO.bind ?_ (fun _ => ?_)
  ·intro y0 y1
   unfold laws_FnDownBack.j1
   repeat' first
   | (with_reducible exact ih0 _ _ _)
   | (with_reducible exact ih1 _ _)
   | (with_reducible exact impl_DownGet.mono _ _)
   | (with_reducible exact impl_DownPut.mono _ _ _ _ _ _ _ _)
   | (with_reducible exact spec_DownGet.mono _ _)
   | (with_reducible exact spec_DownPut.mono _ _ _ _ _ _ _ _)
   | (with_reducible exact spec_DrawDownGet.mono _ _)
   | (with_reducible exact spec_DrawDownPut.mono _ _)
   | (with_reducible exact LeO.refl _)
   | (with_reducible exact LeO.none _)
   | (with_reducible refine LeO.ite ?_ ?_)
   | (with_reducible refine LeO.bind ?_ (fun _ => ?_))
   | exact ih0 _ _ _
   | exact ih1 _ _
   | exact impl_DownGet.mono _ _
   | exact impl_DownPut.mono _ _ _ _ _ _ _ _
   | exact spec_DownGet.mono _ _
   | exact spec_DownPut.mono _ _ _ _ _ _ _ _
   | exact spec_DrawDownGet.mono _ _
   | exact spec_DrawDownPut.mono _ _
   | exact LeO.none _
   | refine LeO.ite ?_ ?_
   | refine LeO.bind ?_ (fun _ => ?_)
theorem laws_FnDownBack.mono : ∀ a0 a1 k, LeO (laws_FnDownBack.f k a0 a1) (laws_FnDownBack.f (k + 1) a0 a1) := by
 intro a0 a1 k
 obtain ⟨ih0, ih1⟩ := laws_FnDownBack.mono_l k
 unfold laws_FnDownBack.f
 repeat' first
   | (with_reducible exact ih0 _ _ _)
   | (with_reducible exact ih1 _ _)
   | (with_reducible exact impl_DownGet.mono _ _)
   | (with_reducible exact impl_DownPut.mono _ _ _ _ _ _ _ _)
   | (with_reducible exact spec_DownGet.mono _ _)
   | (with_reducible exact spec_DownPut.mono _ _ _ _ _ _ _ _)
   | (with_reducible exact spec_DrawDownGet.mono _ _)
   | (with_reducible exact spec_DrawDownPut.mono _ _)
   | (with_reducible exact LeO.refl _)
   | (with_reducible exact LeO.none _)
   | (with_reducible refine LeO.ite ?_ ?_)
   | (with_reducible refine LeO.bind ?_ (fun _ => ?_))
   | exact ih0 _ _ _
   | exact ih1 _ _
   | exact impl_DownGet.mono _ _
   | exact impl_DownPut.mono _ _ _ _ _ _ _ _
   | exact spec_DownGet.mono _ _
   | exact spec_DownPut.mono _ _ _ _ _ _ _ _
   | exact spec_DrawDownGet.mono _ _
   | exact spec_DrawDownPut.mono _ _
   | exact LeO.none _
   | refine LeO.ite ?_ ?_
   | refine LeO.bind ?_ (fun _ => ?_)
set_option maxHeartbeats 8000000 in
set_option maxRecDepth 100000 in
theorem laws_FnDownBack.calls (k : Nat) (A0 : Option Addr) (c0 : Nat) (l0 : List Int) (A1 : Option Addr) (c1 : Nat) (l1 : List Int) (r : Bool) (w : World) (hr0 : Kd.C (Kd.int .u8) w A0 l0.length l0) (hc0 : l0.length ≤ c0) (hr1 : Kd.C (Kd.int .u8) w A1 l1.length l1) (hc1 : l1.length ≤ c1) (h : laws_FnDownBack.f k l0 l1 = some r) :
  Calls Try.prog 6 #[.slice A0 l0.length c0, .slice A1 l1.length c1] w fun e w' => e = .returned (.bool r) ∧ Below w.heap.size w w' := by
 have hu26 := Try.underlying26
 have HR0 := Aside0.mk hr0
 have HC0 := Aside0.mk hc0
 clear hr0 hc0
 have HR1 := Aside0.mk hr1
 have HC1 := Aside0.mk hc1
 clear hr1 hc1
 have HB := m_ (Below.refl w.heap.size w)
 have H : (if (l0.length : Int) > 1048576 then (laws_FnDownBack.j0 k l0 l1 true) else (laws_FnDownBack.j0 k l0 l1 (decide ((l1.length : Int) > 1048576)))) = some r := h
 clear h
 have HC3 := Aside0.mk H
 clear H
 go_enter Try.func6, Try.ntmps6
 go_upto_region 1 with (fail)
 go_cut [21] (fun v21 wc => ∃ (kq : Nat) (x21_2 : Bool), v21 = .bool x21_2 ∧ Aside0 (laws_FnDownBack.j0 kq l0 l1 x21_2 = some r) ∧ Aside0 (kq ≤ k) ∧ Aside0 (Below w.heap.size w wc))
 case first =>
  have H := HC3.out
  clear HC3
  by_cases c4 : (l0.length : Int) > 1048576
  ·rw [if_pos c4] at H
   have c4b0 : decide (1048576 < (l0.length : Int)) = true := decide_eq_true c4
   have c4b1 : decide (1048576 < l0.length) = true := decide_eq_true (by omega)
   clear c4
   (first | rw [c4b0] | (simp only [i64_w, i32_w]; rw [c4b0]) | skip)
   have H' := Aside0.mk H
   clear H
   go_wp2
   go_meet
   case rel => exact ⟨_, (true), (by first | rfl | (simp; done) | (simp [*]; done)), H', ⟨by first | omega | exact Nat.le_refl _⟩, ⟨by repeat (first | (with_reducible first | exact HB.out | apply below_alloc | apply pw_below_drewN | apply below_drew1) | exact HB.out)⟩⟩
  ·rw [if_neg c4] at H
   have c4b0 : decide (1048576 < (l0.length : Int)) = false := decide_eq_false c4
   have c4b1 : decide (1048576 < l0.length) = false := decide_eq_false (by omega)
   clear c4
   (first | rw [c4b0] | (simp only [i64_w, i32_w]; rw [c4b0]) | skip)
   have H' := Aside0.mk H
   clear H
   go_wp2
   go_meet
   case rel => exact ⟨_, (decide ((l1.length : Int) > 1048576)), (by first | rfl | (simp; done) | (simp [*]; done)), H', ⟨by first | omega | exact Nat.le_refl _⟩, ⟨by repeat (first | (with_reducible first | exact HB.out | apply below_alloc | apply pw_below_drewN | apply below_drew1) | exact HB.out)⟩⟩
 case rest =>
  clear HC3
  try clear c1
  try clear p2
  try clear c4
  try clear c4b0
  try clear c4b1
  obtain ⟨kq, x21_2, rfl, HA, HJ2, HB⟩ := hcut
  cases kq with
  | zero => exact absurd HA.out (by simp [laws_FnDownBack.j0])
  | succ kj2 =>
   have H := HA.out
   clear HA
   simp only [laws_FnDownBack.j0] at H
   by_cases c5 : x21_2 = true
   ·subst c5
    have H1 : (some true) = some r := by rw [if_pos rfl] at H; exact H
    clear H
    have H := H1
    clear H1
    obtain rfl := Option.some.inj H
    go_wp2
    go_ret
    exact ⟨by first | rfl | (simp [errW_none, errW_some] <;> rfl) | (simp [*, errW_none, errW_some] <;> rfl), by repeat (first | (with_reducible first | exact HB.out | apply below_alloc | apply pw_below_drewN | apply below_drew1) | exact HB.out)⟩
   ·replace c5 := Bool.eq_false_iff.mpr c5
    subst c5
    have H1 : ((spec_DrawDownPut.f kj2 l0).bind fun bt310 => ((impl_DownPut.f kj2 bt310.1 bt310.2.1 bt310.2.2.1 bt310.2.2.2.1 bt310.2.2.2.2.1 bt310.2.2.2.2.2.1 bt310.2.2.2.2.2.2).bind fun t318 => ((impl_DownGet.f kj2 t318).bind fun bt319 => ((spec_DownPut.f kj2 bt310.1 bt310.2.1 bt310.2.2.1 bt310.2.2.2.1 bt310.2.2.2.2.1 bt310.2.2.2.2.2.1 bt310.2.2.2.2.2.2).bind fun t328 => (if t318.toList = t328.toList then (if (bt319.2.2.2.2.2.2.2 != (t318.toList != ([] : List UInt8))) = true then (laws_FnDownBack.j1 kj2 l1 true) else (if bt319.2.2.2.2.2.2.2 = true then (if (!(bt319.1 == bt310.1) || (!(bt319.2.1 == bt310.2.1) || (!(bt319.2.2.1 == bt310.2.2.1) || (!(bt319.2.2.2.1 == bt310.2.2.2.1) || (!(bt319.2.2.2.2.1 == bt310.2.2.2.2.1) || (!(bt319.2.2.2.2.2.1.toList == bt310.2.2.2.2.2.1.toList) || (!(bt319.2.2.2.2.2.2.1.toList == bt310.2.2.2.2.2.2.toList)))))))) = true then (laws_FnDownBack.j1 kj2 l1 true) else (laws_FnDownBack.j1 kj2 l1 ((t318.size : Int) != 40))) else (laws_FnDownBack.j1 kj2 l1 false))) else (laws_FnDownBack.j1 kj2 l1 true)))))) = some r := by rw [if_neg (show ¬ (false = true) by decide)] at H; exact H
    clear H
    have H := H1
    clear H1
    replace H := Option.bind_eq_some_iff.mp H
    obtain ⟨⟨t310, t311, t312, t313, t314, t315, t316⟩, A60, H⟩ := H
    replace H : ((impl_DownPut.f kj2 t310 t311 t312 t313 t314 t315 t316).bind fun t318 => ((impl_DownGet.f kj2 t318).bind fun bt319 => ((spec_DownPut.f kj2 t310 t311 t312 t313 t314 t315 t316).bind fun t328 => (if t318.toList = t328.toList then (if (bt319.2.2.2.2.2.2.2 != (t318.toList != ([] : List UInt8))) = true then (laws_FnDownBack.j1 kj2 l1 true) else (if bt319.2.2.2.2.2.2.2 = true then (if (!(bt319.1 == t310) || (!(bt319.2.1 == t311) || (!(bt319.2.2.1 == t312) || (!(bt319.2.2.2.1 == t313) || (!(bt319.2.2.2.2.1 == t314) || (!(bt319.2.2.2.2.2.1.toList == t315.toList) || (!(bt319.2.2.2.2.2.2.1.toList == t316.toList)))))))) = true then (laws_FnDownBack.j1 kj2 l1 true) else (laws_FnDownBack.j1 kj2 l1 ((t318.size : Int) != 40))) else (laws_FnDownBack.j1 kj2 l1 false))) else (laws_FnDownBack.j1 kj2 l1 true))))) = some r := H
    have A6 := Aside0.mk A60
    clear A60
    replace H := Option.bind_eq_some_iff.mp H
    obtain ⟨t318, A70, H⟩ := H
    replace H : ((impl_DownGet.f kj2 t318).bind fun bt319 => ((spec_DownPut.f kj2 t310 t311 t312 t313 t314 t315 t316).bind fun t328 => (if t318.toList = t328.toList then (if (bt319.2.2.2.2.2.2.2 != (t318.toList != ([] : List UInt8))) = true then (laws_FnDownBack.j1 kj2 l1 true) else (if bt319.2.2.2.2.2.2.2 = true then (if (!(bt319.1 == t310) || (!(bt319.2.1 == t311) || (!(bt319.2.2.1 == t312) || (!(bt319.2.2.2.1 == t313) || (!(bt319.2.2.2.2.1 == t314) || (!(bt319.2.2.2.2.2.1.toList == t315.toList) || (!(bt319.2.2.2.2.2.2.1.toList == t316.toList)))))))) = true then (laws_FnDownBack.j1 kj2 l1 true) else (laws_FnDownBack.j1 kj2 l1 ((t318.size : Int) != 40))) else (laws_FnDownBack.j1 kj2 l1 false))) else (laws_FnDownBack.j1 kj2 l1 true)))) = some r := H
    have A7 := Aside0.mk A70
    clear A70
    replace H := Option.bind_eq_some_iff.mp H
    obtain ⟨⟨t319, t320, t321, t322, t323, t324, t325, t326⟩, A80, H⟩ := H
    replace H : ((spec_DownPut.f kj2 t310 t311 t312 t313 t314 t315 t316).bind fun t328 => (if t318.toList = t328.toList then (if (t326 != (t318.toList != ([] : List UInt8))) = true then (laws_FnDownBack.j1 kj2 l1 true) else (if t326 = true then (if (!(t319 == t310) || (!(t320 == t311) || (!(t321 == t312) || (!(t322 == t313) || (!(t323 == t314) || (!(t324.toList == t315.toList) || (!(t325.toList == t316.toList)))))))) = true then (laws_FnDownBack.j1 kj2 l1 true) else (laws_FnDownBack.j1 kj2 l1 ((t318.size : Int) != 40))) else (laws_FnDownBack.j1 kj2 l1 false))) else (laws_FnDownBack.j1 kj2 l1 true))) = some r := H
    have A8 := Aside0.mk A80
    clear A80
    have HC9 := Aside0.mk H
    clear H
    go_upto_region 6 with (first | ((with_reducible refine gate_callee (f := 14) rfl ?_); refine goesL_ (some 23) rfl rfl Try.func14 (by kernel_rfl) rfl #[.slice A0 l0.length c0] rfl gl_ ?_; (with_reducible refine (spec_DrawDownPut.calls kj2 _ _ l0 t310 t311 t312 t313 t314 t315 t316 _ ?side1 ?side2 A6.out).mono ?_); (case side1 => exact cN (Kd.C_below HR0.out HB.out)); (case side2 => exact HC0.out); rintro e w10 ⟨rfl, hb⟩; refine ⟨_, rfl, ?_⟩; have n0_ := m_ (below_step (bN HB.out) hb); clear HB; have HB := n0_; clear n0_; (try clear hb); (try clear hb2); (try clear hk); (try clear hi)) | ((with_reducible refine gate_dst (N := 5) rfl ?_); (try (refine gate_guard (by rfl) ?_; dsimp only)); refine box_event ?hg (N := 5) ?hd (cs := #[.int .i64 0, .int .i64 0, .int .i64 0, .int .i64 0, .int .i64 0, .string (⟨#[]⟩ : ByteArray), .string (⟨#[]⟩ : ByteArray)]) (t := 26) ?hr ?_; (case hd => rfl); (case hg => rfl); (case hr => first | (go_simp; done) | (go_simp; rfl)); intro gb317 hg w11 hbox hb; have n0_ := m_ (below_step (bN HB.out) hb); have n1_ := m_ (hbox); have n2_ := m_ ((by rw [hg]; exact (below_size (bN HB.out)) : w.heap.size ≤ gb317)); have n3_ := m_ ((by rw [hg]; exact (below_size (bN HB.out)) : w.heap.size ≤ gb317)); clear HB; have HB := n0_; have BK317 := n1_; have GW317 := n2_; have GE317 := n3_; clear n0_ n1_ n2_ n3_; clear hb hbox hg; have hcz12_0 : w11.cell? ⟨gb317, 0, none⟩ = some (.int .i64 0) := bc BK317 0; have hcz12_1 : w11.cell? ⟨gb317, 1, none⟩ = some (.int .i64 0) := bc BK317 1; have hcz12_2 : w11.cell? ⟨gb317, 2, none⟩ = some (.int .i64 0) := bc BK317 2; have hcz12_3 : w11.cell? ⟨gb317, 3, none⟩ = some (.int .i64 0) := bc BK317 3; have hcz12_4 : w11.cell? ⟨gb317, 4, none⟩ = some (.int .i64 0) := bc BK317 4; have hcz12_5 : w11.cell? ⟨gb317, 5, none⟩ = some (.string (⟨#[]⟩ : ByteArray)) := bc BK317 5; have hcz12_6 : w11.cell? ⟨gb317, 6, none⟩ = some (.string (⟨#[]⟩ : ByteArray)) := bc BK317 6; have hfz12_0 := blk_frozen BK317.out 0; have hfz12_1 := blk_frozen BK317.out 1; have hfz12_2 := blk_frozen BK317.out 2; have hfz12_3 := blk_frozen BK317.out 3; have hfz12_4 := blk_frozen BK317.out 4; have hfz12_5 := blk_frozen BK317.out 5; have hfz12_6 := blk_frozen BK317.out 6) | ((with_reducible refine gate_callee (f := 10) rfl ?_); refine goesL_ (some 25) rfl rfl Try.func10 (by kernel_rfl) rfl #[.agg #[.int .i64 t310, .int .i64 t311, .int .i64 t312, .int .i64 t313, .int .i64 t314, .string t315, .string t316]] rfl gl_ ?_; (with_reducible refine (impl_DownPut.calls kj2 t310 t311 t312 t313 t314 t315 t316 t318 _ A7.out).mono ?_); rintro e w13 ⟨rfl, hb⟩; refine ⟨_, rfl, ?_⟩; have n0_ := m_ (blk_below (g := gb317) (o := .cells #[.int .i64 t310, .int .i64 t311, .int .i64 t312, .int .i64 t313, .int .i64 t314, .string t315, .string t316] 26 (0, 0)) (kP BK317.out) hb); have n1_ := m_ (below_step (bN HB.out) hb); clear BK317; clear HB; have BK317 := n0_; have HB := n1_; clear n0_ n1_; (try clear hb); (try clear hb2); (try clear hk); (try clear hi)) | ((with_reducible refine gate_callee (f := 12) rfl ?_); refine goesL_ (some 28) rfl rfl Try.func12 (by kernel_rfl) rfl #[.string t318] rfl gl_ ?_; (with_reducible refine (impl_DownGet.calls kj2 t318 t319 t320 t321 t322 t323 t324 t325 t326 _ A8.out).mono ?_); rintro e w14 ⟨rfl, hb⟩; refine ⟨_, rfl, ?_⟩; have n0_ := m_ (blk_below (kN BK317.out) hb); have n1_ := m_ (below_step (bN HB.out) hb); clear BK317; clear HB; have BK317 := n0_; have HB := n1_; clear n0_ n1_; (try clear hb); (try clear hb2); (try clear hk); (try clear hi)) | ((with_reducible refine gate_dst (N := 7) rfl ?_); (try (refine gate_guard (by rfl) ?_; dsimp only)); refine box_event ?hg (N := 7) ?hd (cs := #[.int .i64 0, .int .i64 0, .int .i64 0, .int .i64 0, .int .i64 0, .string (⟨#[]⟩ : ByteArray), .string (⟨#[]⟩ : ByteArray)]) (t := 26) ?hr ?_; (case hd => rfl); (case hg => rfl); (case hr => first | (go_simp; done) | (go_simp; rfl)); intro gb327 hg w15 hbox hb; have n0_ := m_ (blk_below (kN BK317.out) hb); have n1_ := m_ (below_step (bN HB.out) hb); have n2_ := m_ (hbox); have n3_ := m_ ((by rw [hg]; exact (below_size (bN HB.out)) : w.heap.size ≤ gb327)); have n4_ := m_ ((by rw [hg]; exact (below_size (bN HB.out)) : w.heap.size ≤ gb327)); have n5_ := m_ (nL hg BK317.out); have n6_ := m_ (nG hg BK317.out); clear BK317; clear HB; have BK317 := n0_; have HB := n1_; have BK327 := n2_; have GW327 := n3_; have GE327 := n4_; have NB317_327 := n5_; have NB327_317 := n6_; clear n0_ n1_ n2_ n3_ n4_ n5_ n6_; clear hb hbox hg; have hnb16 := NB327_317.out; have hnc16 := NB317_327.out; have hcz17_0 : w15.cell? ⟨gb327, 0, none⟩ = some (.int .i64 0) := bc BK327 0; have hcz17_1 : w15.cell? ⟨gb327, 1, none⟩ = some (.int .i64 0) := bc BK327 1; have hcz17_2 : w15.cell? ⟨gb327, 2, none⟩ = some (.int .i64 0) := bc BK327 2; have hcz17_3 : w15.cell? ⟨gb327, 3, none⟩ = some (.int .i64 0) := bc BK327 3; have hcz17_4 : w15.cell? ⟨gb327, 4, none⟩ = some (.int .i64 0) := bc BK327 4; have hcz17_5 : w15.cell? ⟨gb327, 5, none⟩ = some (.string (⟨#[]⟩ : ByteArray)) := bc BK327 5; have hcz17_6 : w15.cell? ⟨gb327, 6, none⟩ = some (.string (⟨#[]⟩ : ByteArray)) := bc BK327 6; have hfz17_0 := blk_frozen BK327.out 0; have hfz17_1 := blk_frozen BK327.out 1; have hfz17_2 := blk_frozen BK327.out 2; have hfz17_3 := blk_frozen BK327.out 3; have hfz17_4 := blk_frozen BK327.out 4; have hfz17_5 := blk_frozen BK327.out 5; have hfz17_6 := blk_frozen BK327.out 6))
    (try simp only [Act.put, List.setIfInBounds_toArray, List.set_cons_zero, List.set_cons_succ])
    go_cut [53] (fun v53 wc => ∃ (kq : Nat) (x53_8 : Bool), v53 = .bool x53_8 ∧ Aside0 (laws_FnDownBack.j1 kq l1 x53_8 = some r) ∧ Aside0 (kq ≤ kj2) ∧ Aside0 (wc.heap[gb317]? = some (.cells #[.int .i64 t310, .int .i64 t311, .int .i64 t312, .int .i64 t313, .int .i64 t314, .string t315, .string t316] 26 (0, 0))) ∧ Aside0 (wc.heap[gb327]? = some (.cells #[.int .i64 t319, .int .i64 t320, .int .i64 t321, .int .i64 t322, .int .i64 t323, .string t324, .string t325] 26 (0, 0))) ∧ Aside0 (Below w.heap.size w wc))
    case first =>
     have H := HC9.out
     clear HC9
     replace H := Option.bind_eq_some_iff.mp H
     obtain ⟨t328, A180, H⟩ := H
     replace H : (if t318.toList = t328.toList then (if (t326 != (t318.toList != ([] : List UInt8))) = true then (laws_FnDownBack.j1 kj2 l1 true) else (if t326 = true then (if (!(t319 == t310) || (!(t320 == t311) || (!(t321 == t312) || (!(t322 == t313) || (!(t323 == t314) || (!(t324.toList == t315.toList) || (!(t325.toList == t316.toList)))))))) = true then (laws_FnDownBack.j1 kj2 l1 true) else (laws_FnDownBack.j1 kj2 l1 ((t318.size : Int) != 40))) else (laws_FnDownBack.j1 kj2 l1 false))) else (laws_FnDownBack.j1 kj2 l1 true)) = some r := H
     have A18 := Aside0.mk A180
     clear A180
     by_cases c19 : t318.toList = t328.toList
     ·rw [if_pos c19] at H
      have c19b0 : (t318.toList == t328.toList) = true := beq_iff_eq.mpr c19
      have c19b1 : (t318.toList != t328.toList) = false := bne_eq_false_iff_eq.mpr c19
      clear c19
      (first | rw [c19b0] | (simp only [i64_w, i32_w]; rw [c19b0]) | skip)
      by_cases c20 : (t326 != (t318.toList != ([] : List UInt8))) = true
      ·rw [if_pos c20] at H
       have c20b0 : (t326 != (t318.toList != ([] : List UInt8))) = true := c20
       (try (have c20b1 : decide (t326 = (t318.toList != ([] : List UInt8))) = false := by simpa using c20))
       (try (have c20b2 : (t326 == (t318.toList != ([] : List UInt8))) = false := by simpa using c20))
       (try (have c20b3 : ¬ (t326 = (t318.toList != ([] : List UInt8))) := by simpa using c20))
       clear c20
       have c20b7 : t318.toList.isEmpty = t326 := by revert c20b0; cases t318.toList <;> cases t326 <;> simp
       rcases Bool.eq_false_or_eq_true t326 with c20c | c20c
       ·subst c20c
        have H' := Aside0.mk H
        clear H
        have hnb21 := NB317_327.out
        have hnc21 := NB327_317.out
        have hcz22_0 : w15.cell? ⟨gb317, 0, none⟩ = some (.int .i64 t310) := bc BK317 0
        have hcz22_1 : w15.cell? ⟨gb317, 1, none⟩ = some (.int .i64 t311) := bc BK317 1
        have hcz22_2 : w15.cell? ⟨gb317, 2, none⟩ = some (.int .i64 t312) := bc BK317 2
        have hcz22_3 : w15.cell? ⟨gb317, 3, none⟩ = some (.int .i64 t313) := bc BK317 3
        have hcz22_4 : w15.cell? ⟨gb317, 4, none⟩ = some (.int .i64 t314) := bc BK317 4
        have hcz22_5 : w15.cell? ⟨gb317, 5, none⟩ = some (.string t315) := bc BK317 5
        have hcz22_6 : w15.cell? ⟨gb317, 6, none⟩ = some (.string t316) := bc BK317 6
        have hfz22_0 := blk_frozen BK317.out 0
        have hfz22_1 := blk_frozen BK317.out 1
        have hfz22_2 := blk_frozen BK317.out 2
        have hfz22_3 := blk_frozen BK317.out 3
        have hfz22_4 := blk_frozen BK317.out 4
        have hfz22_5 := blk_frozen BK317.out 5
        have hfz22_6 := blk_frozen BK317.out 6
        go_wp2_with (first | ((with_reducible refine gate_callee (f := 8) rfl ?_); refine goesL_ (some 33) rfl rfl Try.func8 (by kernel_rfl) rfl #[.agg #[.int .i64 t310, .int .i64 t311, .int .i64 t312, .int .i64 t313, .int .i64 t314, .string t315, .string t316]] rfl gl_ ?_; (with_reducible refine (spec_DownPut.calls kj2 t310 t311 t312 t313 t314 t315 t316 t328 _ A18.out).mono ?_); rintro e w23 ⟨rfl, hb⟩; refine ⟨_, rfl, ?_⟩; have n0_ := m_ (blk_below (g := gb317) (o := .cells #[.int .i64 t310, .int .i64 t311, .int .i64 t312, .int .i64 t313, .int .i64 t314, .string t315, .string t316] 26 (0, 0)) (kF BK317.out NB317_327.out) hb); have n1_ := m_ (blk_below (g := gb327) (o := .cells #[.int .i64 t319, .int .i64 t320, .int .i64 t321, .int .i64 t322, .int .i64 t323, .string t324, .string t325] 26 (0, 0)) (kP BK327.out) hb); have n2_ := m_ (below_step (bN HB.out) hb); clear BK317; clear BK327; clear HB; have BK317 := n0_; have BK327 := n1_; have HB := n2_; clear n0_ n1_ n2_; (try clear hb); (try clear hb2); (try clear hk); (try clear hi)))
        go_meet
        case rel => exact ⟨_, (true), (by first | rfl | (simp; done) | (simp [*]; done)), H', ⟨by have := HJ2.out; first | omega | exact Nat.le_refl _⟩, ⟨kN BK317.out⟩, ⟨kN BK327.out⟩, ⟨by repeat (first | (with_reducible first | exact HB.out | apply below_alloc | apply pw_below_drewN | apply below_drew1 | refine below_set ?_ GE317.out | refine below_set ?_ GE327.out) | exact HB.out)⟩⟩
       ·subst c20c
        have H' := Aside0.mk H
        clear H
        have hnb21 := NB317_327.out
        have hnc21 := NB327_317.out
        have hcz22_0 : w15.cell? ⟨gb317, 0, none⟩ = some (.int .i64 t310) := bc BK317 0
        have hcz22_1 : w15.cell? ⟨gb317, 1, none⟩ = some (.int .i64 t311) := bc BK317 1
        have hcz22_2 : w15.cell? ⟨gb317, 2, none⟩ = some (.int .i64 t312) := bc BK317 2
        have hcz22_3 : w15.cell? ⟨gb317, 3, none⟩ = some (.int .i64 t313) := bc BK317 3
        have hcz22_4 : w15.cell? ⟨gb317, 4, none⟩ = some (.int .i64 t314) := bc BK317 4
        have hcz22_5 : w15.cell? ⟨gb317, 5, none⟩ = some (.string t315) := bc BK317 5
        have hcz22_6 : w15.cell? ⟨gb317, 6, none⟩ = some (.string t316) := bc BK317 6
        have hfz22_0 := blk_frozen BK317.out 0
        have hfz22_1 := blk_frozen BK317.out 1
        have hfz22_2 := blk_frozen BK317.out 2
        have hfz22_3 := blk_frozen BK317.out 3
        have hfz22_4 := blk_frozen BK317.out 4
        have hfz22_5 := blk_frozen BK317.out 5
        have hfz22_6 := blk_frozen BK317.out 6
        go_wp2_with (first | ((with_reducible refine gate_callee (f := 8) rfl ?_); refine goesL_ (some 33) rfl rfl Try.func8 (by kernel_rfl) rfl #[.agg #[.int .i64 t310, .int .i64 t311, .int .i64 t312, .int .i64 t313, .int .i64 t314, .string t315, .string t316]] rfl gl_ ?_; (with_reducible refine (spec_DownPut.calls kj2 t310 t311 t312 t313 t314 t315 t316 t328 _ A18.out).mono ?_); rintro e w23 ⟨rfl, hb⟩; refine ⟨_, rfl, ?_⟩; have n0_ := m_ (blk_below (g := gb317) (o := .cells #[.int .i64 t310, .int .i64 t311, .int .i64 t312, .int .i64 t313, .int .i64 t314, .string t315, .string t316] 26 (0, 0)) (kF BK317.out NB317_327.out) hb); have n1_ := m_ (blk_below (g := gb327) (o := .cells #[.int .i64 t319, .int .i64 t320, .int .i64 t321, .int .i64 t322, .int .i64 t323, .string t324, .string t325] 26 (0, 0)) (kP BK327.out) hb); have n2_ := m_ (below_step (bN HB.out) hb); clear BK317; clear BK327; clear HB; have BK317 := n0_; have BK327 := n1_; have HB := n2_; clear n0_ n1_ n2_; (try clear hb); (try clear hb2); (try clear hk); (try clear hi)))
        go_meet
        case rel => exact ⟨_, (true), (by first | rfl | (simp; done) | (simp [*]; done)), H', ⟨by have := HJ2.out; first | omega | exact Nat.le_refl _⟩, ⟨kN BK317.out⟩, ⟨kN BK327.out⟩, ⟨by repeat (first | (with_reducible first | exact HB.out | apply below_alloc | apply pw_below_drewN | apply below_drew1 | refine below_set ?_ GE317.out | refine below_set ?_ GE327.out) | exact HB.out)⟩⟩
      ·rw [if_neg c20] at H
       have c20b0 : (t326 != (t318.toList != ([] : List UInt8))) = false := by simpa using c20
       (try (have c20b1 : decide (t326 = (t318.toList != ([] : List UInt8))) = true := by simpa using c20))
       (try (have c20b2 : (t326 == (t318.toList != ([] : List UInt8))) = true := by simpa using c20))
       clear c20
       have c20b7 : t318.toList.isEmpty = !t326 := by revert c20b0; cases t318.toList <;> cases t326 <;> simp
       by_cases c24 : t326 = true
       ·subst c24
        replace c20b7 : t318.toList.isEmpty = false := c20b7
        have H1 : (if (!(t319 == t310) || (!(t320 == t311) || (!(t321 == t312) || (!(t322 == t313) || (!(t323 == t314) || (!(t324.toList == t315.toList) || (!(t325.toList == t316.toList)))))))) = true then (laws_FnDownBack.j1 kj2 l1 true) else (laws_FnDownBack.j1 kj2 l1 ((t318.size : Int) != 40))) = some r := by rw [if_pos rfl] at H; exact H
        clear H
        have H := H1
        clear H1
        by_cases c25 : (!(t319 == t310) || (!(t320 == t311) || (!(t321 == t312) || (!(t322 == t313) || (!(t323 == t314) || (!(t324.toList == t315.toList) || (!(t325.toList == t316.toList)))))))) = true
        ·rw [if_pos c25] at H
         have c25b0 : (!(t319 == t310) || (!(t320 == t311) || (!(t321 == t312) || (!(t322 == t313) || (!(t323 == t314) || (!(t324.toList == t315.toList) || (!(t325.toList == t316.toList)))))))) = true := c25
         clear c25
         have H' := Aside0.mk H
         clear H
         have hnb26 := NB317_327.out
         have hnc26 := NB327_317.out
         have hcz27_0 : w15.cell? ⟨gb317, 0, none⟩ = some (.int .i64 t310) := bc BK317 0
         have hcz27_1 : w15.cell? ⟨gb317, 1, none⟩ = some (.int .i64 t311) := bc BK317 1
         have hcz27_2 : w15.cell? ⟨gb317, 2, none⟩ = some (.int .i64 t312) := bc BK317 2
         have hcz27_3 : w15.cell? ⟨gb317, 3, none⟩ = some (.int .i64 t313) := bc BK317 3
         have hcz27_4 : w15.cell? ⟨gb317, 4, none⟩ = some (.int .i64 t314) := bc BK317 4
         have hcz27_5 : w15.cell? ⟨gb317, 5, none⟩ = some (.string t315) := bc BK317 5
         have hcz27_6 : w15.cell? ⟨gb317, 6, none⟩ = some (.string t316) := bc BK317 6
         have hfz27_0 := blk_frozen BK317.out 0
         have hfz27_1 := blk_frozen BK317.out 1
         have hfz27_2 := blk_frozen BK317.out 2
         have hfz27_3 := blk_frozen BK317.out 3
         have hfz27_4 := blk_frozen BK317.out 4
         have hfz27_5 := blk_frozen BK317.out 5
         have hfz27_6 := blk_frozen BK317.out 6
         go_wp2_with (first | ((with_reducible refine gate_callee (f := 8) rfl ?_); refine goesL_ (some 33) rfl rfl Try.func8 (by kernel_rfl) rfl #[.agg #[.int .i64 t310, .int .i64 t311, .int .i64 t312, .int .i64 t313, .int .i64 t314, .string t315, .string t316]] rfl gl_ ?_; (with_reducible refine (spec_DownPut.calls kj2 t310 t311 t312 t313 t314 t315 t316 t328 _ A18.out).mono ?_); rintro e w28 ⟨rfl, hb⟩; refine ⟨_, rfl, ?_⟩; have n0_ := m_ (blk_below (g := gb317) (o := .cells #[.int .i64 t310, .int .i64 t311, .int .i64 t312, .int .i64 t313, .int .i64 t314, .string t315, .string t316] 26 (0, 0)) (kF BK317.out NB317_327.out) hb); have n1_ := m_ (blk_below (g := gb327) (o := .cells #[.int .i64 t319, .int .i64 t320, .int .i64 t321, .int .i64 t322, .int .i64 t323, .string t324, .string t325] 26 (0, 0)) (kP BK327.out) hb); have n2_ := m_ (below_step (bN HB.out) hb); clear BK317; clear BK327; clear HB; have BK317 := n0_; have BK327 := n1_; have HB := n2_; clear n0_ n1_ n2_; (try clear hb); (try clear hb2); (try clear hk); (try clear hi); have hcz29_0 : w28.cell? ⟨gb327, 0, none⟩ = some (.int .i64 t319) := bc BK327 0; have hcz29_1 : w28.cell? ⟨gb327, 1, none⟩ = some (.int .i64 t320) := bc BK327 1; have hcz29_2 : w28.cell? ⟨gb327, 2, none⟩ = some (.int .i64 t321) := bc BK327 2; have hcz29_3 : w28.cell? ⟨gb327, 3, none⟩ = some (.int .i64 t322) := bc BK327 3; have hcz29_4 : w28.cell? ⟨gb327, 4, none⟩ = some (.int .i64 t323) := bc BK327 4; have hcz29_5 : w28.cell? ⟨gb327, 5, none⟩ = some (.string t324) := bc BK327 5; have hcz29_6 : w28.cell? ⟨gb327, 6, none⟩ = some (.string t325) := bc BK327 6; have hfz29_0 := blk_frozen BK327.out 0; have hfz29_1 := blk_frozen BK327.out 1; have hfz29_2 := blk_frozen BK327.out 2; have hfz29_3 := blk_frozen BK327.out 3; have hfz29_4 := blk_frozen BK327.out 4; have hfz29_5 := blk_frozen BK327.out 5; have hfz29_6 := blk_frozen BK327.out 6; have hcz30_0 : w28.cell? ⟨gb317, 0, none⟩ = some (.int .i64 t310) := bc BK317 0; have hcz30_1 : w28.cell? ⟨gb317, 1, none⟩ = some (.int .i64 t311) := bc BK317 1; have hcz30_2 : w28.cell? ⟨gb317, 2, none⟩ = some (.int .i64 t312) := bc BK317 2; have hcz30_3 : w28.cell? ⟨gb317, 3, none⟩ = some (.int .i64 t313) := bc BK317 3; have hcz30_4 : w28.cell? ⟨gb317, 4, none⟩ = some (.int .i64 t314) := bc BK317 4; have hcz30_5 : w28.cell? ⟨gb317, 5, none⟩ = some (.string t315) := bc BK317 5; have hcz30_6 : w28.cell? ⟨gb317, 6, none⟩ = some (.string t316) := bc BK317 6; have hfz30_0 := blk_frozen BK317.out 0; have hfz30_1 := blk_frozen BK317.out 1; have hfz30_2 := blk_frozen BK317.out 2; have hfz30_3 := blk_frozen BK317.out 3; have hfz30_4 := blk_frozen BK317.out 4; have hfz30_5 := blk_frozen BK317.out 5; have hfz30_6 := blk_frozen BK317.out 6))
         go_meet
         case rel => exact ⟨_, (true), (by first | rfl | (simp; done) | (simp [*]; done)), H', ⟨by have := HJ2.out; first | omega | exact Nat.le_refl _⟩, ⟨kN BK317.out⟩, ⟨kN BK327.out⟩, ⟨by repeat (first | (with_reducible first | exact HB.out | apply below_alloc | apply pw_below_drewN | apply below_drew1 | refine below_set ?_ GE317.out | refine below_set ?_ GE327.out) | exact HB.out)⟩⟩
        ·rw [if_neg c25] at H
         have c25b0 : (!(t319 == t310) || (!(t320 == t311) || (!(t321 == t312) || (!(t322 == t313) || (!(t323 == t314) || (!(t324.toList == t315.toList) || (!(t325.toList == t316.toList)))))))) = false := by simpa using c25
         clear c25
         have H' := Aside0.mk H
         clear H
         have hnb31 := NB317_327.out
         have hnc31 := NB327_317.out
         have hcz32_0 : w15.cell? ⟨gb317, 0, none⟩ = some (.int .i64 t310) := bc BK317 0
         have hcz32_1 : w15.cell? ⟨gb317, 1, none⟩ = some (.int .i64 t311) := bc BK317 1
         have hcz32_2 : w15.cell? ⟨gb317, 2, none⟩ = some (.int .i64 t312) := bc BK317 2
         have hcz32_3 : w15.cell? ⟨gb317, 3, none⟩ = some (.int .i64 t313) := bc BK317 3
         have hcz32_4 : w15.cell? ⟨gb317, 4, none⟩ = some (.int .i64 t314) := bc BK317 4
         have hcz32_5 : w15.cell? ⟨gb317, 5, none⟩ = some (.string t315) := bc BK317 5
         have hcz32_6 : w15.cell? ⟨gb317, 6, none⟩ = some (.string t316) := bc BK317 6
         have hfz32_0 := blk_frozen BK317.out 0
         have hfz32_1 := blk_frozen BK317.out 1
         have hfz32_2 := blk_frozen BK317.out 2
         have hfz32_3 := blk_frozen BK317.out 3
         have hfz32_4 := blk_frozen BK317.out 4
         have hfz32_5 := blk_frozen BK317.out 5
         have hfz32_6 := blk_frozen BK317.out 6
         go_wp2_with (first | ((with_reducible refine gate_callee (f := 8) rfl ?_); refine goesL_ (some 33) rfl rfl Try.func8 (by kernel_rfl) rfl #[.agg #[.int .i64 t310, .int .i64 t311, .int .i64 t312, .int .i64 t313, .int .i64 t314, .string t315, .string t316]] rfl gl_ ?_; (with_reducible refine (spec_DownPut.calls kj2 t310 t311 t312 t313 t314 t315 t316 t328 _ A18.out).mono ?_); rintro e w33 ⟨rfl, hb⟩; refine ⟨_, rfl, ?_⟩; have n0_ := m_ (blk_below (g := gb317) (o := .cells #[.int .i64 t310, .int .i64 t311, .int .i64 t312, .int .i64 t313, .int .i64 t314, .string t315, .string t316] 26 (0, 0)) (kF BK317.out NB317_327.out) hb); have n1_ := m_ (blk_below (g := gb327) (o := .cells #[.int .i64 t319, .int .i64 t320, .int .i64 t321, .int .i64 t322, .int .i64 t323, .string t324, .string t325] 26 (0, 0)) (kP BK327.out) hb); have n2_ := m_ (below_step (bN HB.out) hb); clear BK317; clear BK327; clear HB; have BK317 := n0_; have BK327 := n1_; have HB := n2_; clear n0_ n1_ n2_; (try clear hb); (try clear hb2); (try clear hk); (try clear hi); have hcz34_0 : w33.cell? ⟨gb327, 0, none⟩ = some (.int .i64 t319) := bc BK327 0; have hcz34_1 : w33.cell? ⟨gb327, 1, none⟩ = some (.int .i64 t320) := bc BK327 1; have hcz34_2 : w33.cell? ⟨gb327, 2, none⟩ = some (.int .i64 t321) := bc BK327 2; have hcz34_3 : w33.cell? ⟨gb327, 3, none⟩ = some (.int .i64 t322) := bc BK327 3; have hcz34_4 : w33.cell? ⟨gb327, 4, none⟩ = some (.int .i64 t323) := bc BK327 4; have hcz34_5 : w33.cell? ⟨gb327, 5, none⟩ = some (.string t324) := bc BK327 5; have hcz34_6 : w33.cell? ⟨gb327, 6, none⟩ = some (.string t325) := bc BK327 6; have hfz34_0 := blk_frozen BK327.out 0; have hfz34_1 := blk_frozen BK327.out 1; have hfz34_2 := blk_frozen BK327.out 2; have hfz34_3 := blk_frozen BK327.out 3; have hfz34_4 := blk_frozen BK327.out 4; have hfz34_5 := blk_frozen BK327.out 5; have hfz34_6 := blk_frozen BK327.out 6; have hcz35_0 : w33.cell? ⟨gb317, 0, none⟩ = some (.int .i64 t310) := bc BK317 0; have hcz35_1 : w33.cell? ⟨gb317, 1, none⟩ = some (.int .i64 t311) := bc BK317 1; have hcz35_2 : w33.cell? ⟨gb317, 2, none⟩ = some (.int .i64 t312) := bc BK317 2; have hcz35_3 : w33.cell? ⟨gb317, 3, none⟩ = some (.int .i64 t313) := bc BK317 3; have hcz35_4 : w33.cell? ⟨gb317, 4, none⟩ = some (.int .i64 t314) := bc BK317 4; have hcz35_5 : w33.cell? ⟨gb317, 5, none⟩ = some (.string t315) := bc BK317 5; have hcz35_6 : w33.cell? ⟨gb317, 6, none⟩ = some (.string t316) := bc BK317 6; have hfz35_0 := blk_frozen BK317.out 0; have hfz35_1 := blk_frozen BK317.out 1; have hfz35_2 := blk_frozen BK317.out 2; have hfz35_3 := blk_frozen BK317.out 3; have hfz35_4 := blk_frozen BK317.out 4; have hfz35_5 := blk_frozen BK317.out 5; have hfz35_6 := blk_frozen BK317.out 6))
         go_meet
         case rel => exact ⟨_, (((t318.size : Int) != 40)), (by first | rfl | (simp; done) | (simp [*]; done)), H', ⟨by have := HJ2.out; first | omega | exact Nat.le_refl _⟩, ⟨kN BK317.out⟩, ⟨kN BK327.out⟩, ⟨by repeat (first | (with_reducible first | exact HB.out | apply below_alloc | apply pw_below_drewN | apply below_drew1 | refine below_set ?_ GE317.out | refine below_set ?_ GE327.out) | exact HB.out)⟩⟩
       ·replace c24 := Bool.eq_false_iff.mpr c24
        subst c24
        replace c20b7 : t318.toList.isEmpty = true := c20b7
        have H1 : (laws_FnDownBack.j1 kj2 l1 false) = some r := by rw [if_neg (show ¬ (false = true) by decide)] at H; exact H
        clear H
        have H := H1
        clear H1
        have H' := Aside0.mk H
        clear H
        have hnb36 := NB317_327.out
        have hnc36 := NB327_317.out
        have hcz37_0 : w15.cell? ⟨gb317, 0, none⟩ = some (.int .i64 t310) := bc BK317 0
        have hcz37_1 : w15.cell? ⟨gb317, 1, none⟩ = some (.int .i64 t311) := bc BK317 1
        have hcz37_2 : w15.cell? ⟨gb317, 2, none⟩ = some (.int .i64 t312) := bc BK317 2
        have hcz37_3 : w15.cell? ⟨gb317, 3, none⟩ = some (.int .i64 t313) := bc BK317 3
        have hcz37_4 : w15.cell? ⟨gb317, 4, none⟩ = some (.int .i64 t314) := bc BK317 4
        have hcz37_5 : w15.cell? ⟨gb317, 5, none⟩ = some (.string t315) := bc BK317 5
        have hcz37_6 : w15.cell? ⟨gb317, 6, none⟩ = some (.string t316) := bc BK317 6
        have hfz37_0 := blk_frozen BK317.out 0
        have hfz37_1 := blk_frozen BK317.out 1
        have hfz37_2 := blk_frozen BK317.out 2
        have hfz37_3 := blk_frozen BK317.out 3
        have hfz37_4 := blk_frozen BK317.out 4
        have hfz37_5 := blk_frozen BK317.out 5
        have hfz37_6 := blk_frozen BK317.out 6
        go_wp2_with (first | ((with_reducible refine gate_callee (f := 8) rfl ?_); refine goesL_ (some 33) rfl rfl Try.func8 (by kernel_rfl) rfl #[.agg #[.int .i64 t310, .int .i64 t311, .int .i64 t312, .int .i64 t313, .int .i64 t314, .string t315, .string t316]] rfl gl_ ?_; (with_reducible refine (spec_DownPut.calls kj2 t310 t311 t312 t313 t314 t315 t316 t328 _ A18.out).mono ?_); rintro e w38 ⟨rfl, hb⟩; refine ⟨_, rfl, ?_⟩; have n0_ := m_ (blk_below (g := gb317) (o := .cells #[.int .i64 t310, .int .i64 t311, .int .i64 t312, .int .i64 t313, .int .i64 t314, .string t315, .string t316] 26 (0, 0)) (kF BK317.out NB317_327.out) hb); have n1_ := m_ (blk_below (g := gb327) (o := .cells #[.int .i64 t319, .int .i64 t320, .int .i64 t321, .int .i64 t322, .int .i64 t323, .string t324, .string t325] 26 (0, 0)) (kP BK327.out) hb); have n2_ := m_ (below_step (bN HB.out) hb); clear BK317; clear BK327; clear HB; have BK317 := n0_; have BK327 := n1_; have HB := n2_; clear n0_ n1_ n2_; (try clear hb); (try clear hb2); (try clear hk); (try clear hi)))
        go_meet
        case rel => exact ⟨_, (false), (by first | rfl | (simp; done) | (simp [*]; done)), H', ⟨by have := HJ2.out; first | omega | exact Nat.le_refl _⟩, ⟨kN BK317.out⟩, ⟨kN BK327.out⟩, ⟨by repeat (first | (with_reducible first | exact HB.out | apply below_alloc | apply pw_below_drewN | apply below_drew1 | refine below_set ?_ GE317.out | refine below_set ?_ GE327.out) | exact HB.out)⟩⟩
     ·rw [if_neg c19] at H
      have c19b0 : (t318.toList == t328.toList) = false := beq_eq_false_iff_ne.mpr c19
      have c19b1 : (t318.toList != t328.toList) = true := bne_iff_ne.mpr c19
      (first | rw [c19b0] | (simp only [i64_w, i32_w]; rw [c19b0]) | skip)
      have H' := Aside0.mk H
      clear H
      have hnb39 := NB317_327.out
      have hnc39 := NB327_317.out
      have hcz40_0 : w15.cell? ⟨gb317, 0, none⟩ = some (.int .i64 t310) := bc BK317 0
      have hcz40_1 : w15.cell? ⟨gb317, 1, none⟩ = some (.int .i64 t311) := bc BK317 1
      have hcz40_2 : w15.cell? ⟨gb317, 2, none⟩ = some (.int .i64 t312) := bc BK317 2
      have hcz40_3 : w15.cell? ⟨gb317, 3, none⟩ = some (.int .i64 t313) := bc BK317 3
      have hcz40_4 : w15.cell? ⟨gb317, 4, none⟩ = some (.int .i64 t314) := bc BK317 4
      have hcz40_5 : w15.cell? ⟨gb317, 5, none⟩ = some (.string t315) := bc BK317 5
      have hcz40_6 : w15.cell? ⟨gb317, 6, none⟩ = some (.string t316) := bc BK317 6
      have hfz40_0 := blk_frozen BK317.out 0
      have hfz40_1 := blk_frozen BK317.out 1
      have hfz40_2 := blk_frozen BK317.out 2
      have hfz40_3 := blk_frozen BK317.out 3
      have hfz40_4 := blk_frozen BK317.out 4
      have hfz40_5 := blk_frozen BK317.out 5
      have hfz40_6 := blk_frozen BK317.out 6
      go_wp2_with (first | ((with_reducible refine gate_callee (f := 8) rfl ?_); refine goesL_ (some 33) rfl rfl Try.func8 (by kernel_rfl) rfl #[.agg #[.int .i64 t310, .int .i64 t311, .int .i64 t312, .int .i64 t313, .int .i64 t314, .string t315, .string t316]] rfl gl_ ?_; (with_reducible refine (spec_DownPut.calls kj2 t310 t311 t312 t313 t314 t315 t316 t328 _ A18.out).mono ?_); rintro e w41 ⟨rfl, hb⟩; refine ⟨_, rfl, ?_⟩; have n0_ := m_ (blk_below (g := gb317) (o := .cells #[.int .i64 t310, .int .i64 t311, .int .i64 t312, .int .i64 t313, .int .i64 t314, .string t315, .string t316] 26 (0, 0)) (kF BK317.out NB317_327.out) hb); have n1_ := m_ (blk_below (g := gb327) (o := .cells #[.int .i64 t319, .int .i64 t320, .int .i64 t321, .int .i64 t322, .int .i64 t323, .string t324, .string t325] 26 (0, 0)) (kP BK327.out) hb); have n2_ := m_ (below_step (bN HB.out) hb); clear BK317; clear BK327; clear HB; have BK317 := n0_; have BK327 := n1_; have HB := n2_; clear n0_ n1_ n2_; (try clear hb); (try clear hb2); (try clear hk); (try clear hi)))
      go_meet
      case rel => exact ⟨_, (true), (by first | rfl | (simp; done) | (simp [*]; done)), H', ⟨by have := HJ2.out; first | omega | exact Nat.le_refl _⟩, ⟨kN BK317.out⟩, ⟨kN BK327.out⟩, ⟨by repeat (first | (with_reducible first | exact HB.out | apply below_alloc | apply pw_below_drewN | apply below_drew1 | refine below_set ?_ GE317.out | refine below_set ?_ GE327.out) | exact HB.out)⟩⟩
    case rest =>
     clear HC9
     try clear c1
     try clear c2
     try clear p2
     try clear c3
     try clear c4
     try clear c4b0
     try clear c4b1
     try clear c5
     try clear c6
     try clear c8
     try clear c10
     try clear c12
     try clear c14
     try clear c16
     try clear c19
     try clear c19b0
     try clear c19b1
     try clear c20
     try clear c20b0
     try clear c20b1
     try clear c20b2
     try clear c21
     try clear c24
     try clear c25
     try clear c25b0
     try clear c26
     try clear c31
     try clear c36
     try clear c39
     try clear hcz12_0
     try clear hcz12_1
     try clear hcz12_2
     try clear hcz12_3
     try clear hcz12_4
     try clear hcz12_5
     try clear hcz12_6
     try clear hcz17_0
     try clear hcz17_1
     try clear hcz17_2
     try clear hcz17_3
     try clear hcz17_4
     try clear hcz17_5
     try clear hcz17_6
     try clear hcz22_0
     try clear hcz22_1
     try clear hcz22_2
     try clear hcz22_3
     try clear hcz22_4
     try clear hcz22_5
     try clear hcz22_6
     try clear hcz27_0
     try clear hcz27_1
     try clear hcz27_2
     try clear hcz27_3
     try clear hcz27_4
     try clear hcz27_5
     try clear hcz27_6
     try clear hcz29_0
     try clear hcz29_1
     try clear hcz29_2
     try clear hcz29_3
     try clear hcz29_4
     try clear hcz29_5
     try clear hcz29_6
     try clear hcz30_0
     try clear hcz30_1
     try clear hcz30_2
     try clear hcz30_3
     try clear hcz30_4
     try clear hcz30_5
     try clear hcz30_6
     try clear hcz32_0
     try clear hcz32_1
     try clear hcz32_2
     try clear hcz32_3
     try clear hcz32_4
     try clear hcz32_5
     try clear hcz32_6
     try clear hcz34_0
     try clear hcz34_1
     try clear hcz34_2
     try clear hcz34_3
     try clear hcz34_4
     try clear hcz34_5
     try clear hcz34_6
     try clear hcz35_0
     try clear hcz35_1
     try clear hcz35_2
     try clear hcz35_3
     try clear hcz35_4
     try clear hcz35_5
     try clear hcz35_6
     try clear hcz37_0
     try clear hcz37_1
     try clear hcz37_2
     try clear hcz37_3
     try clear hcz37_4
     try clear hcz37_5
     try clear hcz37_6
     try clear hcz40_0
     try clear hcz40_1
     try clear hcz40_2
     try clear hcz40_3
     try clear hcz40_4
     try clear hcz40_5
     try clear hcz40_6
     try clear hfz12_0
     try clear hfz12_1
     try clear hfz12_2
     try clear hfz12_3
     try clear hfz12_4
     try clear hfz12_5
     try clear hfz12_6
     try clear hfz17_0
     try clear hfz17_1
     try clear hfz17_2
     try clear hfz17_3
     try clear hfz17_4
     try clear hfz17_5
     try clear hfz17_6
     try clear hfz22_0
     try clear hfz22_1
     try clear hfz22_2
     try clear hfz22_3
     try clear hfz22_4
     try clear hfz22_5
     try clear hfz22_6
     try clear hfz27_0
     try clear hfz27_1
     try clear hfz27_2
     try clear hfz27_3
     try clear hfz27_4
     try clear hfz27_5
     try clear hfz27_6
     try clear hfz29_0
     try clear hfz29_1
     try clear hfz29_2
     try clear hfz29_3
     try clear hfz29_4
     try clear hfz29_5
     try clear hfz29_6
     try clear hfz30_0
     try clear hfz30_1
     try clear hfz30_2
     try clear hfz30_3
     try clear hfz30_4
     try clear hfz30_5
     try clear hfz30_6
     try clear hfz32_0
     try clear hfz32_1
     try clear hfz32_2
     try clear hfz32_3
     try clear hfz32_4
     try clear hfz32_5
     try clear hfz32_6
     try clear hfz34_0
     try clear hfz34_1
     try clear hfz34_2
     try clear hfz34_3
     try clear hfz34_4
     try clear hfz34_5
     try clear hfz34_6
     try clear hfz35_0
     try clear hfz35_1
     try clear hfz35_2
     try clear hfz35_3
     try clear hfz35_4
     try clear hfz35_5
     try clear hfz35_6
     try clear hfz37_0
     try clear hfz37_1
     try clear hfz37_2
     try clear hfz37_3
     try clear hfz37_4
     try clear hfz37_5
     try clear hfz37_6
     try clear hfz40_0
     try clear hfz40_1
     try clear hfz40_2
     try clear hfz40_3
     try clear hfz40_4
     try clear hfz40_5
     try clear hfz40_6
     try clear p2
     obtain ⟨kq, x53_8, rfl, HA, HJ8, BK317, BK327, HB⟩ := hcut
     cases kq with
     | zero => exact absurd HA.out (by simp [laws_FnDownBack.j1])
     | succ kj8 =>
      have H := HA.out
      clear HA
      simp only [laws_FnDownBack.j1] at H
      by_cases c42 : x53_8 = true
      ·subst c42
       have H1 : (some false) = some r := by rw [if_pos rfl] at H; exact H
       clear H
       have H := H1
       clear H1
       obtain rfl := Option.some.inj H
       go_wp2
       go_ret
       exact ⟨by first | rfl | (simp [errW_none, errW_some] <;> rfl) | (simp [*, errW_none, errW_some] <;> rfl), by repeat (first | (with_reducible first | exact HB.out | apply below_alloc | apply pw_below_drewN | apply below_drew1 | refine below_set ?_ GE317.out | refine below_set ?_ GE327.out) | exact HB.out)⟩
      ·replace c42 := Bool.eq_false_iff.mpr c42
       subst c42
       have H1 : ((spec_DrawDownGet.f kj8 l1).bind fun t329 => ((impl_DownGet.f kj8 t329).bind fun bt330 => ((spec_DownGet.f kj8 t329).bind fun bt339 => (if (bt330.1 == bt339.1 && (bt330.2.1 == bt339.2.1 && (bt330.2.2.1 == bt339.2.2.1 && (bt330.2.2.2.1 == bt339.2.2.2.1 && (bt330.2.2.2.2.1 == bt339.2.2.2.2.1 && (bt330.2.2.2.2.2.1.toList == bt339.2.2.2.2.2.1.toList && (bt330.2.2.2.2.2.2.1.toList == bt339.2.2.2.2.2.2.1.toList))))))) = true then (if (bt330.2.2.2.2.2.2.2 == bt339.2.2.2.2.2.2.2) = true then (if bt330.2.2.2.2.2.2.2 = true then ((impl_DownPut.f kj8 bt330.1 bt330.2.1 bt330.2.2.1 bt330.2.2.2.1 bt330.2.2.2.2.1 bt330.2.2.2.2.2.1 bt330.2.2.2.2.2.2.1).bind fun t348 => (some (t348.toList == t329.toList))) else (some true)) else (some false)) else (some false))))) = some r := by rw [if_neg (show ¬ (false = true) by decide)] at H; exact H
       clear H
       have H := H1
       clear H1
       replace H := Option.bind_eq_some_iff.mp H
       obtain ⟨t329, A430, H⟩ := H
       replace H : ((impl_DownGet.f kj8 t329).bind fun bt330 => ((spec_DownGet.f kj8 t329).bind fun bt339 => (if (bt330.1 == bt339.1 && (bt330.2.1 == bt339.2.1 && (bt330.2.2.1 == bt339.2.2.1 && (bt330.2.2.2.1 == bt339.2.2.2.1 && (bt330.2.2.2.2.1 == bt339.2.2.2.2.1 && (bt330.2.2.2.2.2.1.toList == bt339.2.2.2.2.2.1.toList && (bt330.2.2.2.2.2.2.1.toList == bt339.2.2.2.2.2.2.1.toList))))))) = true then (if (bt330.2.2.2.2.2.2.2 == bt339.2.2.2.2.2.2.2) = true then (if bt330.2.2.2.2.2.2.2 = true then ((impl_DownPut.f kj8 bt330.1 bt330.2.1 bt330.2.2.1 bt330.2.2.2.1 bt330.2.2.2.2.1 bt330.2.2.2.2.2.1 bt330.2.2.2.2.2.2.1).bind fun t348 => (some (t348.toList == t329.toList))) else (some true)) else (some false)) else (some false)))) = some r := H
       have A43 := Aside0.mk A430
       clear A430
       replace H := Option.bind_eq_some_iff.mp H
       obtain ⟨⟨t330, t331, t332, t333, t334, t335, t336, t337⟩, A440, H⟩ := H
       replace H : ((spec_DownGet.f kj8 t329).bind fun bt339 => (if (t330 == bt339.1 && (t331 == bt339.2.1 && (t332 == bt339.2.2.1 && (t333 == bt339.2.2.2.1 && (t334 == bt339.2.2.2.2.1 && (t335.toList == bt339.2.2.2.2.2.1.toList && (t336.toList == bt339.2.2.2.2.2.2.1.toList))))))) = true then (if (t337 == bt339.2.2.2.2.2.2.2) = true then (if t337 = true then ((impl_DownPut.f kj8 t330 t331 t332 t333 t334 t335 t336).bind fun t348 => (some (t348.toList == t329.toList))) else (some true)) else (some false)) else (some false))) = some r := H
       have A44 := Aside0.mk A440
       clear A440
       replace H := Option.bind_eq_some_iff.mp H
       obtain ⟨⟨t339, t340, t341, t342, t343, t344, t345, t346⟩, A450, H⟩ := H
       replace H : (if (t330 == t339 && (t331 == t340 && (t332 == t341 && (t333 == t342 && (t334 == t343 && (t335.toList == t344.toList && (t336.toList == t345.toList))))))) = true then (if (t337 == t346) = true then (if t337 = true then ((impl_DownPut.f kj8 t330 t331 t332 t333 t334 t335 t336).bind fun t348 => (some (t348.toList == t329.toList))) else (some true)) else (some false)) else (some false)) = some r := H
       have A45 := Aside0.mk A450
       clear A450
       by_cases c46 : (t330 == t339 && (t331 == t340 && (t332 == t341 && (t333 == t342 && (t334 == t343 && (t335.toList == t344.toList && (t336.toList == t345.toList))))))) = true
       ·rw [if_pos c46] at H
        have c46b0 : (t330 == t339 && (t331 == t340 && (t332 == t341 && (t333 == t342 && (t334 == t343 && (t335.toList == t344.toList && (t336.toList == t345.toList))))))) = true := c46
        (try (have c46b1 : decide (t330 = t339 && (t331 == t340 && (t332 == t341 && (t333 == t342 && (t334 == t343 && (t335.toList == t344.toList && (t336.toList == t345.toList))))))) = true := by simpa using c46))
        (try (have c46b2 : (t330 == t339 && (t331 == t340 && (t332 == t341 && (t333 == t342 && (t334 == t343 && (t335.toList == t344.toList && (t336.toList == t345.toList))))))) = true := by simpa using c46))
        clear c46
        by_cases c47 : (t337 == t346) = true
        ·rw [if_pos c47] at H
         have c47b0 : (t337 == t346) = true := c47
         (try (have c47b1 : decide (t337 = t346) = true := by simpa using c47))
         (try (have c47b2 : (t337 == t346) = true := by simpa using c47))
         clear c47
         by_cases c48 : t337 = true
         ·subst c48
          have H1 : ((impl_DownPut.f kj8 t330 t331 t332 t333 t334 t335 t336).bind fun t348 => (some (t348.toList == t329.toList))) = some r := by rw [if_pos rfl] at H; exact H
          clear H
          have H := H1
          clear H1
          replace H := Option.bind_eq_some_iff.mp H
          obtain ⟨t348, A490, H⟩ := H
          replace H : (some (t348.toList == t329.toList)) = some r := H
          have A49 := Aside0.mk A490
          clear A490
          obtain rfl := Option.some.inj H
          go_wp2_with (first | ((with_reducible refine gate_callee (f := 15) rfl ?_); refine goesL_ (some 55) rfl rfl Try.func15 (by kernel_rfl) rfl #[.slice A1 l1.length c1] rfl gl_ ?_; (with_reducible refine (spec_DrawDownGet.calls kj8 _ _ l1 t329 _ ?side1 ?side2 A43.out).mono ?_); (case side1 => exact cN (Kd.C_below HR1.out HB.out)); (case side2 => exact HC1.out); rintro e w50 ⟨rfl, hb⟩; refine ⟨_, rfl, ?_⟩; have n0_ := m_ (blk_below (kN BK317.out) hb); have n1_ := m_ (blk_below (kN BK327.out) hb); have n2_ := m_ (below_step (bN HB.out) hb); clear BK317; clear BK327; clear HB; have BK317 := n0_; have BK327 := n1_; have HB := n2_; clear n0_ n1_ n2_; (try clear hb); (try clear hb2); (try clear hk); (try clear hi)) | ((with_reducible refine gate_callee (f := 12) rfl ?_); refine goesL_ (some 58) rfl rfl Try.func12 (by kernel_rfl) rfl #[.string t329] rfl gl_ ?_; (with_reducible refine (impl_DownGet.calls kj8 t329 t330 t331 t332 t333 t334 t335 t336 true _ A44.out).mono ?_); rintro e w51 ⟨rfl, hb⟩; refine ⟨_, rfl, ?_⟩; have n0_ := m_ (blk_below (kN BK317.out) hb); have n1_ := m_ (blk_below (kN BK327.out) hb); have n2_ := m_ (below_step (bN HB.out) hb); clear BK317; clear BK327; clear HB; have BK317 := n0_; have BK327 := n1_; have HB := n2_; clear n0_ n1_ n2_; (try clear hb); (try clear hb2); (try clear hk); (try clear hi)) | ((with_reducible refine gate_dst (N := 10) rfl ?_); (try (refine gate_guard (by rfl) ?_; dsimp only)); refine box_event ?hg (N := 10) ?hd (cs := #[.int .i64 0, .int .i64 0, .int .i64 0, .int .i64 0, .int .i64 0, .string (⟨#[]⟩ : ByteArray), .string (⟨#[]⟩ : ByteArray)]) (t := 26) ?hr ?_; (case hd => rfl); (case hg => rfl); (case hr => first | (go_simp; done) | (go_simp; rfl)); intro gb338 hg w52 hbox hb; have n0_ := m_ (blk_below (kN BK317.out) hb); have n1_ := m_ (blk_below (kN BK327.out) hb); have n2_ := m_ (below_step (bN HB.out) hb); have n3_ := m_ (hbox); have n4_ := m_ ((by rw [hg]; exact (below_size (bN HB.out)) : w.heap.size ≤ gb338)); have n5_ := m_ ((by rw [hg]; exact (below_size (bN HB.out)) : w.heap.size ≤ gb338)); have n6_ := m_ (nL hg BK317.out); have n7_ := m_ (nG hg BK317.out); have n8_ := m_ (nL hg BK327.out); have n9_ := m_ (nG hg BK327.out); clear BK317; clear BK327; clear HB; have BK317 := n0_; have BK327 := n1_; have HB := n2_; have BK338 := n3_; have GW338 := n4_; have GE338 := n5_; have NB317_338 := n6_; have NB338_317 := n7_; have NB327_338 := n8_; have NB338_327 := n9_; clear n0_ n1_ n2_ n3_ n4_ n5_ n6_ n7_ n8_ n9_; clear hb hbox hg; have hnb53 := NB338_317.out; have hnc53 := NB317_338.out; have hnb54 := NB338_327.out; have hnc54 := NB327_338.out; have hcz55_0 : w52.cell? ⟨gb338, 0, none⟩ = some (.int .i64 0) := bc BK338 0; have hcz55_1 : w52.cell? ⟨gb338, 1, none⟩ = some (.int .i64 0) := bc BK338 1; have hcz55_2 : w52.cell? ⟨gb338, 2, none⟩ = some (.int .i64 0) := bc BK338 2; have hcz55_3 : w52.cell? ⟨gb338, 3, none⟩ = some (.int .i64 0) := bc BK338 3; have hcz55_4 : w52.cell? ⟨gb338, 4, none⟩ = some (.int .i64 0) := bc BK338 4; have hcz55_5 : w52.cell? ⟨gb338, 5, none⟩ = some (.string (⟨#[]⟩ : ByteArray)) := bc BK338 5; have hcz55_6 : w52.cell? ⟨gb338, 6, none⟩ = some (.string (⟨#[]⟩ : ByteArray)) := bc BK338 6; have hfz55_0 := blk_frozen BK338.out 0; have hfz55_1 := blk_frozen BK338.out 1; have hfz55_2 := blk_frozen BK338.out 2; have hfz55_3 := blk_frozen BK338.out 3; have hfz55_4 := blk_frozen BK338.out 4; have hfz55_5 := blk_frozen BK338.out 5; have hfz55_6 := blk_frozen BK338.out 6) | ((with_reducible refine gate_callee (f := 11) rfl ?_); refine goesL_ (some 63) rfl rfl Try.func11 (by kernel_rfl) rfl #[.string t329] rfl gl_ ?_; (with_reducible refine (spec_DownGet.calls kj8 t329 t339 t340 t341 t342 t343 t344 t345 t346 _ A45.out).mono ?_); rintro e w56 ⟨rfl, hb⟩; refine ⟨_, rfl, ?_⟩; have n0_ := m_ (blk_below (g := gb317) (o := .cells #[.int .i64 t310, .int .i64 t311, .int .i64 t312, .int .i64 t313, .int .i64 t314, .string t315, .string t316] 26 (0, 0)) (kF BK317.out NB317_338.out) hb); have n1_ := m_ (blk_below (g := gb327) (o := .cells #[.int .i64 t319, .int .i64 t320, .int .i64 t321, .int .i64 t322, .int .i64 t323, .string t324, .string t325] 26 (0, 0)) (kF BK327.out NB327_338.out) hb); have n2_ := m_ (blk_below (g := gb338) (o := .cells #[.int .i64 t330, .int .i64 t331, .int .i64 t332, .int .i64 t333, .int .i64 t334, .string t335, .string t336] 26 (0, 0)) (kP BK338.out) hb); have n3_ := m_ (below_step (bN HB.out) hb); clear BK317; clear BK327; clear BK338; clear HB; have BK317 := n0_; have BK327 := n1_; have BK338 := n2_; have HB := n3_; clear n0_ n1_ n2_ n3_; (try clear hb); (try clear hb2); (try clear hk); (try clear hi)) | ((with_reducible refine gate_dst (N := 12) rfl ?_); (try (refine gate_guard (by rfl) ?_; dsimp only)); refine box_event ?hg (N := 12) ?hd (cs := #[.int .i64 0, .int .i64 0, .int .i64 0, .int .i64 0, .int .i64 0, .string (⟨#[]⟩ : ByteArray), .string (⟨#[]⟩ : ByteArray)]) (t := 26) ?hr ?_; (case hd => rfl); (case hg => rfl); (case hr => first | (go_simp; done) | (go_simp; rfl)); intro gb347 hg w57 hbox hb; have n0_ := m_ (blk_below (kN BK317.out) hb); have n1_ := m_ (blk_below (kN BK327.out) hb); have n2_ := m_ (blk_below (kN BK338.out) hb); have n3_ := m_ (below_step (bN HB.out) hb); have n4_ := m_ (hbox); have n5_ := m_ ((by rw [hg]; exact (below_size (bN HB.out)) : w.heap.size ≤ gb347)); have n6_ := m_ ((by rw [hg]; exact (below_size (bN HB.out)) : w.heap.size ≤ gb347)); have n7_ := m_ (nL hg BK317.out); have n8_ := m_ (nG hg BK317.out); have n9_ := m_ (nL hg BK327.out); have n10_ := m_ (nG hg BK327.out); have n11_ := m_ (nL hg BK338.out); have n12_ := m_ (nG hg BK338.out); clear BK317; clear BK327; clear BK338; clear HB; have BK317 := n0_; have BK327 := n1_; have BK338 := n2_; have HB := n3_; have BK347 := n4_; have GW347 := n5_; have GE347 := n6_; have NB317_347 := n7_; have NB347_317 := n8_; have NB327_347 := n9_; have NB347_327 := n10_; have NB338_347 := n11_; have NB347_338 := n12_; clear n0_ n1_ n2_ n3_ n4_ n5_ n6_ n7_ n8_ n9_ n10_ n11_ n12_; clear hb hbox hg; have hnb58 := NB347_317.out; have hnc58 := NB317_347.out; have hnb59 := NB347_327.out; have hnc59 := NB327_347.out; have hnb60 := NB347_338.out; have hnc60 := NB338_347.out; have hcz61_0 : w57.cell? ⟨gb347, 0, none⟩ = some (.int .i64 0) := bc BK347 0; have hcz61_1 : w57.cell? ⟨gb347, 1, none⟩ = some (.int .i64 0) := bc BK347 1; have hcz61_2 : w57.cell? ⟨gb347, 2, none⟩ = some (.int .i64 0) := bc BK347 2; have hcz61_3 : w57.cell? ⟨gb347, 3, none⟩ = some (.int .i64 0) := bc BK347 3; have hcz61_4 : w57.cell? ⟨gb347, 4, none⟩ = some (.int .i64 0) := bc BK347 4; have hcz61_5 : w57.cell? ⟨gb347, 5, none⟩ = some (.string (⟨#[]⟩ : ByteArray)) := bc BK347 5; have hcz61_6 : w57.cell? ⟨gb347, 6, none⟩ = some (.string (⟨#[]⟩ : ByteArray)) := bc BK347 6; have hfz61_0 := blk_frozen BK347.out 0; have hfz61_1 := blk_frozen BK347.out 1; have hfz61_2 := blk_frozen BK347.out 2; have hfz61_3 := blk_frozen BK347.out 3; have hfz61_4 := blk_frozen BK347.out 4; have hfz61_5 := blk_frozen BK347.out 5; have hfz61_6 := blk_frozen BK347.out 6; have hcz62_0 : w57.cell? ⟨gb338, 0, none⟩ = some (.int .i64 t330) := bc BK338 0; have hcz62_1 : w57.cell? ⟨gb338, 1, none⟩ = some (.int .i64 t331) := bc BK338 1; have hcz62_2 : w57.cell? ⟨gb338, 2, none⟩ = some (.int .i64 t332) := bc BK338 2; have hcz62_3 : w57.cell? ⟨gb338, 3, none⟩ = some (.int .i64 t333) := bc BK338 3; have hcz62_4 : w57.cell? ⟨gb338, 4, none⟩ = some (.int .i64 t334) := bc BK338 4; have hcz62_5 : w57.cell? ⟨gb338, 5, none⟩ = some (.string t335) := bc BK338 5; have hcz62_6 : w57.cell? ⟨gb338, 6, none⟩ = some (.string t336) := bc BK338 6; have hfz62_0 := blk_frozen BK338.out 0; have hfz62_1 := blk_frozen BK338.out 1; have hfz62_2 := blk_frozen BK338.out 2; have hfz62_3 := blk_frozen BK338.out 3; have hfz62_4 := blk_frozen BK338.out 4; have hfz62_5 := blk_frozen BK338.out 5; have hfz62_6 := blk_frozen BK338.out 6) | (go_at_call 10; (with_reducible refine (impl_DownPut.calls kj8 t330 t331 t332 t333 t334 t335 t336 t348 _ A49.out).mono ?_); rintro e w63 ⟨rfl, hb⟩; have n0_ := m_ (blk_below (g := gb317) (o := .cells #[.int .i64 t310, .int .i64 t311, .int .i64 t312, .int .i64 t313, .int .i64 t314, .string t315, .string t316] 26 (0, 0)) (kF BK317.out NB317_347.out) hb); have n1_ := m_ (blk_below (g := gb327) (o := .cells #[.int .i64 t319, .int .i64 t320, .int .i64 t321, .int .i64 t322, .int .i64 t323, .string t324, .string t325] 26 (0, 0)) (kF BK327.out NB327_347.out) hb); have n2_ := m_ (blk_below (g := gb338) (o := .cells #[.int .i64 t330, .int .i64 t331, .int .i64 t332, .int .i64 t333, .int .i64 t334, .string t335, .string t336] 26 (0, 0)) (kF BK338.out NB338_347.out) hb); have n3_ := m_ (blk_below (g := gb347) (o := .cells #[.int .i64 t339, .int .i64 t340, .int .i64 t341, .int .i64 t342, .int .i64 t343, .string t344, .string t345] 26 (0, 0)) (kP BK347.out) hb); have n4_ := m_ (below_step (bN HB.out) hb); clear BK317; clear BK327; clear BK338; clear BK347; clear HB; have BK317 := n0_; have BK327 := n1_; have BK338 := n2_; have BK347 := n3_; have HB := n4_; clear n0_ n1_ n2_ n3_ n4_; (try clear hb); (try clear hb2); (try clear hk); (try clear hi)))
          go_ret
          exact ⟨by first | rfl | (simp [errW_none, errW_some] <;> rfl) | (simp [*, errW_none, errW_some] <;> rfl), by repeat (first | (with_reducible first | exact HB.out | apply below_alloc | apply pw_below_drewN | apply below_drew1 | refine below_set ?_ GE317.out | refine below_set ?_ GE327.out | refine below_set ?_ GE338.out | refine below_set ?_ GE347.out) | exact HB.out)⟩
         ·replace c48 := Bool.eq_false_iff.mpr c48
          subst c48
          have H1 : (some true) = some r := by rw [if_neg (show ¬ (false = true) by decide)] at H; exact H
          clear H
          have H := H1
          clear H1
          obtain rfl := Option.some.inj H
          go_wp2_with (first | ((with_reducible refine gate_callee (f := 15) rfl ?_); refine goesL_ (some 55) rfl rfl Try.func15 (by kernel_rfl) rfl #[.slice A1 l1.length c1] rfl gl_ ?_; (with_reducible refine (spec_DrawDownGet.calls kj8 _ _ l1 t329 _ ?side1 ?side2 A43.out).mono ?_); (case side1 => exact cN (Kd.C_below HR1.out HB.out)); (case side2 => exact HC1.out); rintro e w64 ⟨rfl, hb⟩; refine ⟨_, rfl, ?_⟩; have n0_ := m_ (blk_below (kN BK317.out) hb); have n1_ := m_ (blk_below (kN BK327.out) hb); have n2_ := m_ (below_step (bN HB.out) hb); clear BK317; clear BK327; clear HB; have BK317 := n0_; have BK327 := n1_; have HB := n2_; clear n0_ n1_ n2_; (try clear hb); (try clear hb2); (try clear hk); (try clear hi)) | ((with_reducible refine gate_callee (f := 12) rfl ?_); refine goesL_ (some 58) rfl rfl Try.func12 (by kernel_rfl) rfl #[.string t329] rfl gl_ ?_; (with_reducible refine (impl_DownGet.calls kj8 t329 t330 t331 t332 t333 t334 t335 t336 false _ A44.out).mono ?_); rintro e w65 ⟨rfl, hb⟩; refine ⟨_, rfl, ?_⟩; have n0_ := m_ (blk_below (kN BK317.out) hb); have n1_ := m_ (blk_below (kN BK327.out) hb); have n2_ := m_ (below_step (bN HB.out) hb); clear BK317; clear BK327; clear HB; have BK317 := n0_; have BK327 := n1_; have HB := n2_; clear n0_ n1_ n2_; (try clear hb); (try clear hb2); (try clear hk); (try clear hi)) | ((with_reducible refine gate_dst (N := 10) rfl ?_); (try (refine gate_guard (by rfl) ?_; dsimp only)); refine box_event ?hg (N := 10) ?hd (cs := #[.int .i64 0, .int .i64 0, .int .i64 0, .int .i64 0, .int .i64 0, .string (⟨#[]⟩ : ByteArray), .string (⟨#[]⟩ : ByteArray)]) (t := 26) ?hr ?_; (case hd => rfl); (case hg => rfl); (case hr => first | (go_simp; done) | (go_simp; rfl)); intro gb338 hg w66 hbox hb; have n0_ := m_ (blk_below (kN BK317.out) hb); have n1_ := m_ (blk_below (kN BK327.out) hb); have n2_ := m_ (below_step (bN HB.out) hb); have n3_ := m_ (hbox); have n4_ := m_ ((by rw [hg]; exact (below_size (bN HB.out)) : w.heap.size ≤ gb338)); have n5_ := m_ ((by rw [hg]; exact (below_size (bN HB.out)) : w.heap.size ≤ gb338)); have n6_ := m_ (nL hg BK317.out); have n7_ := m_ (nG hg BK317.out); have n8_ := m_ (nL hg BK327.out); have n9_ := m_ (nG hg BK327.out); clear BK317; clear BK327; clear HB; have BK317 := n0_; have BK327 := n1_; have HB := n2_; have BK338 := n3_; have GW338 := n4_; have GE338 := n5_; have NB317_338 := n6_; have NB338_317 := n7_; have NB327_338 := n8_; have NB338_327 := n9_; clear n0_ n1_ n2_ n3_ n4_ n5_ n6_ n7_ n8_ n9_; clear hb hbox hg; have hnb67 := NB338_317.out; have hnc67 := NB317_338.out; have hnb68 := NB338_327.out; have hnc68 := NB327_338.out; have hcz69_0 : w66.cell? ⟨gb338, 0, none⟩ = some (.int .i64 0) := bc BK338 0; have hcz69_1 : w66.cell? ⟨gb338, 1, none⟩ = some (.int .i64 0) := bc BK338 1; have hcz69_2 : w66.cell? ⟨gb338, 2, none⟩ = some (.int .i64 0) := bc BK338 2; have hcz69_3 : w66.cell? ⟨gb338, 3, none⟩ = some (.int .i64 0) := bc BK338 3; have hcz69_4 : w66.cell? ⟨gb338, 4, none⟩ = some (.int .i64 0) := bc BK338 4; have hcz69_5 : w66.cell? ⟨gb338, 5, none⟩ = some (.string (⟨#[]⟩ : ByteArray)) := bc BK338 5; have hcz69_6 : w66.cell? ⟨gb338, 6, none⟩ = some (.string (⟨#[]⟩ : ByteArray)) := bc BK338 6; have hfz69_0 := blk_frozen BK338.out 0; have hfz69_1 := blk_frozen BK338.out 1; have hfz69_2 := blk_frozen BK338.out 2; have hfz69_3 := blk_frozen BK338.out 3; have hfz69_4 := blk_frozen BK338.out 4; have hfz69_5 := blk_frozen BK338.out 5; have hfz69_6 := blk_frozen BK338.out 6) | ((with_reducible refine gate_callee (f := 11) rfl ?_); refine goesL_ (some 63) rfl rfl Try.func11 (by kernel_rfl) rfl #[.string t329] rfl gl_ ?_; (with_reducible refine (spec_DownGet.calls kj8 t329 t339 t340 t341 t342 t343 t344 t345 t346 _ A45.out).mono ?_); rintro e w70 ⟨rfl, hb⟩; refine ⟨_, rfl, ?_⟩; have n0_ := m_ (blk_below (g := gb317) (o := .cells #[.int .i64 t310, .int .i64 t311, .int .i64 t312, .int .i64 t313, .int .i64 t314, .string t315, .string t316] 26 (0, 0)) (kF BK317.out NB317_338.out) hb); have n1_ := m_ (blk_below (g := gb327) (o := .cells #[.int .i64 t319, .int .i64 t320, .int .i64 t321, .int .i64 t322, .int .i64 t323, .string t324, .string t325] 26 (0, 0)) (kF BK327.out NB327_338.out) hb); have n2_ := m_ (blk_below (g := gb338) (o := .cells #[.int .i64 t330, .int .i64 t331, .int .i64 t332, .int .i64 t333, .int .i64 t334, .string t335, .string t336] 26 (0, 0)) (kP BK338.out) hb); have n3_ := m_ (below_step (bN HB.out) hb); clear BK317; clear BK327; clear BK338; clear HB; have BK317 := n0_; have BK327 := n1_; have BK338 := n2_; have HB := n3_; clear n0_ n1_ n2_ n3_; (try clear hb); (try clear hb2); (try clear hk); (try clear hi)) | ((with_reducible refine gate_dst (N := 12) rfl ?_); (try (refine gate_guard (by rfl) ?_; dsimp only)); refine box_event ?hg (N := 12) ?hd (cs := #[.int .i64 0, .int .i64 0, .int .i64 0, .int .i64 0, .int .i64 0, .string (⟨#[]⟩ : ByteArray), .string (⟨#[]⟩ : ByteArray)]) (t := 26) ?hr ?_; (case hd => rfl); (case hg => rfl); (case hr => first | (go_simp; done) | (go_simp; rfl)); intro gb347 hg w71 hbox hb; have n0_ := m_ (blk_below (kN BK317.out) hb); have n1_ := m_ (blk_below (kN BK327.out) hb); have n2_ := m_ (blk_below (kN BK338.out) hb); have n3_ := m_ (below_step (bN HB.out) hb); have n4_ := m_ (hbox); have n5_ := m_ ((by rw [hg]; exact (below_size (bN HB.out)) : w.heap.size ≤ gb347)); have n6_ := m_ ((by rw [hg]; exact (below_size (bN HB.out)) : w.heap.size ≤ gb347)); have n7_ := m_ (nL hg BK317.out); have n8_ := m_ (nG hg BK317.out); have n9_ := m_ (nL hg BK327.out); have n10_ := m_ (nG hg BK327.out); have n11_ := m_ (nL hg BK338.out); have n12_ := m_ (nG hg BK338.out); clear BK317; clear BK327; clear BK338; clear HB; have BK317 := n0_; have BK327 := n1_; have BK338 := n2_; have HB := n3_; have BK347 := n4_; have GW347 := n5_; have GE347 := n6_; have NB317_347 := n7_; have NB347_317 := n8_; have NB327_347 := n9_; have NB347_327 := n10_; have NB338_347 := n11_; have NB347_338 := n12_; clear n0_ n1_ n2_ n3_ n4_ n5_ n6_ n7_ n8_ n9_ n10_ n11_ n12_; clear hb hbox hg; have hnb72 := NB347_317.out; have hnc72 := NB317_347.out; have hnb73 := NB347_327.out; have hnc73 := NB327_347.out; have hnb74 := NB347_338.out; have hnc74 := NB338_347.out; have hcz75_0 : w71.cell? ⟨gb347, 0, none⟩ = some (.int .i64 0) := bc BK347 0; have hcz75_1 : w71.cell? ⟨gb347, 1, none⟩ = some (.int .i64 0) := bc BK347 1; have hcz75_2 : w71.cell? ⟨gb347, 2, none⟩ = some (.int .i64 0) := bc BK347 2; have hcz75_3 : w71.cell? ⟨gb347, 3, none⟩ = some (.int .i64 0) := bc BK347 3; have hcz75_4 : w71.cell? ⟨gb347, 4, none⟩ = some (.int .i64 0) := bc BK347 4; have hcz75_5 : w71.cell? ⟨gb347, 5, none⟩ = some (.string (⟨#[]⟩ : ByteArray)) := bc BK347 5; have hcz75_6 : w71.cell? ⟨gb347, 6, none⟩ = some (.string (⟨#[]⟩ : ByteArray)) := bc BK347 6; have hfz75_0 := blk_frozen BK347.out 0; have hfz75_1 := blk_frozen BK347.out 1; have hfz75_2 := blk_frozen BK347.out 2; have hfz75_3 := blk_frozen BK347.out 3; have hfz75_4 := blk_frozen BK347.out 4; have hfz75_5 := blk_frozen BK347.out 5; have hfz75_6 := blk_frozen BK347.out 6; have hcz76_0 : w71.cell? ⟨gb338, 0, none⟩ = some (.int .i64 t330) := bc BK338 0; have hcz76_1 : w71.cell? ⟨gb338, 1, none⟩ = some (.int .i64 t331) := bc BK338 1; have hcz76_2 : w71.cell? ⟨gb338, 2, none⟩ = some (.int .i64 t332) := bc BK338 2; have hcz76_3 : w71.cell? ⟨gb338, 3, none⟩ = some (.int .i64 t333) := bc BK338 3; have hcz76_4 : w71.cell? ⟨gb338, 4, none⟩ = some (.int .i64 t334) := bc BK338 4; have hcz76_5 : w71.cell? ⟨gb338, 5, none⟩ = some (.string t335) := bc BK338 5; have hcz76_6 : w71.cell? ⟨gb338, 6, none⟩ = some (.string t336) := bc BK338 6; have hfz76_0 := blk_frozen BK338.out 0; have hfz76_1 := blk_frozen BK338.out 1; have hfz76_2 := blk_frozen BK338.out 2; have hfz76_3 := blk_frozen BK338.out 3; have hfz76_4 := blk_frozen BK338.out 4; have hfz76_5 := blk_frozen BK338.out 5; have hfz76_6 := blk_frozen BK338.out 6))
          go_ret
          exact ⟨by first | rfl | (simp [errW_none, errW_some] <;> rfl) | (simp [*, errW_none, errW_some] <;> rfl), by repeat (first | (with_reducible first | exact HB.out | apply below_alloc | apply pw_below_drewN | apply below_drew1 | refine below_set ?_ GE317.out | refine below_set ?_ GE327.out | refine below_set ?_ GE338.out | refine below_set ?_ GE347.out) | exact HB.out)⟩
        ·rw [if_neg c47] at H
         have c47b0 : (t337 == t346) = false := by simpa using c47
         (try (have c47b1 : decide (t337 = t346) = false := by simpa using c47))
         (try (have c47b2 : (t337 == t346) = false := by simpa using c47))
         (try (have c47b3 : ¬ (t337 = t346) := by simpa using c47))
         clear c47
         obtain rfl := Option.some.inj H
         go_wp2_with (first | ((with_reducible refine gate_callee (f := 15) rfl ?_); refine goesL_ (some 55) rfl rfl Try.func15 (by kernel_rfl) rfl #[.slice A1 l1.length c1] rfl gl_ ?_; (with_reducible refine (spec_DrawDownGet.calls kj8 _ _ l1 t329 _ ?side1 ?side2 A43.out).mono ?_); (case side1 => exact cN (Kd.C_below HR1.out HB.out)); (case side2 => exact HC1.out); rintro e w77 ⟨rfl, hb⟩; refine ⟨_, rfl, ?_⟩; have n0_ := m_ (blk_below (kN BK317.out) hb); have n1_ := m_ (blk_below (kN BK327.out) hb); have n2_ := m_ (below_step (bN HB.out) hb); clear BK317; clear BK327; clear HB; have BK317 := n0_; have BK327 := n1_; have HB := n2_; clear n0_ n1_ n2_; (try clear hb); (try clear hb2); (try clear hk); (try clear hi)) | ((with_reducible refine gate_callee (f := 12) rfl ?_); refine goesL_ (some 58) rfl rfl Try.func12 (by kernel_rfl) rfl #[.string t329] rfl gl_ ?_; (with_reducible refine (impl_DownGet.calls kj8 t329 t330 t331 t332 t333 t334 t335 t336 t337 _ A44.out).mono ?_); rintro e w78 ⟨rfl, hb⟩; refine ⟨_, rfl, ?_⟩; have n0_ := m_ (blk_below (kN BK317.out) hb); have n1_ := m_ (blk_below (kN BK327.out) hb); have n2_ := m_ (below_step (bN HB.out) hb); clear BK317; clear BK327; clear HB; have BK317 := n0_; have BK327 := n1_; have HB := n2_; clear n0_ n1_ n2_; (try clear hb); (try clear hb2); (try clear hk); (try clear hi)) | ((with_reducible refine gate_dst (N := 10) rfl ?_); (try (refine gate_guard (by rfl) ?_; dsimp only)); refine box_event ?hg (N := 10) ?hd (cs := #[.int .i64 0, .int .i64 0, .int .i64 0, .int .i64 0, .int .i64 0, .string (⟨#[]⟩ : ByteArray), .string (⟨#[]⟩ : ByteArray)]) (t := 26) ?hr ?_; (case hd => rfl); (case hg => rfl); (case hr => first | (go_simp; done) | (go_simp; rfl)); intro gb338 hg w79 hbox hb; have n0_ := m_ (blk_below (kN BK317.out) hb); have n1_ := m_ (blk_below (kN BK327.out) hb); have n2_ := m_ (below_step (bN HB.out) hb); have n3_ := m_ (hbox); have n4_ := m_ ((by rw [hg]; exact (below_size (bN HB.out)) : w.heap.size ≤ gb338)); have n5_ := m_ ((by rw [hg]; exact (below_size (bN HB.out)) : w.heap.size ≤ gb338)); have n6_ := m_ (nL hg BK317.out); have n7_ := m_ (nG hg BK317.out); have n8_ := m_ (nL hg BK327.out); have n9_ := m_ (nG hg BK327.out); clear BK317; clear BK327; clear HB; have BK317 := n0_; have BK327 := n1_; have HB := n2_; have BK338 := n3_; have GW338 := n4_; have GE338 := n5_; have NB317_338 := n6_; have NB338_317 := n7_; have NB327_338 := n8_; have NB338_327 := n9_; clear n0_ n1_ n2_ n3_ n4_ n5_ n6_ n7_ n8_ n9_; clear hb hbox hg; have hnb80 := NB338_317.out; have hnc80 := NB317_338.out; have hnb81 := NB338_327.out; have hnc81 := NB327_338.out; have hcz82_0 : w79.cell? ⟨gb338, 0, none⟩ = some (.int .i64 0) := bc BK338 0; have hcz82_1 : w79.cell? ⟨gb338, 1, none⟩ = some (.int .i64 0) := bc BK338 1; have hcz82_2 : w79.cell? ⟨gb338, 2, none⟩ = some (.int .i64 0) := bc BK338 2; have hcz82_3 : w79.cell? ⟨gb338, 3, none⟩ = some (.int .i64 0) := bc BK338 3; have hcz82_4 : w79.cell? ⟨gb338, 4, none⟩ = some (.int .i64 0) := bc BK338 4; have hcz82_5 : w79.cell? ⟨gb338, 5, none⟩ = some (.string (⟨#[]⟩ : ByteArray)) := bc BK338 5; have hcz82_6 : w79.cell? ⟨gb338, 6, none⟩ = some (.string (⟨#[]⟩ : ByteArray)) := bc BK338 6; have hfz82_0 := blk_frozen BK338.out 0; have hfz82_1 := blk_frozen BK338.out 1; have hfz82_2 := blk_frozen BK338.out 2; have hfz82_3 := blk_frozen BK338.out 3; have hfz82_4 := blk_frozen BK338.out 4; have hfz82_5 := blk_frozen BK338.out 5; have hfz82_6 := blk_frozen BK338.out 6) | ((with_reducible refine gate_callee (f := 11) rfl ?_); refine goesL_ (some 63) rfl rfl Try.func11 (by kernel_rfl) rfl #[.string t329] rfl gl_ ?_; (with_reducible refine (spec_DownGet.calls kj8 t329 t339 t340 t341 t342 t343 t344 t345 t346 _ A45.out).mono ?_); rintro e w83 ⟨rfl, hb⟩; refine ⟨_, rfl, ?_⟩; have n0_ := m_ (blk_below (g := gb317) (o := .cells #[.int .i64 t310, .int .i64 t311, .int .i64 t312, .int .i64 t313, .int .i64 t314, .string t315, .string t316] 26 (0, 0)) (kF BK317.out NB317_338.out) hb); have n1_ := m_ (blk_below (g := gb327) (o := .cells #[.int .i64 t319, .int .i64 t320, .int .i64 t321, .int .i64 t322, .int .i64 t323, .string t324, .string t325] 26 (0, 0)) (kF BK327.out NB327_338.out) hb); have n2_ := m_ (blk_below (g := gb338) (o := .cells #[.int .i64 t330, .int .i64 t331, .int .i64 t332, .int .i64 t333, .int .i64 t334, .string t335, .string t336] 26 (0, 0)) (kP BK338.out) hb); have n3_ := m_ (below_step (bN HB.out) hb); clear BK317; clear BK327; clear BK338; clear HB; have BK317 := n0_; have BK327 := n1_; have BK338 := n2_; have HB := n3_; clear n0_ n1_ n2_ n3_; (try clear hb); (try clear hb2); (try clear hk); (try clear hi)) | ((with_reducible refine gate_dst (N := 12) rfl ?_); (try (refine gate_guard (by rfl) ?_; dsimp only)); refine box_event ?hg (N := 12) ?hd (cs := #[.int .i64 0, .int .i64 0, .int .i64 0, .int .i64 0, .int .i64 0, .string (⟨#[]⟩ : ByteArray), .string (⟨#[]⟩ : ByteArray)]) (t := 26) ?hr ?_; (case hd => rfl); (case hg => rfl); (case hr => first | (go_simp; done) | (go_simp; rfl)); intro gb347 hg w84 hbox hb; have n0_ := m_ (blk_below (kN BK317.out) hb); have n1_ := m_ (blk_below (kN BK327.out) hb); have n2_ := m_ (blk_below (kN BK338.out) hb); have n3_ := m_ (below_step (bN HB.out) hb); have n4_ := m_ (hbox); have n5_ := m_ ((by rw [hg]; exact (below_size (bN HB.out)) : w.heap.size ≤ gb347)); have n6_ := m_ ((by rw [hg]; exact (below_size (bN HB.out)) : w.heap.size ≤ gb347)); have n7_ := m_ (nL hg BK317.out); have n8_ := m_ (nG hg BK317.out); have n9_ := m_ (nL hg BK327.out); have n10_ := m_ (nG hg BK327.out); have n11_ := m_ (nL hg BK338.out); have n12_ := m_ (nG hg BK338.out); clear BK317; clear BK327; clear BK338; clear HB; have BK317 := n0_; have BK327 := n1_; have BK338 := n2_; have HB := n3_; have BK347 := n4_; have GW347 := n5_; have GE347 := n6_; have NB317_347 := n7_; have NB347_317 := n8_; have NB327_347 := n9_; have NB347_327 := n10_; have NB338_347 := n11_; have NB347_338 := n12_; clear n0_ n1_ n2_ n3_ n4_ n5_ n6_ n7_ n8_ n9_ n10_ n11_ n12_; clear hb hbox hg; have hnb85 := NB347_317.out; have hnc85 := NB317_347.out; have hnb86 := NB347_327.out; have hnc86 := NB327_347.out; have hnb87 := NB347_338.out; have hnc87 := NB338_347.out; have hcz88_0 : w84.cell? ⟨gb347, 0, none⟩ = some (.int .i64 0) := bc BK347 0; have hcz88_1 : w84.cell? ⟨gb347, 1, none⟩ = some (.int .i64 0) := bc BK347 1; have hcz88_2 : w84.cell? ⟨gb347, 2, none⟩ = some (.int .i64 0) := bc BK347 2; have hcz88_3 : w84.cell? ⟨gb347, 3, none⟩ = some (.int .i64 0) := bc BK347 3; have hcz88_4 : w84.cell? ⟨gb347, 4, none⟩ = some (.int .i64 0) := bc BK347 4; have hcz88_5 : w84.cell? ⟨gb347, 5, none⟩ = some (.string (⟨#[]⟩ : ByteArray)) := bc BK347 5; have hcz88_6 : w84.cell? ⟨gb347, 6, none⟩ = some (.string (⟨#[]⟩ : ByteArray)) := bc BK347 6; have hfz88_0 := blk_frozen BK347.out 0; have hfz88_1 := blk_frozen BK347.out 1; have hfz88_2 := blk_frozen BK347.out 2; have hfz88_3 := blk_frozen BK347.out 3; have hfz88_4 := blk_frozen BK347.out 4; have hfz88_5 := blk_frozen BK347.out 5; have hfz88_6 := blk_frozen BK347.out 6; have hcz89_0 : w84.cell? ⟨gb338, 0, none⟩ = some (.int .i64 t330) := bc BK338 0; have hcz89_1 : w84.cell? ⟨gb338, 1, none⟩ = some (.int .i64 t331) := bc BK338 1; have hcz89_2 : w84.cell? ⟨gb338, 2, none⟩ = some (.int .i64 t332) := bc BK338 2; have hcz89_3 : w84.cell? ⟨gb338, 3, none⟩ = some (.int .i64 t333) := bc BK338 3; have hcz89_4 : w84.cell? ⟨gb338, 4, none⟩ = some (.int .i64 t334) := bc BK338 4; have hcz89_5 : w84.cell? ⟨gb338, 5, none⟩ = some (.string t335) := bc BK338 5; have hcz89_6 : w84.cell? ⟨gb338, 6, none⟩ = some (.string t336) := bc BK338 6; have hfz89_0 := blk_frozen BK338.out 0; have hfz89_1 := blk_frozen BK338.out 1; have hfz89_2 := blk_frozen BK338.out 2; have hfz89_3 := blk_frozen BK338.out 3; have hfz89_4 := blk_frozen BK338.out 4; have hfz89_5 := blk_frozen BK338.out 5; have hfz89_6 := blk_frozen BK338.out 6))
         go_ret
         exact ⟨by first | rfl | (simp [errW_none, errW_some] <;> rfl) | (simp [*, errW_none, errW_some] <;> rfl), by repeat (first | (with_reducible first | exact HB.out | apply below_alloc | apply pw_below_drewN | apply below_drew1 | refine below_set ?_ GE317.out | refine below_set ?_ GE327.out | refine below_set ?_ GE338.out | refine below_set ?_ GE347.out) | exact HB.out)⟩
       ·rw [if_neg c46] at H
        have c46b0 : (t330 == t339 && (t331 == t340 && (t332 == t341 && (t333 == t342 && (t334 == t343 && (t335.toList == t344.toList && (t336.toList == t345.toList))))))) = false := by simpa using c46
        (try (have c46b1 : decide (t330 = t339 && (t331 == t340 && (t332 == t341 && (t333 == t342 && (t334 == t343 && (t335.toList == t344.toList && (t336.toList == t345.toList))))))) = false := by simpa using c46))
        (try (have c46b2 : (t330 == t339 && (t331 == t340 && (t332 == t341 && (t333 == t342 && (t334 == t343 && (t335.toList == t344.toList && (t336.toList == t345.toList))))))) = false := by simpa using c46))
        (try (have c46b3 : ¬ (t330 = t339 && (t331 == t340 && (t332 == t341 && (t333 == t342 && (t334 == t343 && (t335.toList == t344.toList && (t336.toList == t345.toList))))))) := by simpa using c46))
        clear c46
        obtain rfl := Option.some.inj H
        go_wp2_with (first | ((with_reducible refine gate_callee (f := 15) rfl ?_); refine goesL_ (some 55) rfl rfl Try.func15 (by kernel_rfl) rfl #[.slice A1 l1.length c1] rfl gl_ ?_; (with_reducible refine (spec_DrawDownGet.calls kj8 _ _ l1 t329 _ ?side1 ?side2 A43.out).mono ?_); (case side1 => exact cN (Kd.C_below HR1.out HB.out)); (case side2 => exact HC1.out); rintro e w90 ⟨rfl, hb⟩; refine ⟨_, rfl, ?_⟩; have n0_ := m_ (blk_below (kN BK317.out) hb); have n1_ := m_ (blk_below (kN BK327.out) hb); have n2_ := m_ (below_step (bN HB.out) hb); clear BK317; clear BK327; clear HB; have BK317 := n0_; have BK327 := n1_; have HB := n2_; clear n0_ n1_ n2_; (try clear hb); (try clear hb2); (try clear hk); (try clear hi)) | ((with_reducible refine gate_callee (f := 12) rfl ?_); refine goesL_ (some 58) rfl rfl Try.func12 (by kernel_rfl) rfl #[.string t329] rfl gl_ ?_; (with_reducible refine (impl_DownGet.calls kj8 t329 t330 t331 t332 t333 t334 t335 t336 t337 _ A44.out).mono ?_); rintro e w91 ⟨rfl, hb⟩; refine ⟨_, rfl, ?_⟩; have n0_ := m_ (blk_below (kN BK317.out) hb); have n1_ := m_ (blk_below (kN BK327.out) hb); have n2_ := m_ (below_step (bN HB.out) hb); clear BK317; clear BK327; clear HB; have BK317 := n0_; have BK327 := n1_; have HB := n2_; clear n0_ n1_ n2_; (try clear hb); (try clear hb2); (try clear hk); (try clear hi)) | ((with_reducible refine gate_dst (N := 10) rfl ?_); (try (refine gate_guard (by rfl) ?_; dsimp only)); refine box_event ?hg (N := 10) ?hd (cs := #[.int .i64 0, .int .i64 0, .int .i64 0, .int .i64 0, .int .i64 0, .string (⟨#[]⟩ : ByteArray), .string (⟨#[]⟩ : ByteArray)]) (t := 26) ?hr ?_; (case hd => rfl); (case hg => rfl); (case hr => first | (go_simp; done) | (go_simp; rfl)); intro gb338 hg w92 hbox hb; have n0_ := m_ (blk_below (kN BK317.out) hb); have n1_ := m_ (blk_below (kN BK327.out) hb); have n2_ := m_ (below_step (bN HB.out) hb); have n3_ := m_ (hbox); have n4_ := m_ ((by rw [hg]; exact (below_size (bN HB.out)) : w.heap.size ≤ gb338)); have n5_ := m_ ((by rw [hg]; exact (below_size (bN HB.out)) : w.heap.size ≤ gb338)); have n6_ := m_ (nL hg BK317.out); have n7_ := m_ (nG hg BK317.out); have n8_ := m_ (nL hg BK327.out); have n9_ := m_ (nG hg BK327.out); clear BK317; clear BK327; clear HB; have BK317 := n0_; have BK327 := n1_; have HB := n2_; have BK338 := n3_; have GW338 := n4_; have GE338 := n5_; have NB317_338 := n6_; have NB338_317 := n7_; have NB327_338 := n8_; have NB338_327 := n9_; clear n0_ n1_ n2_ n3_ n4_ n5_ n6_ n7_ n8_ n9_; clear hb hbox hg; have hnb93 := NB338_317.out; have hnc93 := NB317_338.out; have hnb94 := NB338_327.out; have hnc94 := NB327_338.out; have hcz95_0 : w92.cell? ⟨gb338, 0, none⟩ = some (.int .i64 0) := bc BK338 0; have hcz95_1 : w92.cell? ⟨gb338, 1, none⟩ = some (.int .i64 0) := bc BK338 1; have hcz95_2 : w92.cell? ⟨gb338, 2, none⟩ = some (.int .i64 0) := bc BK338 2; have hcz95_3 : w92.cell? ⟨gb338, 3, none⟩ = some (.int .i64 0) := bc BK338 3; have hcz95_4 : w92.cell? ⟨gb338, 4, none⟩ = some (.int .i64 0) := bc BK338 4; have hcz95_5 : w92.cell? ⟨gb338, 5, none⟩ = some (.string (⟨#[]⟩ : ByteArray)) := bc BK338 5; have hcz95_6 : w92.cell? ⟨gb338, 6, none⟩ = some (.string (⟨#[]⟩ : ByteArray)) := bc BK338 6; have hfz95_0 := blk_frozen BK338.out 0; have hfz95_1 := blk_frozen BK338.out 1; have hfz95_2 := blk_frozen BK338.out 2; have hfz95_3 := blk_frozen BK338.out 3; have hfz95_4 := blk_frozen BK338.out 4; have hfz95_5 := blk_frozen BK338.out 5; have hfz95_6 := blk_frozen BK338.out 6) | ((with_reducible refine gate_callee (f := 11) rfl ?_); refine goesL_ (some 63) rfl rfl Try.func11 (by kernel_rfl) rfl #[.string t329] rfl gl_ ?_; (with_reducible refine (spec_DownGet.calls kj8 t329 t339 t340 t341 t342 t343 t344 t345 t346 _ A45.out).mono ?_); rintro e w96 ⟨rfl, hb⟩; refine ⟨_, rfl, ?_⟩; have n0_ := m_ (blk_below (g := gb317) (o := .cells #[.int .i64 t310, .int .i64 t311, .int .i64 t312, .int .i64 t313, .int .i64 t314, .string t315, .string t316] 26 (0, 0)) (kF BK317.out NB317_338.out) hb); have n1_ := m_ (blk_below (g := gb327) (o := .cells #[.int .i64 t319, .int .i64 t320, .int .i64 t321, .int .i64 t322, .int .i64 t323, .string t324, .string t325] 26 (0, 0)) (kF BK327.out NB327_338.out) hb); have n2_ := m_ (blk_below (g := gb338) (o := .cells #[.int .i64 t330, .int .i64 t331, .int .i64 t332, .int .i64 t333, .int .i64 t334, .string t335, .string t336] 26 (0, 0)) (kP BK338.out) hb); have n3_ := m_ (below_step (bN HB.out) hb); clear BK317; clear BK327; clear BK338; clear HB; have BK317 := n0_; have BK327 := n1_; have BK338 := n2_; have HB := n3_; clear n0_ n1_ n2_ n3_; (try clear hb); (try clear hb2); (try clear hk); (try clear hi)) | ((with_reducible refine gate_dst (N := 12) rfl ?_); (try (refine gate_guard (by rfl) ?_; dsimp only)); refine box_event ?hg (N := 12) ?hd (cs := #[.int .i64 0, .int .i64 0, .int .i64 0, .int .i64 0, .int .i64 0, .string (⟨#[]⟩ : ByteArray), .string (⟨#[]⟩ : ByteArray)]) (t := 26) ?hr ?_; (case hd => rfl); (case hg => rfl); (case hr => first | (go_simp; done) | (go_simp; rfl)); intro gb347 hg w97 hbox hb; have n0_ := m_ (blk_below (kN BK317.out) hb); have n1_ := m_ (blk_below (kN BK327.out) hb); have n2_ := m_ (blk_below (kN BK338.out) hb); have n3_ := m_ (below_step (bN HB.out) hb); have n4_ := m_ (hbox); have n5_ := m_ ((by rw [hg]; exact (below_size (bN HB.out)) : w.heap.size ≤ gb347)); have n6_ := m_ ((by rw [hg]; exact (below_size (bN HB.out)) : w.heap.size ≤ gb347)); have n7_ := m_ (nL hg BK317.out); have n8_ := m_ (nG hg BK317.out); have n9_ := m_ (nL hg BK327.out); have n10_ := m_ (nG hg BK327.out); have n11_ := m_ (nL hg BK338.out); have n12_ := m_ (nG hg BK338.out); clear BK317; clear BK327; clear BK338; clear HB; have BK317 := n0_; have BK327 := n1_; have BK338 := n2_; have HB := n3_; have BK347 := n4_; have GW347 := n5_; have GE347 := n6_; have NB317_347 := n7_; have NB347_317 := n8_; have NB327_347 := n9_; have NB347_327 := n10_; have NB338_347 := n11_; have NB347_338 := n12_; clear n0_ n1_ n2_ n3_ n4_ n5_ n6_ n7_ n8_ n9_ n10_ n11_ n12_; clear hb hbox hg; have hnb98 := NB347_317.out; have hnc98 := NB317_347.out; have hnb99 := NB347_327.out; have hnc99 := NB327_347.out; have hnb100 := NB347_338.out; have hnc100 := NB338_347.out; have hcz101_0 : w97.cell? ⟨gb347, 0, none⟩ = some (.int .i64 0) := bc BK347 0; have hcz101_1 : w97.cell? ⟨gb347, 1, none⟩ = some (.int .i64 0) := bc BK347 1; have hcz101_2 : w97.cell? ⟨gb347, 2, none⟩ = some (.int .i64 0) := bc BK347 2; have hcz101_3 : w97.cell? ⟨gb347, 3, none⟩ = some (.int .i64 0) := bc BK347 3; have hcz101_4 : w97.cell? ⟨gb347, 4, none⟩ = some (.int .i64 0) := bc BK347 4; have hcz101_5 : w97.cell? ⟨gb347, 5, none⟩ = some (.string (⟨#[]⟩ : ByteArray)) := bc BK347 5; have hcz101_6 : w97.cell? ⟨gb347, 6, none⟩ = some (.string (⟨#[]⟩ : ByteArray)) := bc BK347 6; have hfz101_0 := blk_frozen BK347.out 0; have hfz101_1 := blk_frozen BK347.out 1; have hfz101_2 := blk_frozen BK347.out 2; have hfz101_3 := blk_frozen BK347.out 3; have hfz101_4 := blk_frozen BK347.out 4; have hfz101_5 := blk_frozen BK347.out 5; have hfz101_6 := blk_frozen BK347.out 6; have hcz102_0 : w97.cell? ⟨gb338, 0, none⟩ = some (.int .i64 t330) := bc BK338 0; have hcz102_1 : w97.cell? ⟨gb338, 1, none⟩ = some (.int .i64 t331) := bc BK338 1; have hcz102_2 : w97.cell? ⟨gb338, 2, none⟩ = some (.int .i64 t332) := bc BK338 2; have hcz102_3 : w97.cell? ⟨gb338, 3, none⟩ = some (.int .i64 t333) := bc BK338 3; have hcz102_4 : w97.cell? ⟨gb338, 4, none⟩ = some (.int .i64 t334) := bc BK338 4; have hcz102_5 : w97.cell? ⟨gb338, 5, none⟩ = some (.string t335) := bc BK338 5; have hcz102_6 : w97.cell? ⟨gb338, 6, none⟩ = some (.string t336) := bc BK338 6; have hfz102_0 := blk_frozen BK338.out 0; have hfz102_1 := blk_frozen BK338.out 1; have hfz102_2 := blk_frozen BK338.out 2; have hfz102_3 := blk_frozen BK338.out 3; have hfz102_4 := blk_frozen BK338.out 4; have hfz102_5 := blk_frozen BK338.out 5; have hfz102_6 := blk_frozen BK338.out 6))
        go_ret
        exact ⟨by first | rfl | (simp [errW_none, errW_some] <;> rfl) | (simp [*, errW_none, errW_some] <;> rfl), by repeat (first | (with_reducible first | exact HB.out | apply below_alloc | apply pw_below_drewN | apply below_drew1 | refine below_set ?_ GE317.out | refine below_set ?_ GE327.out | refine below_set ?_ GE338.out | refine below_set ?_ GE347.out) | exact HB.out)⟩

/-- THE ONE PURE STATEMENT of laws_FnDownBack: yours. -/
def laws_FnDownBack.Pure : Prop := ∀ (l0 : List Int) (l1 : List Int), l0.length ≤ maxLen → l0.length * 1 ≤ 140737488351232 → (∀ x ∈ l0, (Lit.int .u8 x).wf = true) → l1.length ≤ maxLen → l1.length * 1 ≤ 140737488351232 → (∀ x ∈ l1, (Lit.int .u8 x).wf = true) → ∃ k, laws_FnDownBack.f k l0 l1 = some true
theorem laws_FnDownBack.walk (P : laws_FnDownBack.Pure) (a0 : Option Addr) (len0 cap0 : Nat) (z0 : List Int) (a1 : Option Addr) (len1 cap1 : Nat) (z1 : List Int) (w : World) (w0 : (a0 = none ∧ len0 = 0 ∧ cap0 = 0 ∧ z0 = []) ∨ ∃ x, a0 = some x ∧ len0 ≤ cap0 ∧ cap0 ≤ maxLen ∧ z0.length = cap0 ∧ (∀ i, i < z0.length → w.cell? (x.add i) = some (.int .u8 (z0.getD i 0))) ∧ ∀ n ∈ z0, (Lit.int .u8 n).wf = true) (y0 : len0 * 1 ≤ 140737488351232) (w1 : (a1 = none ∧ len1 = 0 ∧ cap1 = 0 ∧ z1 = []) ∨ ∃ x, a1 = some x ∧ len1 ≤ cap1 ∧ cap1 ≤ maxLen ∧ z1.length = cap1 ∧ (∀ i, i < z1.length → w.cell? (x.add i) = some (.int .u8 (z1.getD i 0))) ∧ ∀ n ∈ z1, (Lit.int .u8 n).wf = true) (y1 : len1 * 1 ≤ 140737488351232) :
  Calls Try.prog 6 #[.slice a0 len0 cap0, .slice a1 len1 cap1] w fun e w' => e = .returned (.bool true) ∧ Below w.heap.size w w' := by
 obtain ⟨l0, rfl, hr0, hm0, hw0, hc0⟩ := ReadsInt.ofRowC w0
 obtain ⟨l1, rfl, hr1, hm1, hw1, hc1⟩ := ReadsInt.ofRowC w1
 obtain ⟨k, h⟩ := P l0 l1 hm0 y0 hw0 hm1 y1 hw1
 refine (laws_FnDownBack.calls k _ _ l0 _ _ l1 true w (Kd.C_of_reads (d := (0 : Int)) (h1 := fun _ => rfl) hr0) hc0 (Kd.C_of_reads (d := (0 : Int)) (h1 := fun _ => rfl) hr1) hc1 h).mono ?_
 rintro e w' ⟨rfl, hd⟩
 exact ⟨rfl, hd⟩

end Go.Proofs.Ytlfhbpofboicbaa.P
