/- The machine side of these statements, function by function: what each Go function answers (as a Lean function), and that it does. Written by a program (mp.py) for this claim. -/
import Derived.Test.YtllchgipnfdneaaDoorPx0
import Derived.Test.YtllchgipnfdneaaDoorPx2
import Derived.Test.YtllchgipnfdneaaDoorPx12
import Derived.Test.YtllchgipnfdneaaDoorPx16
import Derived.Test.YtllchgipnfdneaaDoorPx17
import Derived.Test.YtllchgipnfdneaaDoorPx18
import Derived.Test.YtllchgipnfdneaaDoorPx19
import Derived.Test.YtllchgipnfdneaaDoorPx27
namespace Go.Proofs.YtllchgipnfdneaaDoor.P
open Go.RowKit Go.Proofs.YtllchgipnfdneaaDoorW.PrintWords Go.Proofs.YtllchgipnfdneaaDoorW.PrintLast Go.Proofs.YtllchgipnfdneaaDoorW.PrintMore
attribute [local go_sem] max2_int min2_int max_two min_two max_three min_three max_four min_four   -- for this text's walks alone
set_option linter.unusedVariables false
set_option linter.unusedSimpArgs false

attribute [local go_sem high] eqA35
/-! ### laws_FnRepBack: function 6 -/
mutual
def laws_FnRepBack.j0 : Nat → List Int → List Int → Bool → Option (Bool)
 | 0, _, _, _ => none
 | k + 1, x0, x1, x23 => if x23 = true then (some true) else ((spec_DrawRepPut.f k x0).bind fun bt492 => ((impl_RepPut.f k bt492.1 bt492.2.1 bt492.2.2.1 bt492.2.2.2.1 bt492.2.2.2.2.1 bt492.2.2.2.2.2).bind fun t499 => ((spec_RepPut.f k bt492.1 bt492.2.1 bt492.2.2.1 bt492.2.2.2.1 bt492.2.2.2.2.1 bt492.2.2.2.2.2).bind fun t500 => (if t499.toList = t500.toList then (if t499.toList = ([] : List UInt8) then (laws_FnRepBack.j1 k x1) else ((impl_RepGet.f k t499).bind fun bt501 => ((impl_CmdGet.f k t499).bind fun bt509 => (if (!(bt501.1 == bt492.1) || (!(bt501.2.1 == bt492.2.1) || (!(bt501.2.2.1 == bt492.2.2.1) || (!(bt501.2.2.2.1 == bt492.2.2.2.1) || (!(bt501.2.2.2.2.1 == bt492.2.2.2.2.1) || (!(bt501.2.2.2.2.2.1.toList == bt492.2.2.2.2.2.toList))))))) = true then (some false) else (if bt501.2.2.2.2.2.2 = true then (if bt509.2.2.2.2.2.2 = 1 then (laws_FnRepBack.j1 k x1) else (some false)) else (some false)))))) else (some false)))))
def laws_FnRepBack.j1 : Nat → List Int → Option (Bool)
 | 0, _ => none
 | k + 1, x1 => (spec_DrawRepGet.f k x1).bind fun t517 => ((impl_RepGet.f k t517).bind fun bt518 => ((spec_RepGet.f k t517).bind fun bt526 => (if (bt518.1 == bt526.1 && (bt518.2.1 == bt526.2.1 && (bt518.2.2.1 == bt526.2.2.1 && (bt518.2.2.2.1 == bt526.2.2.2.1 && (bt518.2.2.2.2.1 == bt526.2.2.2.2.1 && (bt518.2.2.2.2.2.1.toList == bt526.2.2.2.2.2.1.toList)))))) = true then (if (bt518.2.2.2.2.2.2 == bt526.2.2.2.2.2.2) = true then (if bt518.2.2.2.2.2.2 = true then ((impl_RepPut.f k bt518.1 bt518.2.1 bt518.2.2.1 bt518.2.2.2.1 bt518.2.2.2.2.1 bt518.2.2.2.2.2.1).bind fun t534 => (some (t534.toList == t517.toList))) else (some true)) else (some false)) else (some false))))
end
def laws_FnRepBack.f (k : Nat) (l0 : List Int) (l1 : List Int) : Option (Bool) := if (l0.length : Int) > 1048576 then (laws_FnRepBack.j0 k l0 l1 true) else (laws_FnRepBack.j0 k l0 l1 (decide ((l1.length : Int) > 1048576)))
theorem laws_FnRepBack.mono_l : ∀ k, (∀ y0 y1 y2, LeO (laws_FnRepBack.j0 k y0 y1 y2) (laws_FnRepBack.j0 (k + 1) y0 y1 y2)) ∧ (∀ y0, LeO (laws_FnRepBack.j1 k y0) (laws_FnRepBack.j1 (k + 1) y0))
 | 0 => ⟨fun _ _ _ r h => by simp [laws_FnRepBack.j0] at h, fun _ r h => by simp [laws_FnRepBack.j1] at h⟩
 | k + 1 => by
  obtain ⟨ih0, ih1⟩ := laws_FnRepBack.mono_l k
  refine ⟨?_, ?_⟩
  ·intro y0 y1 y2
   unfold laws_FnRepBack.j0
   repeat' first
   | (with_reducible exact ih0 _ _ _)
   | (with_reducible exact ih1 _)
   | (with_reducible exact impl_CmdGet.mono _ _)
   | (with_reducible exact impl_RepGet.mono _ _)
   | (with_reducible exact impl_RepPut.mono _ _ _ _ _ _ _)
   | (with_reducible exact spec_DrawRepGet.mono _ _)
   | (with_reducible exact spec_DrawRepPut.mono _ _)
   | (with_reducible exact spec_RepGet.mono _ _)
   | (with_reducible exact spec_RepPut.mono _ _ _ _ _ _ _)
   | (with_reducible exact LeO.refl _)
   | (with_reducible exact LeO.none _)
   | (with_reducible refine LeO.ite ?_ ?_)
   | (with_reducible refine LeO.bind ?_ (fun _ => ?_))
   | exact ih0 _ _ _
   | exact ih1 _
   | exact impl_CmdGet.mono _ _
   | exact impl_RepGet.mono _ _
   | exact impl_RepPut.mono _ _ _ _ _ _ _
   | exact spec_DrawRepGet.mono _ _
   | exact spec_DrawRepPut.mono _ _
   | exact spec_RepGet.mono _ _
   | exact spec_RepPut.mono _ _ _ _ _ _ _
   | exact LeO.none _
   | refine LeO.ite ?_ ?_
   | refine LeO.bind ?_ (fun _ => ?_)
  ·intro y0
   unfold laws_FnRepBack.j1
   repeat' first
   | (with_reducible exact ih0 _ _ _)
   | (with_reducible exact ih1 _)
   | (with_reducible exact impl_CmdGet.mono _ _)
   | (with_reducible exact impl_RepGet.mono _ _)
   | (with_reducible exact impl_RepPut.mono _ _ _ _ _ _ _)
   | (with_reducible exact spec_DrawRepGet.mono _ _)
   | (with_reducible exact spec_DrawRepPut.mono _ _)
   | (with_reducible exact spec_RepGet.mono _ _)
   | (with_reducible exact spec_RepPut.mono _ _ _ _ _ _ _)
   | (with_reducible exact LeO.refl _)
   | (with_reducible exact LeO.none _)
   | (with_reducible refine LeO.ite ?_ ?_)
   | (with_reducible refine LeO.bind ?_ (fun _ => ?_))
   | exact ih0 _ _ _
   | exact ih1 _
   | exact impl_CmdGet.mono _ _
   | exact impl_RepGet.mono _ _
   | exact impl_RepPut.mono _ _ _ _ _ _ _
   | exact spec_DrawRepGet.mono _ _
   | exact spec_DrawRepPut.mono _ _
   | exact spec_RepGet.mono _ _
   | exact spec_RepPut.mono _ _ _ _ _ _ _
   | exact LeO.none _
   | refine LeO.ite ?_ ?_
   | refine LeO.bind ?_ (fun _ => ?_)
theorem laws_FnRepBack.mono : ∀ a0 a1 k, LeO (laws_FnRepBack.f k a0 a1) (laws_FnRepBack.f (k + 1) a0 a1) := by
 intro a0 a1 k
 obtain ⟨ih0, ih1⟩ := laws_FnRepBack.mono_l k
 unfold laws_FnRepBack.f
 repeat' first
   | (with_reducible exact ih0 _ _ _)
   | (with_reducible exact ih1 _)
   | (with_reducible exact impl_CmdGet.mono _ _)
   | (with_reducible exact impl_RepGet.mono _ _)
   | (with_reducible exact impl_RepPut.mono _ _ _ _ _ _ _)
   | (with_reducible exact spec_DrawRepGet.mono _ _)
   | (with_reducible exact spec_DrawRepPut.mono _ _)
   | (with_reducible exact spec_RepGet.mono _ _)
   | (with_reducible exact spec_RepPut.mono _ _ _ _ _ _ _)
   | (with_reducible exact LeO.refl _)
   | (with_reducible exact LeO.none _)
   | (with_reducible refine LeO.ite ?_ ?_)
   | (with_reducible refine LeO.bind ?_ (fun _ => ?_))
   | exact ih0 _ _ _
   | exact ih1 _
   | exact impl_CmdGet.mono _ _
   | exact impl_RepGet.mono _ _
   | exact impl_RepPut.mono _ _ _ _ _ _ _
   | exact spec_DrawRepGet.mono _ _
   | exact spec_DrawRepPut.mono _ _
   | exact spec_RepGet.mono _ _
   | exact spec_RepPut.mono _ _ _ _ _ _ _
   | exact LeO.none _
   | refine LeO.ite ?_ ?_
   | refine LeO.bind ?_ (fun _ => ?_)
set_option maxHeartbeats 8000000 in
set_option maxRecDepth 100000 in
theorem laws_FnRepBack.calls (k : Nat) (A0 : Option Addr) (c0 : Nat) (l0 : List Int) (A1 : Option Addr) (c1 : Nat) (l1 : List Int) (r : Bool) (w : World) (hr0 : Kd.C (Kd.int .u8) w A0 l0.length l0) (hc0 : l0.length ≤ c0) (hr1 : Kd.C (Kd.int .u8) w A1 l1.length l1) (hc1 : l1.length ≤ c1) (h : laws_FnRepBack.f k l0 l1 = some r) :
  Calls Tryd.prog 6 #[.slice A0 l0.length c0, .slice A1 l1.length c1] w fun e w' => e = .returned (.bool r) ∧ Below w.heap.size w w' := by
 have hu35 := Tryd.underlying35
 have hu43 := Tryd.underlying43
 have HR0 := Aside0.mk hr0
 have HC0 := Aside0.mk hc0
 clear hr0 hc0
 have HR1 := Aside0.mk hr1
 have HC1 := Aside0.mk hc1
 clear hr1 hc1
 have HB := m_ (Below.refl w.heap.size w)
 have H : (if (l0.length : Int) > 1048576 then (laws_FnRepBack.j0 k l0 l1 true) else (laws_FnRepBack.j0 k l0 l1 (decide ((l1.length : Int) > 1048576)))) = some r := h
 clear h
 have HC3 := Aside0.mk H
 clear H
 go_enter Tryd.func6, Tryd.ntmps6
 go_upto_region 1 with (fail)
 go_cut [23] (fun v23 wc => ∃ (kq : Nat) (x23_2 : Bool), v23 = .bool x23_2 ∧ Aside0 (laws_FnRepBack.j0 kq l0 l1 x23_2 = some r) ∧ Aside0 (kq ≤ k) ∧ Aside0 (Below w.heap.size w wc))
 case first =>
  have H := HC3.out
  clear HC3
  by_cases c4 : (l0.length : Int) > 1048576
  ·rw [if_pos c4] at H
   have c4b0 : decide (1048576 < (l0.length : Int)) = true := decide_eq_true c4
   have c4b1 : decide (1048576 < l0.length) = true := decide_eq_true (by omega)
   clear c4
   (first | rw [c4b0] | (simp only [i64_w, i32_w]; rw [c4b0]) | skip)
   have H' := Aside0.mk H
   clear H
   go_wp2
   go_meet
   case rel => exact ⟨_, (true), (by first | rfl | (simp; done) | (simp [*]; done)), H', ⟨by first | omega | exact Nat.le_refl _⟩, ⟨by repeat (first | (with_reducible first | exact HB.out | apply below_alloc | apply pw_below_drewN | apply below_drew1) | exact HB.out)⟩⟩
  ·rw [if_neg c4] at H
   have c4b0 : decide (1048576 < (l0.length : Int)) = false := decide_eq_false c4
   have c4b1 : decide (1048576 < l0.length) = false := decide_eq_false (by omega)
   clear c4
   (first | rw [c4b0] | (simp only [i64_w, i32_w]; rw [c4b0]) | skip)
   have H' := Aside0.mk H
   clear H
   go_wp2
   go_meet
   case rel => exact ⟨_, (decide ((l1.length : Int) > 1048576)), (by first | rfl | (simp; done) | (simp [*]; done)), H', ⟨by first | omega | exact Nat.le_refl _⟩, ⟨by repeat (first | (with_reducible first | exact HB.out | apply below_alloc | apply pw_below_drewN | apply below_drew1) | exact HB.out)⟩⟩
 case rest =>
  clear HC3
  try clear c1
  try clear p2
  try clear c4
  try clear c4b0
  try clear c4b1
  obtain ⟨kq, x23_2, rfl, HA, HJ2, HB⟩ := hcut
  cases kq with
  | zero => exact absurd HA.out (by simp [laws_FnRepBack.j0])
  | succ kj2 =>
   have H := HA.out
   clear HA
   simp only [laws_FnRepBack.j0] at H
   by_cases c5 : x23_2 = true
   ·subst c5
    have H1 : (some true) = some r := by rw [if_pos rfl] at H; exact H
    clear H
    have H := H1
    clear H1
    obtain rfl := Option.some.inj H
    go_wp2
    go_ret
    exact ⟨by first | rfl | (simp [errW_none, errW_some] <;> rfl) | (simp [*, errW_none, errW_some] <;> rfl), by repeat (first | (with_reducible first | exact HB.out | apply below_alloc | apply pw_below_drewN | apply below_drew1) | exact HB.out)⟩
   ·replace c5 := Bool.eq_false_iff.mpr c5
    subst c5
    have H1 : ((spec_DrawRepPut.f kj2 l0).bind fun bt492 => ((impl_RepPut.f kj2 bt492.1 bt492.2.1 bt492.2.2.1 bt492.2.2.2.1 bt492.2.2.2.2.1 bt492.2.2.2.2.2).bind fun t499 => ((spec_RepPut.f kj2 bt492.1 bt492.2.1 bt492.2.2.1 bt492.2.2.2.1 bt492.2.2.2.2.1 bt492.2.2.2.2.2).bind fun t500 => (if t499.toList = t500.toList then (if t499.toList = ([] : List UInt8) then (laws_FnRepBack.j1 kj2 l1) else ((impl_RepGet.f kj2 t499).bind fun bt501 => ((impl_CmdGet.f kj2 t499).bind fun bt509 => (if (!(bt501.1 == bt492.1) || (!(bt501.2.1 == bt492.2.1) || (!(bt501.2.2.1 == bt492.2.2.1) || (!(bt501.2.2.2.1 == bt492.2.2.2.1) || (!(bt501.2.2.2.2.1 == bt492.2.2.2.2.1) || (!(bt501.2.2.2.2.2.1.toList == bt492.2.2.2.2.2.toList))))))) = true then (some false) else (if bt501.2.2.2.2.2.2 = true then (if bt509.2.2.2.2.2.2 = 1 then (laws_FnRepBack.j1 kj2 l1) else (some false)) else (some false)))))) else (some false))))) = some r := by rw [if_neg (show ¬ (false = true) by decide)] at H; exact H
    clear H
    have H := H1
    clear H1
    replace H := Option.bind_eq_some_iff.mp H
    obtain ⟨⟨t492, t493, t494, t495, t496, t497⟩, A60, H⟩ := H
    replace H : ((impl_RepPut.f kj2 t492 t493 t494 t495 t496 t497).bind fun t499 => ((spec_RepPut.f kj2 t492 t493 t494 t495 t496 t497).bind fun t500 => (if t499.toList = t500.toList then (if t499.toList = ([] : List UInt8) then (laws_FnRepBack.j1 kj2 l1) else ((impl_RepGet.f kj2 t499).bind fun bt501 => ((impl_CmdGet.f kj2 t499).bind fun bt509 => (if (!(bt501.1 == t492) || (!(bt501.2.1 == t493) || (!(bt501.2.2.1 == t494) || (!(bt501.2.2.2.1 == t495) || (!(bt501.2.2.2.2.1 == t496) || (!(bt501.2.2.2.2.2.1.toList == t497.toList))))))) = true then (some false) else (if bt501.2.2.2.2.2.2 = true then (if bt509.2.2.2.2.2.2 = 1 then (laws_FnRepBack.j1 kj2 l1) else (some false)) else (some false)))))) else (some false)))) = some r := H
    have A6 := Aside0.mk A60
    clear A60
    replace H := Option.bind_eq_some_iff.mp H
    obtain ⟨t499, A70, H⟩ := H
    replace H : ((spec_RepPut.f kj2 t492 t493 t494 t495 t496 t497).bind fun t500 => (if t499.toList = t500.toList then (if t499.toList = ([] : List UInt8) then (laws_FnRepBack.j1 kj2 l1) else ((impl_RepGet.f kj2 t499).bind fun bt501 => ((impl_CmdGet.f kj2 t499).bind fun bt509 => (if (!(bt501.1 == t492) || (!(bt501.2.1 == t493) || (!(bt501.2.2.1 == t494) || (!(bt501.2.2.2.1 == t495) || (!(bt501.2.2.2.2.1 == t496) || (!(bt501.2.2.2.2.2.1.toList == t497.toList))))))) = true then (some false) else (if bt501.2.2.2.2.2.2 = true then (if bt509.2.2.2.2.2.2 = 1 then (laws_FnRepBack.j1 kj2 l1) else (some false)) else (some false)))))) else (some false))) = some r := H
    have A7 := Aside0.mk A70
    clear A70
    replace H := Option.bind_eq_some_iff.mp H
    obtain ⟨t500, A80, H⟩ := H
    replace H : (if t499.toList = t500.toList then (if t499.toList = ([] : List UInt8) then (laws_FnRepBack.j1 kj2 l1) else ((impl_RepGet.f kj2 t499).bind fun bt501 => ((impl_CmdGet.f kj2 t499).bind fun bt509 => (if (!(bt501.1 == t492) || (!(bt501.2.1 == t493) || (!(bt501.2.2.1 == t494) || (!(bt501.2.2.2.1 == t495) || (!(bt501.2.2.2.2.1 == t496) || (!(bt501.2.2.2.2.2.1.toList == t497.toList))))))) = true then (some false) else (if bt501.2.2.2.2.2.2 = true then (if bt509.2.2.2.2.2.2 = 1 then (laws_FnRepBack.j1 kj2 l1) else (some false)) else (some false)))))) else (some false)) = some r := H
    have A8 := Aside0.mk A80
    clear A80
    by_cases c9 : t499.toList = t500.toList
    ·rw [if_pos c9] at H
     have c9b0 : (t499.toList == t500.toList) = true := beq_iff_eq.mpr c9
     have c9b1 : (t499.toList != t500.toList) = false := bne_eq_false_iff_eq.mpr c9
     clear c9
     have HC10 := Aside0.mk H
     clear H
     go_upto_if 33 with (first | ((with_reducible refine gate_callee (f := 20) rfl ?_); refine goesL_ (some 25) rfl rfl Tryd.func20 (by kernel_rfl) rfl #[.slice A0 l0.length c0] rfl gl_ ?_; (with_reducible refine (spec_DrawRepPut.calls kj2 _ _ l0 t492 t493 t494 t495 t496 t497 _ ?side1 ?side2 A6.out).mono ?_); (case side1 => exact cN (Kd.C_below HR0.out HB.out)); (case side2 => exact HC0.out); rintro e w11 ⟨rfl, hb⟩; refine ⟨_, rfl, ?_⟩; have n0_ := m_ (below_step (bN HB.out) hb); clear HB; have HB := n0_; clear n0_; (try clear hb); (try clear hb2); (try clear hk); (try clear hi)) | ((with_reducible refine gate_dst (N := 5) rfl ?_); (try (refine gate_guard (by rfl) ?_; dsimp only)); refine box_event ?hg (N := 5) ?hd (cs := #[.int .i64 0, .int .i64 0, .int .i64 0, .int .i64 0, .int .i64 0, .string (⟨#[]⟩ : ByteArray)]) (t := 35) ?hr ?_; (case hd => rfl); (case hg => rfl); (case hr => first | (go_simp; done) | (go_simp; rfl)); intro gb498 hg w12 hbox hb; have n0_ := m_ (below_step (bN HB.out) hb); have n1_ := m_ (hbox); have n2_ := m_ ((by rw [hg]; exact (below_size (bN HB.out)) : w.heap.size ≤ gb498)); have n3_ := m_ ((by rw [hg]; exact (below_size (bN HB.out)) : w.heap.size ≤ gb498)); clear HB; have HB := n0_; have BK498 := n1_; have GW498 := n2_; have GE498 := n3_; clear n0_ n1_ n2_ n3_; clear hb hbox hg; have hcz13_0 : w12.cell? ⟨gb498, 0, none⟩ = some (.int .i64 0) := (blk_cell BK498.out 0).trans rfl; have hcz13_1 : w12.cell? ⟨gb498, 1, none⟩ = some (.int .i64 0) := (blk_cell BK498.out 1).trans rfl; have hcz13_2 : w12.cell? ⟨gb498, 2, none⟩ = some (.int .i64 0) := (blk_cell BK498.out 2).trans rfl; have hcz13_3 : w12.cell? ⟨gb498, 3, none⟩ = some (.int .i64 0) := (blk_cell BK498.out 3).trans rfl; have hcz13_4 : w12.cell? ⟨gb498, 4, none⟩ = some (.int .i64 0) := (blk_cell BK498.out 4).trans rfl; have hcz13_5 : w12.cell? ⟨gb498, 5, none⟩ = some (.string (⟨#[]⟩ : ByteArray)) := (blk_cell BK498.out 5).trans rfl; have hfz13_0 := blk_frozen BK498.out 0; have hfz13_1 := blk_frozen BK498.out 1; have hfz13_2 := blk_frozen BK498.out 2; have hfz13_3 := blk_frozen BK498.out 3; have hfz13_4 := blk_frozen BK498.out 4; have hfz13_5 := blk_frozen BK498.out 5) | ((with_reducible refine gate_callee (f := 21) rfl ?_); refine goesL_ (some 27) rfl rfl Tryd.func21 (by kernel_rfl) rfl #[.agg #[.int .i64 t492, .int .i64 t493, .int .i64 t494, .int .i64 t495, .int .i64 t496, .string t497]] rfl gl_ ?_; (with_reducible refine (impl_RepPut.calls kj2 t492 t493 t494 t495 t496 t497 t499 _ A7.out).mono ?_); rintro e w14 ⟨rfl, hb⟩; refine ⟨_, rfl, ?_⟩; have n0_ := m_ (blk_below (g := gb498) (o := .cells #[.int .i64 t492, .int .i64 t493, .int .i64 t494, .int .i64 t495, .int .i64 t496, .string t497] 35 (0, 0)) (kP BK498.out) hb); have n1_ := m_ (below_step (bN HB.out) hb); clear BK498; clear HB; have BK498 := n0_; have HB := n1_; clear n0_ n1_; (try clear hb); (try clear hb2); (try clear hk); (try clear hi); have hcz15_0 : w14.cell? ⟨gb498, 0, none⟩ = some (.int .i64 t492) := (blk_cell BK498.out 0).trans rfl; have hcz15_1 : w14.cell? ⟨gb498, 1, none⟩ = some (.int .i64 t493) := (blk_cell BK498.out 1).trans rfl; have hcz15_2 : w14.cell? ⟨gb498, 2, none⟩ = some (.int .i64 t494) := (blk_cell BK498.out 2).trans rfl; have hcz15_3 : w14.cell? ⟨gb498, 3, none⟩ = some (.int .i64 t495) := (blk_cell BK498.out 3).trans rfl; have hcz15_4 : w14.cell? ⟨gb498, 4, none⟩ = some (.int .i64 t496) := (blk_cell BK498.out 4).trans rfl; have hcz15_5 : w14.cell? ⟨gb498, 5, none⟩ = some (.string t497) := (blk_cell BK498.out 5).trans rfl; have hfz15_0 := blk_frozen BK498.out 0; have hfz15_1 := blk_frozen BK498.out 1; have hfz15_2 := blk_frozen BK498.out 2; have hfz15_3 := blk_frozen BK498.out 3; have hfz15_4 := blk_frozen BK498.out 4; have hfz15_5 := blk_frozen BK498.out 5) | ((with_reducible refine gate_callee (f := 22) rfl ?_); refine goesL_ (some 30) rfl rfl Tryd.func22 (by kernel_rfl) rfl #[.agg #[.int .i64 t492, .int .i64 t493, .int .i64 t494, .int .i64 t495, .int .i64 t496, .string t497]] rfl gl_ ?_; (with_reducible refine (spec_RepPut.calls kj2 t492 t493 t494 t495 t496 t497 t500 _ A8.out).mono ?_); rintro e w16 ⟨rfl, hb⟩; refine ⟨_, rfl, ?_⟩; have n0_ := m_ (blk_below (kN BK498.out) hb); have n1_ := m_ (below_step (bN HB.out) hb); clear BK498; clear HB; have BK498 := n0_; have HB := n1_; clear n0_ n1_; (try clear hb); (try clear hb2); (try clear hk); (try clear hi)))
     (try simp only [Act.put, List.setIfInBounds_toArray, List.set_cons_zero, List.set_cons_succ])
     go_cut [] (fun wc => ∃ (kq : Nat), Aside0 (laws_FnRepBack.j1 kq l1 = some r) ∧ Aside0 (kq ≤ kj2) ∧ Aside0 (wc.heap[gb498]? = some (.cells #[.int .i64 t492, .int .i64 t493, .int .i64 t494, .int .i64 t495, .int .i64 t496, .string t497] 35 (0, 0))) ∧ Aside0 (Below w.heap.size w wc))
     case first =>
      have H := HC10.out
      clear HC10
      by_cases c17 : t499.toList = ([] : List UInt8)
      ·rw [if_pos c17] at H
       have c17b0 : (t499.toList == ([] : List UInt8)) = true := beq_iff_eq.mpr c17
       try have c17b7 : t499.toList.isEmpty = true := (by rw [← c17b0]; cases t499.toList <;> rfl)
       have c17b1 : (t499.toList != ([] : List UInt8)) = false := bne_eq_false_iff_eq.mpr c17
       clear c17
       (first | rw [c17b0] | (simp only [i64_w, i32_w]; rw [c17b0]) | (rw [c17b7]; simp only [Bool.not_true, Bool.not_false]) | skip)
       have H' := Aside0.mk H
       clear H
       go_wp2
       go_meet
       case rel => exact ⟨_, H', ⟨by have := HJ2.out; first | omega | exact Nat.le_refl _⟩, ⟨kN BK498.out⟩, ⟨by repeat (first | (with_reducible first | exact HB.out | apply below_alloc | apply pw_below_drewN | apply below_drew1 | refine below_set ?_ GE498.out) | exact HB.out)⟩⟩
      ·rw [if_neg c17] at H
       have c17b0 : (t499.toList == ([] : List UInt8)) = false := beq_eq_false_iff_ne.mpr c17
       try have c17b7 : t499.toList.isEmpty = false := (by rw [← c17b0]; cases t499.toList <;> rfl)
       have c17b1 : (t499.toList != ([] : List UInt8)) = true := bne_iff_ne.mpr c17
       (first | rw [c17b0] | (simp only [i64_w, i32_w]; rw [c17b0]) | (rw [c17b7]; simp only [Bool.not_true, Bool.not_false]) | skip)
       replace H := Option.bind_eq_some_iff.mp H
       obtain ⟨⟨t501, t502, t503, t504, t505, t506, t507⟩, A180, H⟩ := H
       replace H : ((impl_CmdGet.f kj2 t499).bind fun bt509 => (if (!(t501 == t492) || (!(t502 == t493) || (!(t503 == t494) || (!(t504 == t495) || (!(t505 == t496) || (!(t506.toList == t497.toList))))))) = true then (some false) else (if t507 = true then (if bt509.2.2.2.2.2.2 = 1 then (laws_FnRepBack.j1 kj2 l1) else (some false)) else (some false)))) = some r := H
       have A18 := Aside0.mk A180
       clear A180
       replace H := Option.bind_eq_some_iff.mp H
       obtain ⟨⟨t509, t510, t511, t512, t513, t514, t515⟩, A190, H⟩ := H
       replace H : (if (!(t501 == t492) || (!(t502 == t493) || (!(t503 == t494) || (!(t504 == t495) || (!(t505 == t496) || (!(t506.toList == t497.toList))))))) = true then (some false) else (if t507 = true then (if t515 = 1 then (laws_FnRepBack.j1 kj2 l1) else (some false)) else (some false))) = some r := H
       have A19 := Aside0.mk A190
       clear A190
       by_cases c20 : (!(t501 == t492) || (!(t502 == t493) || (!(t503 == t494) || (!(t504 == t495) || (!(t505 == t496) || (!(t506.toList == t497.toList))))))) = true
       ·rw [if_pos c20] at H
        have c20b0 : (!(t501 == t492) || (!(t502 == t493) || (!(t503 == t494) || (!(t504 == t495) || (!(t505 == t496) || (!(t506.toList == t497.toList))))))) = true := c20
        clear c20
        obtain rfl := Option.some.inj H
        go_wp2_with (first | ((with_reducible refine gate_callee (f := 18) rfl ?_); refine goesL_ (some 36) rfl rfl Tryd.func18 (by kernel_rfl) rfl #[.string t499] rfl gl_ ?_; (with_reducible refine (impl_RepGet.calls kj2 t499 t501 t502 t503 t504 t505 t506 t507 _ A18.out).mono ?_); rintro e w21 ⟨rfl, hb⟩; refine ⟨_, rfl, ?_⟩; have n0_ := m_ (blk_below (kN BK498.out) hb); have n1_ := m_ (below_step (bN HB.out) hb); clear BK498; clear HB; have BK498 := n0_; have HB := n1_; clear n0_ n1_; (try clear hb); (try clear hb2); (try clear hk); (try clear hi)) | ((with_reducible refine gate_dst (N := 7) rfl ?_); (try (refine gate_guard (by rfl) ?_; dsimp only)); refine box_event ?hg (N := 7) ?hd (cs := #[.int .i64 0, .int .i64 0, .int .i64 0, .int .i64 0, .int .i64 0, .string (⟨#[]⟩ : ByteArray)]) (t := 35) ?hr ?_; (case hd => rfl); (case hg => rfl); (case hr => first | (go_simp; done) | (go_simp; rfl)); intro gb508 hg w22 hbox hb; have n0_ := m_ (blk_below (kN BK498.out) hb); have n1_ := m_ (below_step (bN HB.out) hb); have n2_ := m_ (hbox); have n3_ := m_ ((by rw [hg]; exact (below_size (bN HB.out)) : w.heap.size ≤ gb508)); have n4_ := m_ ((by rw [hg]; exact (below_size (bN HB.out)) : w.heap.size ≤ gb508)); have n5_ := m_ ((by rw [hg]; exact Nat.ne_of_lt (blk_lt (g := gb498) (o := .cells #[.int .i64 t492, .int .i64 t493, .int .i64 t494, .int .i64 t495, .int .i64 t496, .string t497] 35 (0, 0)) (kN BK498.out)) : gb498 ≠ gb508)); have n6_ := m_ ((by rw [hg]; exact Nat.ne_of_gt (blk_lt (g := gb498) (o := .cells #[.int .i64 t492, .int .i64 t493, .int .i64 t494, .int .i64 t495, .int .i64 t496, .string t497] 35 (0, 0)) (kN BK498.out)) : gb508 ≠ gb498)); clear BK498; clear HB; have BK498 := n0_; have HB := n1_; have BK508 := n2_; have GW508 := n3_; have GE508 := n4_; have NB498_508 := n5_; have NB508_498 := n6_; clear n0_ n1_ n2_ n3_ n4_ n5_ n6_; clear hb hbox hg; have hnb23 := NB508_498.out; have hnc23 := NB498_508.out; have hcz24_0 : w22.cell? ⟨gb508, 0, none⟩ = some (.int .i64 0) := (blk_cell BK508.out 0).trans rfl; have hcz24_1 : w22.cell? ⟨gb508, 1, none⟩ = some (.int .i64 0) := (blk_cell BK508.out 1).trans rfl; have hcz24_2 : w22.cell? ⟨gb508, 2, none⟩ = some (.int .i64 0) := (blk_cell BK508.out 2).trans rfl; have hcz24_3 : w22.cell? ⟨gb508, 3, none⟩ = some (.int .i64 0) := (blk_cell BK508.out 3).trans rfl; have hcz24_4 : w22.cell? ⟨gb508, 4, none⟩ = some (.int .i64 0) := (blk_cell BK508.out 4).trans rfl; have hcz24_5 : w22.cell? ⟨gb508, 5, none⟩ = some (.string (⟨#[]⟩ : ByteArray)) := (blk_cell BK508.out 5).trans rfl; have hfz24_0 := blk_frozen BK508.out 0; have hfz24_1 := blk_frozen BK508.out 1; have hfz24_2 := blk_frozen BK508.out 2; have hfz24_3 := blk_frozen BK508.out 3; have hfz24_4 := blk_frozen BK508.out 4; have hfz24_5 := blk_frozen BK508.out 5) | ((with_reducible refine gate_callee (f := 23) rfl ?_); refine goesL_ (some 41) rfl rfl Tryd.func23 (by kernel_rfl) rfl #[.string t499] rfl gl_ ?_; (with_reducible refine (impl_CmdGet.calls kj2 t499 t509 t510 t511 t512 t513 t514 t515 _ A19.out).mono ?_); rintro e w25 ⟨rfl, hb⟩; refine ⟨_, rfl, ?_⟩; have n0_ := m_ (blk_below (g := gb498) (o := .cells #[.int .i64 t492, .int .i64 t493, .int .i64 t494, .int .i64 t495, .int .i64 t496, .string t497] 35 (0, 0)) (kF BK498.out NB498_508.out) hb); have n1_ := m_ (blk_below (g := gb508) (o := .cells #[.int .i64 t501, .int .i64 t502, .int .i64 t503, .int .i64 t504, .int .i64 t505, .string t506] 35 (0, 0)) (kP BK508.out) hb); have n2_ := m_ (below_step (bN HB.out) hb); clear BK498; clear BK508; clear HB; have BK498 := n0_; have BK508 := n1_; have HB := n2_; clear n0_ n1_ n2_; (try clear hb); (try clear hb2); (try clear hk); (try clear hi)) | ((with_reducible refine gate_dst (N := 9) rfl ?_); (try (refine gate_guard (by rfl) ?_; dsimp only)); refine box_event ?hg (N := 9) ?hd (cs := #[.int .i64 0, .int .i64 0, .int .i64 0, .int .i64 0, .int .i64 0, .string (⟨#[]⟩ : ByteArray)]) (t := 43) ?hr ?_; (case hd => rfl); (case hg => rfl); (case hr => first | (go_simp; done) | (go_simp; rfl)); intro gb516 hg w26 hbox hb; have n0_ := m_ (blk_below (kN BK498.out) hb); have n1_ := m_ (blk_below (kN BK508.out) hb); have n2_ := m_ (below_step (bN HB.out) hb); have n3_ := m_ (hbox); have n4_ := m_ ((by rw [hg]; exact (below_size (bN HB.out)) : w.heap.size ≤ gb516)); have n5_ := m_ ((by rw [hg]; exact (below_size (bN HB.out)) : w.heap.size ≤ gb516)); have n6_ := m_ ((by rw [hg]; exact Nat.ne_of_lt (blk_lt (g := gb498) (o := .cells #[.int .i64 t492, .int .i64 t493, .int .i64 t494, .int .i64 t495, .int .i64 t496, .string t497] 35 (0, 0)) (kN BK498.out)) : gb498 ≠ gb516)); have n7_ := m_ ((by rw [hg]; exact Nat.ne_of_gt (blk_lt (g := gb498) (o := .cells #[.int .i64 t492, .int .i64 t493, .int .i64 t494, .int .i64 t495, .int .i64 t496, .string t497] 35 (0, 0)) (kN BK498.out)) : gb516 ≠ gb498)); have n8_ := m_ ((by rw [hg]; exact Nat.ne_of_lt (blk_lt (g := gb508) (o := .cells #[.int .i64 t501, .int .i64 t502, .int .i64 t503, .int .i64 t504, .int .i64 t505, .string t506] 35 (0, 0)) (kN BK508.out)) : gb508 ≠ gb516)); have n9_ := m_ ((by rw [hg]; exact Nat.ne_of_gt (blk_lt (g := gb508) (o := .cells #[.int .i64 t501, .int .i64 t502, .int .i64 t503, .int .i64 t504, .int .i64 t505, .string t506] 35 (0, 0)) (kN BK508.out)) : gb516 ≠ gb508)); clear BK498; clear BK508; clear HB; have BK498 := n0_; have BK508 := n1_; have HB := n2_; have BK516 := n3_; have GW516 := n4_; have GE516 := n5_; have NB498_516 := n6_; have NB516_498 := n7_; have NB508_516 := n8_; have NB516_508 := n9_; clear n0_ n1_ n2_ n3_ n4_ n5_ n6_ n7_ n8_ n9_; clear hb hbox hg; have hnb27 := NB516_498.out; have hnc27 := NB498_516.out; have hnb28 := NB516_508.out; have hnc28 := NB508_516.out; have hcz29_0 : w26.cell? ⟨gb516, 0, none⟩ = some (.int .i64 0) := (blk_cell BK516.out 0).trans rfl; have hcz29_1 : w26.cell? ⟨gb516, 1, none⟩ = some (.int .i64 0) := (blk_cell BK516.out 1).trans rfl; have hcz29_2 : w26.cell? ⟨gb516, 2, none⟩ = some (.int .i64 0) := (blk_cell BK516.out 2).trans rfl; have hcz29_3 : w26.cell? ⟨gb516, 3, none⟩ = some (.int .i64 0) := (blk_cell BK516.out 3).trans rfl; have hcz29_4 : w26.cell? ⟨gb516, 4, none⟩ = some (.int .i64 0) := (blk_cell BK516.out 4).trans rfl; have hcz29_5 : w26.cell? ⟨gb516, 5, none⟩ = some (.string (⟨#[]⟩ : ByteArray)) := (blk_cell BK516.out 5).trans rfl; have hfz29_0 := blk_frozen BK516.out 0; have hfz29_1 := blk_frozen BK516.out 1; have hfz29_2 := blk_frozen BK516.out 2; have hfz29_3 := blk_frozen BK516.out 3; have hfz29_4 := blk_frozen BK516.out 4; have hfz29_5 := blk_frozen BK516.out 5; have hcz30_0 : w26.cell? ⟨gb508, 0, none⟩ = some (.int .i64 t501) := (blk_cell BK508.out 0).trans rfl; have hcz30_1 : w26.cell? ⟨gb508, 1, none⟩ = some (.int .i64 t502) := (blk_cell BK508.out 1).trans rfl; have hcz30_2 : w26.cell? ⟨gb508, 2, none⟩ = some (.int .i64 t503) := (blk_cell BK508.out 2).trans rfl; have hcz30_3 : w26.cell? ⟨gb508, 3, none⟩ = some (.int .i64 t504) := (blk_cell BK508.out 3).trans rfl; have hcz30_4 : w26.cell? ⟨gb508, 4, none⟩ = some (.int .i64 t505) := (blk_cell BK508.out 4).trans rfl; have hcz30_5 : w26.cell? ⟨gb508, 5, none⟩ = some (.string t506) := (blk_cell BK508.out 5).trans rfl; have hfz30_0 := blk_frozen BK508.out 0; have hfz30_1 := blk_frozen BK508.out 1; have hfz30_2 := blk_frozen BK508.out 2; have hfz30_3 := blk_frozen BK508.out 3; have hfz30_4 := blk_frozen BK508.out 4; have hfz30_5 := blk_frozen BK508.out 5; have hcz31_0 : w26.cell? ⟨gb498, 0, none⟩ = some (.int .i64 t492) := (blk_cell BK498.out 0).trans rfl; have hcz31_1 : w26.cell? ⟨gb498, 1, none⟩ = some (.int .i64 t493) := (blk_cell BK498.out 1).trans rfl; have hcz31_2 : w26.cell? ⟨gb498, 2, none⟩ = some (.int .i64 t494) := (blk_cell BK498.out 2).trans rfl; have hcz31_3 : w26.cell? ⟨gb498, 3, none⟩ = some (.int .i64 t495) := (blk_cell BK498.out 3).trans rfl; have hcz31_4 : w26.cell? ⟨gb498, 4, none⟩ = some (.int .i64 t496) := (blk_cell BK498.out 4).trans rfl; have hcz31_5 : w26.cell? ⟨gb498, 5, none⟩ = some (.string t497) := (blk_cell BK498.out 5).trans rfl; have hfz31_0 := blk_frozen BK498.out 0; have hfz31_1 := blk_frozen BK498.out 1; have hfz31_2 := blk_frozen BK498.out 2; have hfz31_3 := blk_frozen BK498.out 3; have hfz31_4 := blk_frozen BK498.out 4; have hfz31_5 := blk_frozen BK498.out 5))
        go_ret
        exact ⟨by first | rfl | (simp [errW_none, errW_some] <;> rfl) | (simp [*, errW_none, errW_some] <;> rfl), by repeat (first | (with_reducible first | exact HB.out | apply below_alloc | apply pw_below_drewN | apply below_drew1 | refine below_set ?_ GE498.out | refine below_set ?_ GE508.out | refine below_set ?_ GE516.out) | exact HB.out)⟩
       ·rw [if_neg c20] at H
        have c20b0 : (!(t501 == t492) || (!(t502 == t493) || (!(t503 == t494) || (!(t504 == t495) || (!(t505 == t496) || (!(t506.toList == t497.toList))))))) = false := by simpa using c20
        clear c20
        by_cases c32 : t507 = true
        ·subst c32
         have H1 : (if t515 = 1 then (laws_FnRepBack.j1 kj2 l1) else (some false)) = some r := by rw [if_pos rfl] at H; exact H
         clear H
         have H := H1
         clear H1
         by_cases c33 : t515 = 1
         ·rw [if_pos c33] at H
          have c33b0 : (t515 == 1) = true := beq_iff_eq.mpr c33
          have c33b1 : (t515 != 1) = false := bne_eq_false_iff_eq.mpr c33
          clear c33
          have H' := Aside0.mk H
          clear H
          go_wp2_with (first | ((with_reducible refine gate_callee (f := 18) rfl ?_); refine goesL_ (some 36) rfl rfl Tryd.func18 (by kernel_rfl) rfl #[.string t499] rfl gl_ ?_; (with_reducible refine (impl_RepGet.calls kj2 t499 t501 t502 t503 t504 t505 t506 true _ A18.out).mono ?_); rintro e w34 ⟨rfl, hb⟩; refine ⟨_, rfl, ?_⟩; have n0_ := m_ (blk_below (kN BK498.out) hb); have n1_ := m_ (below_step (bN HB.out) hb); clear BK498; clear HB; have BK498 := n0_; have HB := n1_; clear n0_ n1_; (try clear hb); (try clear hb2); (try clear hk); (try clear hi)) | ((with_reducible refine gate_dst (N := 7) rfl ?_); (try (refine gate_guard (by rfl) ?_; dsimp only)); refine box_event ?hg (N := 7) ?hd (cs := #[.int .i64 0, .int .i64 0, .int .i64 0, .int .i64 0, .int .i64 0, .string (⟨#[]⟩ : ByteArray)]) (t := 35) ?hr ?_; (case hd => rfl); (case hg => rfl); (case hr => first | (go_simp; done) | (go_simp; rfl)); intro gb508 hg w35 hbox hb; have n0_ := m_ (blk_below (kN BK498.out) hb); have n1_ := m_ (below_step (bN HB.out) hb); have n2_ := m_ (hbox); have n3_ := m_ ((by rw [hg]; exact (below_size (bN HB.out)) : w.heap.size ≤ gb508)); have n4_ := m_ ((by rw [hg]; exact (below_size (bN HB.out)) : w.heap.size ≤ gb508)); have n5_ := m_ ((by rw [hg]; exact Nat.ne_of_lt (blk_lt (g := gb498) (o := .cells #[.int .i64 t492, .int .i64 t493, .int .i64 t494, .int .i64 t495, .int .i64 t496, .string t497] 35 (0, 0)) (kN BK498.out)) : gb498 ≠ gb508)); have n6_ := m_ ((by rw [hg]; exact Nat.ne_of_gt (blk_lt (g := gb498) (o := .cells #[.int .i64 t492, .int .i64 t493, .int .i64 t494, .int .i64 t495, .int .i64 t496, .string t497] 35 (0, 0)) (kN BK498.out)) : gb508 ≠ gb498)); clear BK498; clear HB; have BK498 := n0_; have HB := n1_; have BK508 := n2_; have GW508 := n3_; have GE508 := n4_; have NB498_508 := n5_; have NB508_498 := n6_; clear n0_ n1_ n2_ n3_ n4_ n5_ n6_; clear hb hbox hg; have hnb36 := NB508_498.out; have hnc36 := NB498_508.out; have hcz37_0 : w35.cell? ⟨gb508, 0, none⟩ = some (.int .i64 0) := (blk_cell BK508.out 0).trans rfl; have hcz37_1 : w35.cell? ⟨gb508, 1, none⟩ = some (.int .i64 0) := (blk_cell BK508.out 1).trans rfl; have hcz37_2 : w35.cell? ⟨gb508, 2, none⟩ = some (.int .i64 0) := (blk_cell BK508.out 2).trans rfl; have hcz37_3 : w35.cell? ⟨gb508, 3, none⟩ = some (.int .i64 0) := (blk_cell BK508.out 3).trans rfl; have hcz37_4 : w35.cell? ⟨gb508, 4, none⟩ = some (.int .i64 0) := (blk_cell BK508.out 4).trans rfl; have hcz37_5 : w35.cell? ⟨gb508, 5, none⟩ = some (.string (⟨#[]⟩ : ByteArray)) := (blk_cell BK508.out 5).trans rfl; have hfz37_0 := blk_frozen BK508.out 0; have hfz37_1 := blk_frozen BK508.out 1; have hfz37_2 := blk_frozen BK508.out 2; have hfz37_3 := blk_frozen BK508.out 3; have hfz37_4 := blk_frozen BK508.out 4; have hfz37_5 := blk_frozen BK508.out 5) | ((with_reducible refine gate_callee (f := 23) rfl ?_); refine goesL_ (some 41) rfl rfl Tryd.func23 (by kernel_rfl) rfl #[.string t499] rfl gl_ ?_; (with_reducible refine (impl_CmdGet.calls kj2 t499 t509 t510 t511 t512 t513 t514 t515 _ A19.out).mono ?_); rintro e w38 ⟨rfl, hb⟩; refine ⟨_, rfl, ?_⟩; have n0_ := m_ (blk_below (g := gb498) (o := .cells #[.int .i64 t492, .int .i64 t493, .int .i64 t494, .int .i64 t495, .int .i64 t496, .string t497] 35 (0, 0)) (kF BK498.out NB498_508.out) hb); have n1_ := m_ (blk_below (g := gb508) (o := .cells #[.int .i64 t501, .int .i64 t502, .int .i64 t503, .int .i64 t504, .int .i64 t505, .string t506] 35 (0, 0)) (kP BK508.out) hb); have n2_ := m_ (below_step (bN HB.out) hb); clear BK498; clear BK508; clear HB; have BK498 := n0_; have BK508 := n1_; have HB := n2_; clear n0_ n1_ n2_; (try clear hb); (try clear hb2); (try clear hk); (try clear hi)) | ((with_reducible refine gate_dst (N := 9) rfl ?_); (try (refine gate_guard (by rfl) ?_; dsimp only)); refine box_event ?hg (N := 9) ?hd (cs := #[.int .i64 0, .int .i64 0, .int .i64 0, .int .i64 0, .int .i64 0, .string (⟨#[]⟩ : ByteArray)]) (t := 43) ?hr ?_; (case hd => rfl); (case hg => rfl); (case hr => first | (go_simp; done) | (go_simp; rfl)); intro gb516 hg w39 hbox hb; have n0_ := m_ (blk_below (kN BK498.out) hb); have n1_ := m_ (blk_below (kN BK508.out) hb); have n2_ := m_ (below_step (bN HB.out) hb); have n3_ := m_ (hbox); have n4_ := m_ ((by rw [hg]; exact (below_size (bN HB.out)) : w.heap.size ≤ gb516)); have n5_ := m_ ((by rw [hg]; exact (below_size (bN HB.out)) : w.heap.size ≤ gb516)); have n6_ := m_ ((by rw [hg]; exact Nat.ne_of_lt (blk_lt (g := gb498) (o := .cells #[.int .i64 t492, .int .i64 t493, .int .i64 t494, .int .i64 t495, .int .i64 t496, .string t497] 35 (0, 0)) (kN BK498.out)) : gb498 ≠ gb516)); have n7_ := m_ ((by rw [hg]; exact Nat.ne_of_gt (blk_lt (g := gb498) (o := .cells #[.int .i64 t492, .int .i64 t493, .int .i64 t494, .int .i64 t495, .int .i64 t496, .string t497] 35 (0, 0)) (kN BK498.out)) : gb516 ≠ gb498)); have n8_ := m_ ((by rw [hg]; exact Nat.ne_of_lt (blk_lt (g := gb508) (o := .cells #[.int .i64 t501, .int .i64 t502, .int .i64 t503, .int .i64 t504, .int .i64 t505, .string t506] 35 (0, 0)) (kN BK508.out)) : gb508 ≠ gb516)); have n9_ := m_ ((by rw [hg]; exact Nat.ne_of_gt (blk_lt (g := gb508) (o := .cells #[.int .i64 t501, .int .i64 t502, .int .i64 t503, .int .i64 t504, .int .i64 t505, .string t506] 35 (0, 0)) (kN BK508.out)) : gb516 ≠ gb508)); clear BK498; clear BK508; clear HB; have BK498 := n0_; have BK508 := n1_; have HB := n2_; have BK516 := n3_; have GW516 := n4_; have GE516 := n5_; have NB498_516 := n6_; have NB516_498 := n7_; have NB508_516 := n8_; have NB516_508 := n9_; clear n0_ n1_ n2_ n3_ n4_ n5_ n6_ n7_ n8_ n9_; clear hb hbox hg; have hnb40 := NB516_498.out; have hnc40 := NB498_516.out; have hnb41 := NB516_508.out; have hnc41 := NB508_516.out; have hcz42_0 : w39.cell? ⟨gb516, 0, none⟩ = some (.int .i64 0) := (blk_cell BK516.out 0).trans rfl; have hcz42_1 : w39.cell? ⟨gb516, 1, none⟩ = some (.int .i64 0) := (blk_cell BK516.out 1).trans rfl; have hcz42_2 : w39.cell? ⟨gb516, 2, none⟩ = some (.int .i64 0) := (blk_cell BK516.out 2).trans rfl; have hcz42_3 : w39.cell? ⟨gb516, 3, none⟩ = some (.int .i64 0) := (blk_cell BK516.out 3).trans rfl; have hcz42_4 : w39.cell? ⟨gb516, 4, none⟩ = some (.int .i64 0) := (blk_cell BK516.out 4).trans rfl; have hcz42_5 : w39.cell? ⟨gb516, 5, none⟩ = some (.string (⟨#[]⟩ : ByteArray)) := (blk_cell BK516.out 5).trans rfl; have hfz42_0 := blk_frozen BK516.out 0; have hfz42_1 := blk_frozen BK516.out 1; have hfz42_2 := blk_frozen BK516.out 2; have hfz42_3 := blk_frozen BK516.out 3; have hfz42_4 := blk_frozen BK516.out 4; have hfz42_5 := blk_frozen BK516.out 5; have hcz43_0 : w39.cell? ⟨gb508, 0, none⟩ = some (.int .i64 t501) := (blk_cell BK508.out 0).trans rfl; have hcz43_1 : w39.cell? ⟨gb508, 1, none⟩ = some (.int .i64 t502) := (blk_cell BK508.out 1).trans rfl; have hcz43_2 : w39.cell? ⟨gb508, 2, none⟩ = some (.int .i64 t503) := (blk_cell BK508.out 2).trans rfl; have hcz43_3 : w39.cell? ⟨gb508, 3, none⟩ = some (.int .i64 t504) := (blk_cell BK508.out 3).trans rfl; have hcz43_4 : w39.cell? ⟨gb508, 4, none⟩ = some (.int .i64 t505) := (blk_cell BK508.out 4).trans rfl; have hcz43_5 : w39.cell? ⟨gb508, 5, none⟩ = some (.string t506) := (blk_cell BK508.out 5).trans rfl; have hfz43_0 := blk_frozen BK508.out 0; have hfz43_1 := blk_frozen BK508.out 1; have hfz43_2 := blk_frozen BK508.out 2; have hfz43_3 := blk_frozen BK508.out 3; have hfz43_4 := blk_frozen BK508.out 4; have hfz43_5 := blk_frozen BK508.out 5; have hcz44_0 : w39.cell? ⟨gb498, 0, none⟩ = some (.int .i64 t492) := (blk_cell BK498.out 0).trans rfl; have hcz44_1 : w39.cell? ⟨gb498, 1, none⟩ = some (.int .i64 t493) := (blk_cell BK498.out 1).trans rfl; have hcz44_2 : w39.cell? ⟨gb498, 2, none⟩ = some (.int .i64 t494) := (blk_cell BK498.out 2).trans rfl; have hcz44_3 : w39.cell? ⟨gb498, 3, none⟩ = some (.int .i64 t495) := (blk_cell BK498.out 3).trans rfl; have hcz44_4 : w39.cell? ⟨gb498, 4, none⟩ = some (.int .i64 t496) := (blk_cell BK498.out 4).trans rfl; have hcz44_5 : w39.cell? ⟨gb498, 5, none⟩ = some (.string t497) := (blk_cell BK498.out 5).trans rfl; have hfz44_0 := blk_frozen BK498.out 0; have hfz44_1 := blk_frozen BK498.out 1; have hfz44_2 := blk_frozen BK498.out 2; have hfz44_3 := blk_frozen BK498.out 3; have hfz44_4 := blk_frozen BK498.out 4; have hfz44_5 := blk_frozen BK498.out 5))
          go_meet
          case rel => exact ⟨_, H', ⟨by have := HJ2.out; first | omega | exact Nat.le_refl _⟩, ⟨kF BK498.out NB498_516.out⟩, ⟨by repeat (first | (with_reducible first | exact HB.out | apply below_alloc | apply pw_below_drewN | apply below_drew1 | refine below_set ?_ GE498.out | refine below_set ?_ GE508.out | refine below_set ?_ GE516.out) | exact HB.out)⟩⟩
         ·rw [if_neg c33] at H
          have c33b0 : (t515 == 1) = false := beq_eq_false_iff_ne.mpr c33
          have c33b1 : (t515 != 1) = true := bne_iff_ne.mpr c33
          obtain rfl := Option.some.inj H
          go_wp2_with (first | ((with_reducible refine gate_callee (f := 18) rfl ?_); refine goesL_ (some 36) rfl rfl Tryd.func18 (by kernel_rfl) rfl #[.string t499] rfl gl_ ?_; (with_reducible refine (impl_RepGet.calls kj2 t499 t501 t502 t503 t504 t505 t506 true _ A18.out).mono ?_); rintro e w45 ⟨rfl, hb⟩; refine ⟨_, rfl, ?_⟩; have n0_ := m_ (blk_below (kN BK498.out) hb); have n1_ := m_ (below_step (bN HB.out) hb); clear BK498; clear HB; have BK498 := n0_; have HB := n1_; clear n0_ n1_; (try clear hb); (try clear hb2); (try clear hk); (try clear hi)) | ((with_reducible refine gate_dst (N := 7) rfl ?_); (try (refine gate_guard (by rfl) ?_; dsimp only)); refine box_event ?hg (N := 7) ?hd (cs := #[.int .i64 0, .int .i64 0, .int .i64 0, .int .i64 0, .int .i64 0, .string (⟨#[]⟩ : ByteArray)]) (t := 35) ?hr ?_; (case hd => rfl); (case hg => rfl); (case hr => first | (go_simp; done) | (go_simp; rfl)); intro gb508 hg w46 hbox hb; have n0_ := m_ (blk_below (kN BK498.out) hb); have n1_ := m_ (below_step (bN HB.out) hb); have n2_ := m_ (hbox); have n3_ := m_ ((by rw [hg]; exact (below_size (bN HB.out)) : w.heap.size ≤ gb508)); have n4_ := m_ ((by rw [hg]; exact (below_size (bN HB.out)) : w.heap.size ≤ gb508)); have n5_ := m_ ((by rw [hg]; exact Nat.ne_of_lt (blk_lt (g := gb498) (o := .cells #[.int .i64 t492, .int .i64 t493, .int .i64 t494, .int .i64 t495, .int .i64 t496, .string t497] 35 (0, 0)) (kN BK498.out)) : gb498 ≠ gb508)); have n6_ := m_ ((by rw [hg]; exact Nat.ne_of_gt (blk_lt (g := gb498) (o := .cells #[.int .i64 t492, .int .i64 t493, .int .i64 t494, .int .i64 t495, .int .i64 t496, .string t497] 35 (0, 0)) (kN BK498.out)) : gb508 ≠ gb498)); clear BK498; clear HB; have BK498 := n0_; have HB := n1_; have BK508 := n2_; have GW508 := n3_; have GE508 := n4_; have NB498_508 := n5_; have NB508_498 := n6_; clear n0_ n1_ n2_ n3_ n4_ n5_ n6_; clear hb hbox hg; have hnb47 := NB508_498.out; have hnc47 := NB498_508.out; have hcz48_0 : w46.cell? ⟨gb508, 0, none⟩ = some (.int .i64 0) := (blk_cell BK508.out 0).trans rfl; have hcz48_1 : w46.cell? ⟨gb508, 1, none⟩ = some (.int .i64 0) := (blk_cell BK508.out 1).trans rfl; have hcz48_2 : w46.cell? ⟨gb508, 2, none⟩ = some (.int .i64 0) := (blk_cell BK508.out 2).trans rfl; have hcz48_3 : w46.cell? ⟨gb508, 3, none⟩ = some (.int .i64 0) := (blk_cell BK508.out 3).trans rfl; have hcz48_4 : w46.cell? ⟨gb508, 4, none⟩ = some (.int .i64 0) := (blk_cell BK508.out 4).trans rfl; have hcz48_5 : w46.cell? ⟨gb508, 5, none⟩ = some (.string (⟨#[]⟩ : ByteArray)) := (blk_cell BK508.out 5).trans rfl; have hfz48_0 := blk_frozen BK508.out 0; have hfz48_1 := blk_frozen BK508.out 1; have hfz48_2 := blk_frozen BK508.out 2; have hfz48_3 := blk_frozen BK508.out 3; have hfz48_4 := blk_frozen BK508.out 4; have hfz48_5 := blk_frozen BK508.out 5) | ((with_reducible refine gate_callee (f := 23) rfl ?_); refine goesL_ (some 41) rfl rfl Tryd.func23 (by kernel_rfl) rfl #[.string t499] rfl gl_ ?_; (with_reducible refine (impl_CmdGet.calls kj2 t499 t509 t510 t511 t512 t513 t514 t515 _ A19.out).mono ?_); rintro e w49 ⟨rfl, hb⟩; refine ⟨_, rfl, ?_⟩; have n0_ := m_ (blk_below (g := gb498) (o := .cells #[.int .i64 t492, .int .i64 t493, .int .i64 t494, .int .i64 t495, .int .i64 t496, .string t497] 35 (0, 0)) (kF BK498.out NB498_508.out) hb); have n1_ := m_ (blk_below (g := gb508) (o := .cells #[.int .i64 t501, .int .i64 t502, .int .i64 t503, .int .i64 t504, .int .i64 t505, .string t506] 35 (0, 0)) (kP BK508.out) hb); have n2_ := m_ (below_step (bN HB.out) hb); clear BK498; clear BK508; clear HB; have BK498 := n0_; have BK508 := n1_; have HB := n2_; clear n0_ n1_ n2_; (try clear hb); (try clear hb2); (try clear hk); (try clear hi)) | ((with_reducible refine gate_dst (N := 9) rfl ?_); (try (refine gate_guard (by rfl) ?_; dsimp only)); refine box_event ?hg (N := 9) ?hd (cs := #[.int .i64 0, .int .i64 0, .int .i64 0, .int .i64 0, .int .i64 0, .string (⟨#[]⟩ : ByteArray)]) (t := 43) ?hr ?_; (case hd => rfl); (case hg => rfl); (case hr => first | (go_simp; done) | (go_simp; rfl)); intro gb516 hg w50 hbox hb; have n0_ := m_ (blk_below (kN BK498.out) hb); have n1_ := m_ (blk_below (kN BK508.out) hb); have n2_ := m_ (below_step (bN HB.out) hb); have n3_ := m_ (hbox); have n4_ := m_ ((by rw [hg]; exact (below_size (bN HB.out)) : w.heap.size ≤ gb516)); have n5_ := m_ ((by rw [hg]; exact (below_size (bN HB.out)) : w.heap.size ≤ gb516)); have n6_ := m_ ((by rw [hg]; exact Nat.ne_of_lt (blk_lt (g := gb498) (o := .cells #[.int .i64 t492, .int .i64 t493, .int .i64 t494, .int .i64 t495, .int .i64 t496, .string t497] 35 (0, 0)) (kN BK498.out)) : gb498 ≠ gb516)); have n7_ := m_ ((by rw [hg]; exact Nat.ne_of_gt (blk_lt (g := gb498) (o := .cells #[.int .i64 t492, .int .i64 t493, .int .i64 t494, .int .i64 t495, .int .i64 t496, .string t497] 35 (0, 0)) (kN BK498.out)) : gb516 ≠ gb498)); have n8_ := m_ ((by rw [hg]; exact Nat.ne_of_lt (blk_lt (g := gb508) (o := .cells #[.int .i64 t501, .int .i64 t502, .int .i64 t503, .int .i64 t504, .int .i64 t505, .string t506] 35 (0, 0)) (kN BK508.out)) : gb508 ≠ gb516)); have n9_ := m_ ((by rw [hg]; exact Nat.ne_of_gt (blk_lt (g := gb508) (o := .cells #[.int .i64 t501, .int .i64 t502, .int .i64 t503, .int .i64 t504, .int .i64 t505, .string t506] 35 (0, 0)) (kN BK508.out)) : gb516 ≠ gb508)); clear BK498; clear BK508; clear HB; have BK498 := n0_; have BK508 := n1_; have HB := n2_; have BK516 := n3_; have GW516 := n4_; have GE516 := n5_; have NB498_516 := n6_; have NB516_498 := n7_; have NB508_516 := n8_; have NB516_508 := n9_; clear n0_ n1_ n2_ n3_ n4_ n5_ n6_ n7_ n8_ n9_; clear hb hbox hg; have hnb51 := NB516_498.out; have hnc51 := NB498_516.out; have hnb52 := NB516_508.out; have hnc52 := NB508_516.out; have hcz53_0 : w50.cell? ⟨gb516, 0, none⟩ = some (.int .i64 0) := (blk_cell BK516.out 0).trans rfl; have hcz53_1 : w50.cell? ⟨gb516, 1, none⟩ = some (.int .i64 0) := (blk_cell BK516.out 1).trans rfl; have hcz53_2 : w50.cell? ⟨gb516, 2, none⟩ = some (.int .i64 0) := (blk_cell BK516.out 2).trans rfl; have hcz53_3 : w50.cell? ⟨gb516, 3, none⟩ = some (.int .i64 0) := (blk_cell BK516.out 3).trans rfl; have hcz53_4 : w50.cell? ⟨gb516, 4, none⟩ = some (.int .i64 0) := (blk_cell BK516.out 4).trans rfl; have hcz53_5 : w50.cell? ⟨gb516, 5, none⟩ = some (.string (⟨#[]⟩ : ByteArray)) := (blk_cell BK516.out 5).trans rfl; have hfz53_0 := blk_frozen BK516.out 0; have hfz53_1 := blk_frozen BK516.out 1; have hfz53_2 := blk_frozen BK516.out 2; have hfz53_3 := blk_frozen BK516.out 3; have hfz53_4 := blk_frozen BK516.out 4; have hfz53_5 := blk_frozen BK516.out 5; have hcz54_0 : w50.cell? ⟨gb508, 0, none⟩ = some (.int .i64 t501) := (blk_cell BK508.out 0).trans rfl; have hcz54_1 : w50.cell? ⟨gb508, 1, none⟩ = some (.int .i64 t502) := (blk_cell BK508.out 1).trans rfl; have hcz54_2 : w50.cell? ⟨gb508, 2, none⟩ = some (.int .i64 t503) := (blk_cell BK508.out 2).trans rfl; have hcz54_3 : w50.cell? ⟨gb508, 3, none⟩ = some (.int .i64 t504) := (blk_cell BK508.out 3).trans rfl; have hcz54_4 : w50.cell? ⟨gb508, 4, none⟩ = some (.int .i64 t505) := (blk_cell BK508.out 4).trans rfl; have hcz54_5 : w50.cell? ⟨gb508, 5, none⟩ = some (.string t506) := (blk_cell BK508.out 5).trans rfl; have hfz54_0 := blk_frozen BK508.out 0; have hfz54_1 := blk_frozen BK508.out 1; have hfz54_2 := blk_frozen BK508.out 2; have hfz54_3 := blk_frozen BK508.out 3; have hfz54_4 := blk_frozen BK508.out 4; have hfz54_5 := blk_frozen BK508.out 5; have hcz55_0 : w50.cell? ⟨gb498, 0, none⟩ = some (.int .i64 t492) := (blk_cell BK498.out 0).trans rfl; have hcz55_1 : w50.cell? ⟨gb498, 1, none⟩ = some (.int .i64 t493) := (blk_cell BK498.out 1).trans rfl; have hcz55_2 : w50.cell? ⟨gb498, 2, none⟩ = some (.int .i64 t494) := (blk_cell BK498.out 2).trans rfl; have hcz55_3 : w50.cell? ⟨gb498, 3, none⟩ = some (.int .i64 t495) := (blk_cell BK498.out 3).trans rfl; have hcz55_4 : w50.cell? ⟨gb498, 4, none⟩ = some (.int .i64 t496) := (blk_cell BK498.out 4).trans rfl; have hcz55_5 : w50.cell? ⟨gb498, 5, none⟩ = some (.string t497) := (blk_cell BK498.out 5).trans rfl; have hfz55_0 := blk_frozen BK498.out 0; have hfz55_1 := blk_frozen BK498.out 1; have hfz55_2 := blk_frozen BK498.out 2; have hfz55_3 := blk_frozen BK498.out 3; have hfz55_4 := blk_frozen BK498.out 4; have hfz55_5 := blk_frozen BK498.out 5))
          go_ret
          exact ⟨by first | rfl | (simp [errW_none, errW_some] <;> rfl) | (simp [*, errW_none, errW_some] <;> rfl), by repeat (first | (with_reducible first | exact HB.out | apply below_alloc | apply pw_below_drewN | apply below_drew1 | refine below_set ?_ GE498.out | refine below_set ?_ GE508.out | refine below_set ?_ GE516.out) | exact HB.out)⟩
        ·replace c32 := Bool.eq_false_iff.mpr c32
         subst c32
         have H1 : (some false) = some r := by rw [if_neg (show ¬ (false = true) by decide)] at H; exact H
         clear H
         have H := H1
         clear H1
         obtain rfl := Option.some.inj H
         go_wp2_with (first | ((with_reducible refine gate_callee (f := 18) rfl ?_); refine goesL_ (some 36) rfl rfl Tryd.func18 (by kernel_rfl) rfl #[.string t499] rfl gl_ ?_; (with_reducible refine (impl_RepGet.calls kj2 t499 t501 t502 t503 t504 t505 t506 false _ A18.out).mono ?_); rintro e w56 ⟨rfl, hb⟩; refine ⟨_, rfl, ?_⟩; have n0_ := m_ (blk_below (kN BK498.out) hb); have n1_ := m_ (below_step (bN HB.out) hb); clear BK498; clear HB; have BK498 := n0_; have HB := n1_; clear n0_ n1_; (try clear hb); (try clear hb2); (try clear hk); (try clear hi)) | ((with_reducible refine gate_dst (N := 7) rfl ?_); (try (refine gate_guard (by rfl) ?_; dsimp only)); refine box_event ?hg (N := 7) ?hd (cs := #[.int .i64 0, .int .i64 0, .int .i64 0, .int .i64 0, .int .i64 0, .string (⟨#[]⟩ : ByteArray)]) (t := 35) ?hr ?_; (case hd => rfl); (case hg => rfl); (case hr => first | (go_simp; done) | (go_simp; rfl)); intro gb508 hg w57 hbox hb; have n0_ := m_ (blk_below (kN BK498.out) hb); have n1_ := m_ (below_step (bN HB.out) hb); have n2_ := m_ (hbox); have n3_ := m_ ((by rw [hg]; exact (below_size (bN HB.out)) : w.heap.size ≤ gb508)); have n4_ := m_ ((by rw [hg]; exact (below_size (bN HB.out)) : w.heap.size ≤ gb508)); have n5_ := m_ ((by rw [hg]; exact Nat.ne_of_lt (blk_lt (g := gb498) (o := .cells #[.int .i64 t492, .int .i64 t493, .int .i64 t494, .int .i64 t495, .int .i64 t496, .string t497] 35 (0, 0)) (kN BK498.out)) : gb498 ≠ gb508)); have n6_ := m_ ((by rw [hg]; exact Nat.ne_of_gt (blk_lt (g := gb498) (o := .cells #[.int .i64 t492, .int .i64 t493, .int .i64 t494, .int .i64 t495, .int .i64 t496, .string t497] 35 (0, 0)) (kN BK498.out)) : gb508 ≠ gb498)); clear BK498; clear HB; have BK498 := n0_; have HB := n1_; have BK508 := n2_; have GW508 := n3_; have GE508 := n4_; have NB498_508 := n5_; have NB508_498 := n6_; clear n0_ n1_ n2_ n3_ n4_ n5_ n6_; clear hb hbox hg; have hnb58 := NB508_498.out; have hnc58 := NB498_508.out; have hcz59_0 : w57.cell? ⟨gb508, 0, none⟩ = some (.int .i64 0) := (blk_cell BK508.out 0).trans rfl; have hcz59_1 : w57.cell? ⟨gb508, 1, none⟩ = some (.int .i64 0) := (blk_cell BK508.out 1).trans rfl; have hcz59_2 : w57.cell? ⟨gb508, 2, none⟩ = some (.int .i64 0) := (blk_cell BK508.out 2).trans rfl; have hcz59_3 : w57.cell? ⟨gb508, 3, none⟩ = some (.int .i64 0) := (blk_cell BK508.out 3).trans rfl; have hcz59_4 : w57.cell? ⟨gb508, 4, none⟩ = some (.int .i64 0) := (blk_cell BK508.out 4).trans rfl; have hcz59_5 : w57.cell? ⟨gb508, 5, none⟩ = some (.string (⟨#[]⟩ : ByteArray)) := (blk_cell BK508.out 5).trans rfl; have hfz59_0 := blk_frozen BK508.out 0; have hfz59_1 := blk_frozen BK508.out 1; have hfz59_2 := blk_frozen BK508.out 2; have hfz59_3 := blk_frozen BK508.out 3; have hfz59_4 := blk_frozen BK508.out 4; have hfz59_5 := blk_frozen BK508.out 5) | ((with_reducible refine gate_callee (f := 23) rfl ?_); refine goesL_ (some 41) rfl rfl Tryd.func23 (by kernel_rfl) rfl #[.string t499] rfl gl_ ?_; (with_reducible refine (impl_CmdGet.calls kj2 t499 t509 t510 t511 t512 t513 t514 t515 _ A19.out).mono ?_); rintro e w60 ⟨rfl, hb⟩; refine ⟨_, rfl, ?_⟩; have n0_ := m_ (blk_below (g := gb498) (o := .cells #[.int .i64 t492, .int .i64 t493, .int .i64 t494, .int .i64 t495, .int .i64 t496, .string t497] 35 (0, 0)) (kF BK498.out NB498_508.out) hb); have n1_ := m_ (blk_below (g := gb508) (o := .cells #[.int .i64 t501, .int .i64 t502, .int .i64 t503, .int .i64 t504, .int .i64 t505, .string t506] 35 (0, 0)) (kP BK508.out) hb); have n2_ := m_ (below_step (bN HB.out) hb); clear BK498; clear BK508; clear HB; have BK498 := n0_; have BK508 := n1_; have HB := n2_; clear n0_ n1_ n2_; (try clear hb); (try clear hb2); (try clear hk); (try clear hi)) | ((with_reducible refine gate_dst (N := 9) rfl ?_); (try (refine gate_guard (by rfl) ?_; dsimp only)); refine box_event ?hg (N := 9) ?hd (cs := #[.int .i64 0, .int .i64 0, .int .i64 0, .int .i64 0, .int .i64 0, .string (⟨#[]⟩ : ByteArray)]) (t := 43) ?hr ?_; (case hd => rfl); (case hg => rfl); (case hr => first | (go_simp; done) | (go_simp; rfl)); intro gb516 hg w61 hbox hb; have n0_ := m_ (blk_below (kN BK498.out) hb); have n1_ := m_ (blk_below (kN BK508.out) hb); have n2_ := m_ (below_step (bN HB.out) hb); have n3_ := m_ (hbox); have n4_ := m_ ((by rw [hg]; exact (below_size (bN HB.out)) : w.heap.size ≤ gb516)); have n5_ := m_ ((by rw [hg]; exact (below_size (bN HB.out)) : w.heap.size ≤ gb516)); have n6_ := m_ ((by rw [hg]; exact Nat.ne_of_lt (blk_lt (g := gb498) (o := .cells #[.int .i64 t492, .int .i64 t493, .int .i64 t494, .int .i64 t495, .int .i64 t496, .string t497] 35 (0, 0)) (kN BK498.out)) : gb498 ≠ gb516)); have n7_ := m_ ((by rw [hg]; exact Nat.ne_of_gt (blk_lt (g := gb498) (o := .cells #[.int .i64 t492, .int .i64 t493, .int .i64 t494, .int .i64 t495, .int .i64 t496, .string t497] 35 (0, 0)) (kN BK498.out)) : gb516 ≠ gb498)); have n8_ := m_ ((by rw [hg]; exact Nat.ne_of_lt (blk_lt (g := gb508) (o := .cells #[.int .i64 t501, .int .i64 t502, .int .i64 t503, .int .i64 t504, .int .i64 t505, .string t506] 35 (0, 0)) (kN BK508.out)) : gb508 ≠ gb516)); have n9_ := m_ ((by rw [hg]; exact Nat.ne_of_gt (blk_lt (g := gb508) (o := .cells #[.int .i64 t501, .int .i64 t502, .int .i64 t503, .int .i64 t504, .int .i64 t505, .string t506] 35 (0, 0)) (kN BK508.out)) : gb516 ≠ gb508)); clear BK498; clear BK508; clear HB; have BK498 := n0_; have BK508 := n1_; have HB := n2_; have BK516 := n3_; have GW516 := n4_; have GE516 := n5_; have NB498_516 := n6_; have NB516_498 := n7_; have NB508_516 := n8_; have NB516_508 := n9_; clear n0_ n1_ n2_ n3_ n4_ n5_ n6_ n7_ n8_ n9_; clear hb hbox hg; have hnb62 := NB516_498.out; have hnc62 := NB498_516.out; have hnb63 := NB516_508.out; have hnc63 := NB508_516.out; have hcz64_0 : w61.cell? ⟨gb516, 0, none⟩ = some (.int .i64 0) := (blk_cell BK516.out 0).trans rfl; have hcz64_1 : w61.cell? ⟨gb516, 1, none⟩ = some (.int .i64 0) := (blk_cell BK516.out 1).trans rfl; have hcz64_2 : w61.cell? ⟨gb516, 2, none⟩ = some (.int .i64 0) := (blk_cell BK516.out 2).trans rfl; have hcz64_3 : w61.cell? ⟨gb516, 3, none⟩ = some (.int .i64 0) := (blk_cell BK516.out 3).trans rfl; have hcz64_4 : w61.cell? ⟨gb516, 4, none⟩ = some (.int .i64 0) := (blk_cell BK516.out 4).trans rfl; have hcz64_5 : w61.cell? ⟨gb516, 5, none⟩ = some (.string (⟨#[]⟩ : ByteArray)) := (blk_cell BK516.out 5).trans rfl; have hfz64_0 := blk_frozen BK516.out 0; have hfz64_1 := blk_frozen BK516.out 1; have hfz64_2 := blk_frozen BK516.out 2; have hfz64_3 := blk_frozen BK516.out 3; have hfz64_4 := blk_frozen BK516.out 4; have hfz64_5 := blk_frozen BK516.out 5; have hcz65_0 : w61.cell? ⟨gb508, 0, none⟩ = some (.int .i64 t501) := (blk_cell BK508.out 0).trans rfl; have hcz65_1 : w61.cell? ⟨gb508, 1, none⟩ = some (.int .i64 t502) := (blk_cell BK508.out 1).trans rfl; have hcz65_2 : w61.cell? ⟨gb508, 2, none⟩ = some (.int .i64 t503) := (blk_cell BK508.out 2).trans rfl; have hcz65_3 : w61.cell? ⟨gb508, 3, none⟩ = some (.int .i64 t504) := (blk_cell BK508.out 3).trans rfl; have hcz65_4 : w61.cell? ⟨gb508, 4, none⟩ = some (.int .i64 t505) := (blk_cell BK508.out 4).trans rfl; have hcz65_5 : w61.cell? ⟨gb508, 5, none⟩ = some (.string t506) := (blk_cell BK508.out 5).trans rfl; have hfz65_0 := blk_frozen BK508.out 0; have hfz65_1 := blk_frozen BK508.out 1; have hfz65_2 := blk_frozen BK508.out 2; have hfz65_3 := blk_frozen BK508.out 3; have hfz65_4 := blk_frozen BK508.out 4; have hfz65_5 := blk_frozen BK508.out 5; have hcz66_0 : w61.cell? ⟨gb498, 0, none⟩ = some (.int .i64 t492) := (blk_cell BK498.out 0).trans rfl; have hcz66_1 : w61.cell? ⟨gb498, 1, none⟩ = some (.int .i64 t493) := (blk_cell BK498.out 1).trans rfl; have hcz66_2 : w61.cell? ⟨gb498, 2, none⟩ = some (.int .i64 t494) := (blk_cell BK498.out 2).trans rfl; have hcz66_3 : w61.cell? ⟨gb498, 3, none⟩ = some (.int .i64 t495) := (blk_cell BK498.out 3).trans rfl; have hcz66_4 : w61.cell? ⟨gb498, 4, none⟩ = some (.int .i64 t496) := (blk_cell BK498.out 4).trans rfl; have hcz66_5 : w61.cell? ⟨gb498, 5, none⟩ = some (.string t497) := (blk_cell BK498.out 5).trans rfl; have hfz66_0 := blk_frozen BK498.out 0; have hfz66_1 := blk_frozen BK498.out 1; have hfz66_2 := blk_frozen BK498.out 2; have hfz66_3 := blk_frozen BK498.out 3; have hfz66_4 := blk_frozen BK498.out 4; have hfz66_5 := blk_frozen BK498.out 5))
         go_ret
         exact ⟨by first | rfl | (simp [errW_none, errW_some] <;> rfl) | (simp [*, errW_none, errW_some] <;> rfl), by repeat (first | (with_reducible first | exact HB.out | apply below_alloc | apply pw_below_drewN | apply below_drew1 | refine below_set ?_ GE498.out | refine below_set ?_ GE508.out | refine below_set ?_ GE516.out) | exact HB.out)⟩
     case rest =>
      clear HC10
      try clear c1
      try clear c2
      try clear p2
      try clear c3
      try clear c4
      try clear c4b0
      try clear c4b1
      try clear c5
      try clear c6
      try clear c9
      try clear c9b0
      try clear c9b1
      try clear c17
      try clear c17b0
      try clear c17b1
      try clear c18
      try clear c20
      try clear c20b0
      try clear c21
      try clear c22
      try clear c23
      try clear c27
      try clear c28
      try clear c32
      try clear c33
      try clear c33b0
      try clear c33b1
      try clear c36
      try clear c40
      try clear c41
      try clear c47
      try clear c51
      try clear c52
      try clear c58
      try clear c62
      try clear c63
      try clear hcz13_0
      try clear hcz13_1
      try clear hcz13_2
      try clear hcz13_3
      try clear hcz13_4
      try clear hcz13_5
      try clear hcz15_0
      try clear hcz15_1
      try clear hcz15_2
      try clear hcz15_3
      try clear hcz15_4
      try clear hcz15_5
      try clear hcz24_0
      try clear hcz24_1
      try clear hcz24_2
      try clear hcz24_3
      try clear hcz24_4
      try clear hcz24_5
      try clear hcz29_0
      try clear hcz29_1
      try clear hcz29_2
      try clear hcz29_3
      try clear hcz29_4
      try clear hcz29_5
      try clear hcz30_0
      try clear hcz30_1
      try clear hcz30_2
      try clear hcz30_3
      try clear hcz30_4
      try clear hcz30_5
      try clear hcz31_0
      try clear hcz31_1
      try clear hcz31_2
      try clear hcz31_3
      try clear hcz31_4
      try clear hcz31_5
      try clear hcz37_0
      try clear hcz37_1
      try clear hcz37_2
      try clear hcz37_3
      try clear hcz37_4
      try clear hcz37_5
      try clear hcz42_0
      try clear hcz42_1
      try clear hcz42_2
      try clear hcz42_3
      try clear hcz42_4
      try clear hcz42_5
      try clear hcz43_0
      try clear hcz43_1
      try clear hcz43_2
      try clear hcz43_3
      try clear hcz43_4
      try clear hcz43_5
      try clear hcz44_0
      try clear hcz44_1
      try clear hcz44_2
      try clear hcz44_3
      try clear hcz44_4
      try clear hcz44_5
      try clear hcz48_0
      try clear hcz48_1
      try clear hcz48_2
      try clear hcz48_3
      try clear hcz48_4
      try clear hcz48_5
      try clear hcz53_0
      try clear hcz53_1
      try clear hcz53_2
      try clear hcz53_3
      try clear hcz53_4
      try clear hcz53_5
      try clear hcz54_0
      try clear hcz54_1
      try clear hcz54_2
      try clear hcz54_3
      try clear hcz54_4
      try clear hcz54_5
      try clear hcz55_0
      try clear hcz55_1
      try clear hcz55_2
      try clear hcz55_3
      try clear hcz55_4
      try clear hcz55_5
      try clear hcz59_0
      try clear hcz59_1
      try clear hcz59_2
      try clear hcz59_3
      try clear hcz59_4
      try clear hcz59_5
      try clear hcz64_0
      try clear hcz64_1
      try clear hcz64_2
      try clear hcz64_3
      try clear hcz64_4
      try clear hcz64_5
      try clear hcz65_0
      try clear hcz65_1
      try clear hcz65_2
      try clear hcz65_3
      try clear hcz65_4
      try clear hcz65_5
      try clear hcz66_0
      try clear hcz66_1
      try clear hcz66_2
      try clear hcz66_3
      try clear hcz66_4
      try clear hcz66_5
      try clear hfz13_0
      try clear hfz13_1
      try clear hfz13_2
      try clear hfz13_3
      try clear hfz13_4
      try clear hfz13_5
      try clear hfz15_0
      try clear hfz15_1
      try clear hfz15_2
      try clear hfz15_3
      try clear hfz15_4
      try clear hfz15_5
      try clear hfz24_0
      try clear hfz24_1
      try clear hfz24_2
      try clear hfz24_3
      try clear hfz24_4
      try clear hfz24_5
      try clear hfz29_0
      try clear hfz29_1
      try clear hfz29_2
      try clear hfz29_3
      try clear hfz29_4
      try clear hfz29_5
      try clear hfz30_0
      try clear hfz30_1
      try clear hfz30_2
      try clear hfz30_3
      try clear hfz30_4
      try clear hfz30_5
      try clear hfz31_0
      try clear hfz31_1
      try clear hfz31_2
      try clear hfz31_3
      try clear hfz31_4
      try clear hfz31_5
      try clear hfz37_0
      try clear hfz37_1
      try clear hfz37_2
      try clear hfz37_3
      try clear hfz37_4
      try clear hfz37_5
      try clear hfz42_0
      try clear hfz42_1
      try clear hfz42_2
      try clear hfz42_3
      try clear hfz42_4
      try clear hfz42_5
      try clear hfz43_0
      try clear hfz43_1
      try clear hfz43_2
      try clear hfz43_3
      try clear hfz43_4
      try clear hfz43_5
      try clear hfz44_0
      try clear hfz44_1
      try clear hfz44_2
      try clear hfz44_3
      try clear hfz44_4
      try clear hfz44_5
      try clear hfz48_0
      try clear hfz48_1
      try clear hfz48_2
      try clear hfz48_3
      try clear hfz48_4
      try clear hfz48_5
      try clear hfz53_0
      try clear hfz53_1
      try clear hfz53_2
      try clear hfz53_3
      try clear hfz53_4
      try clear hfz53_5
      try clear hfz54_0
      try clear hfz54_1
      try clear hfz54_2
      try clear hfz54_3
      try clear hfz54_4
      try clear hfz54_5
      try clear hfz55_0
      try clear hfz55_1
      try clear hfz55_2
      try clear hfz55_3
      try clear hfz55_4
      try clear hfz55_5
      try clear hfz59_0
      try clear hfz59_1
      try clear hfz59_2
      try clear hfz59_3
      try clear hfz59_4
      try clear hfz59_5
      try clear hfz64_0
      try clear hfz64_1
      try clear hfz64_2
      try clear hfz64_3
      try clear hfz64_4
      try clear hfz64_5
      try clear hfz65_0
      try clear hfz65_1
      try clear hfz65_2
      try clear hfz65_3
      try clear hfz65_4
      try clear hfz65_5
      try clear hfz66_0
      try clear hfz66_1
      try clear hfz66_2
      try clear hfz66_3
      try clear hfz66_4
      try clear hfz66_5
      try clear p2
      obtain ⟨kq, HA, HJ9, BK498, HB⟩ := hcut
      cases kq with
      | zero => exact absurd HA.out (by simp [laws_FnRepBack.j1])
      | succ kj9 =>
       have H := HA.out
       clear HA
       simp only [laws_FnRepBack.j1] at H
       replace H := Option.bind_eq_some_iff.mp H
       obtain ⟨t517, A670, H⟩ := H
       replace H : ((impl_RepGet.f kj9 t517).bind fun bt518 => ((spec_RepGet.f kj9 t517).bind fun bt526 => (if (bt518.1 == bt526.1 && (bt518.2.1 == bt526.2.1 && (bt518.2.2.1 == bt526.2.2.1 && (bt518.2.2.2.1 == bt526.2.2.2.1 && (bt518.2.2.2.2.1 == bt526.2.2.2.2.1 && (bt518.2.2.2.2.2.1.toList == bt526.2.2.2.2.2.1.toList)))))) = true then (if (bt518.2.2.2.2.2.2 == bt526.2.2.2.2.2.2) = true then (if bt518.2.2.2.2.2.2 = true then ((impl_RepPut.f kj9 bt518.1 bt518.2.1 bt518.2.2.1 bt518.2.2.2.1 bt518.2.2.2.2.1 bt518.2.2.2.2.2.1).bind fun t534 => (some (t534.toList == t517.toList))) else (some true)) else (some false)) else (some false)))) = some r := H
       have A67 := Aside0.mk A670
       clear A670
       replace H := Option.bind_eq_some_iff.mp H
       obtain ⟨⟨t518, t519, t520, t521, t522, t523, t524⟩, A680, H⟩ := H
       replace H : ((spec_RepGet.f kj9 t517).bind fun bt526 => (if (t518 == bt526.1 && (t519 == bt526.2.1 && (t520 == bt526.2.2.1 && (t521 == bt526.2.2.2.1 && (t522 == bt526.2.2.2.2.1 && (t523.toList == bt526.2.2.2.2.2.1.toList)))))) = true then (if (t524 == bt526.2.2.2.2.2.2) = true then (if t524 = true then ((impl_RepPut.f kj9 t518 t519 t520 t521 t522 t523).bind fun t534 => (some (t534.toList == t517.toList))) else (some true)) else (some false)) else (some false))) = some r := H
       have A68 := Aside0.mk A680
       clear A680
       replace H := Option.bind_eq_some_iff.mp H
       obtain ⟨⟨t526, t527, t528, t529, t530, t531, t532⟩, A690, H⟩ := H
       replace H : (if (t518 == t526 && (t519 == t527 && (t520 == t528 && (t521 == t529 && (t522 == t530 && (t523.toList == t531.toList)))))) = true then (if (t524 == t532) = true then (if t524 = true then ((impl_RepPut.f kj9 t518 t519 t520 t521 t522 t523).bind fun t534 => (some (t534.toList == t517.toList))) else (some true)) else (some false)) else (some false)) = some r := H
       have A69 := Aside0.mk A690
       clear A690
       by_cases c70 : (t518 == t526 && (t519 == t527 && (t520 == t528 && (t521 == t529 && (t522 == t530 && (t523.toList == t531.toList)))))) = true
       ·rw [if_pos c70] at H
        have c70b0 : (t518 == t526 && (t519 == t527 && (t520 == t528 && (t521 == t529 && (t522 == t530 && (t523.toList == t531.toList)))))) = true := c70
        (try (have c70b1 : decide (t518 = t526 && (t519 == t527 && (t520 == t528 && (t521 == t529 && (t522 == t530 && (t523.toList == t531.toList)))))) = true := by simpa using c70))
        (try (have c70b2 : (t518 == t526 && (t519 == t527 && (t520 == t528 && (t521 == t529 && (t522 == t530 && (t523.toList == t531.toList)))))) = true := by simpa using c70))
        clear c70
        by_cases c71 : (t524 == t532) = true
        ·rw [if_pos c71] at H
         have c71b0 : (t524 == t532) = true := c71
         (try (have c71b1 : decide (t524 = t532) = true := by simpa using c71))
         (try (have c71b2 : (t524 == t532) = true := by simpa using c71))
         clear c71
         by_cases c72 : t524 = true
         ·subst c72
          have H1 : ((impl_RepPut.f kj9 t518 t519 t520 t521 t522 t523).bind fun t534 => (some (t534.toList == t517.toList))) = some r := by rw [if_pos rfl] at H; exact H
          clear H
          have H := H1
          clear H1
          replace H := Option.bind_eq_some_iff.mp H
          obtain ⟨t534, A730, H⟩ := H
          replace H : (some (t534.toList == t517.toList)) = some r := H
          have A73 := Aside0.mk A730
          clear A730
          obtain rfl := Option.some.inj H
          go_wp2_with (first | ((with_reducible refine gate_callee (f := 24) rfl ?_); refine goesL_ (some 56) rfl rfl Tryd.func24 (by kernel_rfl) rfl #[.slice A1 l1.length c1] rfl gl_ ?_; (with_reducible refine (spec_DrawRepGet.calls kj9 _ _ l1 t517 _ ?side1 ?side2 A67.out).mono ?_); (case side1 => exact cN (Kd.C_below HR1.out HB.out)); (case side2 => exact HC1.out); rintro e w74 ⟨rfl, hb⟩; refine ⟨_, rfl, ?_⟩; have n0_ := m_ (blk_below (kN BK498.out) hb); have n1_ := m_ (below_step (bN HB.out) hb); clear BK498; clear HB; have BK498 := n0_; have HB := n1_; clear n0_ n1_; (try clear hb); (try clear hb2); (try clear hk); (try clear hi)) | ((with_reducible refine gate_callee (f := 18) rfl ?_); refine goesL_ (some 59) rfl rfl Tryd.func18 (by kernel_rfl) rfl #[.string t517] rfl gl_ ?_; (with_reducible refine (impl_RepGet.calls kj9 t517 t518 t519 t520 t521 t522 t523 true _ A68.out).mono ?_); rintro e w75 ⟨rfl, hb⟩; refine ⟨_, rfl, ?_⟩; have n0_ := m_ (blk_below (kN BK498.out) hb); have n1_ := m_ (below_step (bN HB.out) hb); clear BK498; clear HB; have BK498 := n0_; have HB := n1_; clear n0_ n1_; (try clear hb); (try clear hb2); (try clear hk); (try clear hi)) | ((with_reducible refine gate_dst (N := 12) rfl ?_); (try (refine gate_guard (by rfl) ?_; dsimp only)); refine box_event ?hg (N := 12) ?hd (cs := #[.int .i64 0, .int .i64 0, .int .i64 0, .int .i64 0, .int .i64 0, .string (⟨#[]⟩ : ByteArray)]) (t := 35) ?hr ?_; (case hd => rfl); (case hg => rfl); (case hr => first | (go_simp; done) | (go_simp; rfl)); intro gb525 hg w76 hbox hb; have n0_ := m_ (blk_below (kN BK498.out) hb); have n1_ := m_ (below_step (bN HB.out) hb); have n2_ := m_ (hbox); have n3_ := m_ ((by rw [hg]; exact (below_size (bN HB.out)) : w.heap.size ≤ gb525)); have n4_ := m_ ((by rw [hg]; exact (below_size (bN HB.out)) : w.heap.size ≤ gb525)); have n5_ := m_ ((by rw [hg]; exact Nat.ne_of_lt (blk_lt (g := gb498) (o := .cells #[.int .i64 t492, .int .i64 t493, .int .i64 t494, .int .i64 t495, .int .i64 t496, .string t497] 35 (0, 0)) (kN BK498.out)) : gb498 ≠ gb525)); have n6_ := m_ ((by rw [hg]; exact Nat.ne_of_gt (blk_lt (g := gb498) (o := .cells #[.int .i64 t492, .int .i64 t493, .int .i64 t494, .int .i64 t495, .int .i64 t496, .string t497] 35 (0, 0)) (kN BK498.out)) : gb525 ≠ gb498)); clear BK498; clear HB; have BK498 := n0_; have HB := n1_; have BK525 := n2_; have GW525 := n3_; have GE525 := n4_; have NB498_525 := n5_; have NB525_498 := n6_; clear n0_ n1_ n2_ n3_ n4_ n5_ n6_; clear hb hbox hg; have hnb77 := NB525_498.out; have hnc77 := NB498_525.out; have hcz78_0 : w76.cell? ⟨gb525, 0, none⟩ = some (.int .i64 0) := (blk_cell BK525.out 0).trans rfl; have hcz78_1 : w76.cell? ⟨gb525, 1, none⟩ = some (.int .i64 0) := (blk_cell BK525.out 1).trans rfl; have hcz78_2 : w76.cell? ⟨gb525, 2, none⟩ = some (.int .i64 0) := (blk_cell BK525.out 2).trans rfl; have hcz78_3 : w76.cell? ⟨gb525, 3, none⟩ = some (.int .i64 0) := (blk_cell BK525.out 3).trans rfl; have hcz78_4 : w76.cell? ⟨gb525, 4, none⟩ = some (.int .i64 0) := (blk_cell BK525.out 4).trans rfl; have hcz78_5 : w76.cell? ⟨gb525, 5, none⟩ = some (.string (⟨#[]⟩ : ByteArray)) := (blk_cell BK525.out 5).trans rfl; have hfz78_0 := blk_frozen BK525.out 0; have hfz78_1 := blk_frozen BK525.out 1; have hfz78_2 := blk_frozen BK525.out 2; have hfz78_3 := blk_frozen BK525.out 3; have hfz78_4 := blk_frozen BK525.out 4; have hfz78_5 := blk_frozen BK525.out 5) | ((with_reducible refine gate_callee (f := 17) rfl ?_); refine goesL_ (some 64) rfl rfl Tryd.func17 (by kernel_rfl) rfl #[.string t517] rfl gl_ ?_; (with_reducible refine (spec_RepGet.calls kj9 t517 t526 t527 t528 t529 t530 t531 t532 _ A69.out).mono ?_); rintro e w79 ⟨rfl, hb⟩; refine ⟨_, rfl, ?_⟩; have n0_ := m_ (blk_below (g := gb498) (o := .cells #[.int .i64 t492, .int .i64 t493, .int .i64 t494, .int .i64 t495, .int .i64 t496, .string t497] 35 (0, 0)) (kF BK498.out NB498_525.out) hb); have n1_ := m_ (blk_below (g := gb525) (o := .cells #[.int .i64 t518, .int .i64 t519, .int .i64 t520, .int .i64 t521, .int .i64 t522, .string t523] 35 (0, 0)) (kP BK525.out) hb); have n2_ := m_ (below_step (bN HB.out) hb); clear BK498; clear BK525; clear HB; have BK498 := n0_; have BK525 := n1_; have HB := n2_; clear n0_ n1_ n2_; (try clear hb); (try clear hb2); (try clear hk); (try clear hi)) | ((with_reducible refine gate_dst (N := 14) rfl ?_); (try (refine gate_guard (by rfl) ?_; dsimp only)); refine box_event ?hg (N := 14) ?hd (cs := #[.int .i64 0, .int .i64 0, .int .i64 0, .int .i64 0, .int .i64 0, .string (⟨#[]⟩ : ByteArray)]) (t := 35) ?hr ?_; (case hd => rfl); (case hg => rfl); (case hr => first | (go_simp; done) | (go_simp; rfl)); intro gb533 hg w80 hbox hb; have n0_ := m_ (blk_below (kN BK498.out) hb); have n1_ := m_ (blk_below (kN BK525.out) hb); have n2_ := m_ (below_step (bN HB.out) hb); have n3_ := m_ (hbox); have n4_ := m_ ((by rw [hg]; exact (below_size (bN HB.out)) : w.heap.size ≤ gb533)); have n5_ := m_ ((by rw [hg]; exact (below_size (bN HB.out)) : w.heap.size ≤ gb533)); have n6_ := m_ ((by rw [hg]; exact Nat.ne_of_lt (blk_lt (g := gb498) (o := .cells #[.int .i64 t492, .int .i64 t493, .int .i64 t494, .int .i64 t495, .int .i64 t496, .string t497] 35 (0, 0)) (kN BK498.out)) : gb498 ≠ gb533)); have n7_ := m_ ((by rw [hg]; exact Nat.ne_of_gt (blk_lt (g := gb498) (o := .cells #[.int .i64 t492, .int .i64 t493, .int .i64 t494, .int .i64 t495, .int .i64 t496, .string t497] 35 (0, 0)) (kN BK498.out)) : gb533 ≠ gb498)); have n8_ := m_ ((by rw [hg]; exact Nat.ne_of_lt (blk_lt (g := gb525) (o := .cells #[.int .i64 t518, .int .i64 t519, .int .i64 t520, .int .i64 t521, .int .i64 t522, .string t523] 35 (0, 0)) (kN BK525.out)) : gb525 ≠ gb533)); have n9_ := m_ ((by rw [hg]; exact Nat.ne_of_gt (blk_lt (g := gb525) (o := .cells #[.int .i64 t518, .int .i64 t519, .int .i64 t520, .int .i64 t521, .int .i64 t522, .string t523] 35 (0, 0)) (kN BK525.out)) : gb533 ≠ gb525)); clear BK498; clear BK525; clear HB; have BK498 := n0_; have BK525 := n1_; have HB := n2_; have BK533 := n3_; have GW533 := n4_; have GE533 := n5_; have NB498_533 := n6_; have NB533_498 := n7_; have NB525_533 := n8_; have NB533_525 := n9_; clear n0_ n1_ n2_ n3_ n4_ n5_ n6_ n7_ n8_ n9_; clear hb hbox hg; have hnb81 := NB533_498.out; have hnc81 := NB498_533.out; have hnb82 := NB533_525.out; have hnc82 := NB525_533.out; have hcz83_0 : w80.cell? ⟨gb533, 0, none⟩ = some (.int .i64 0) := (blk_cell BK533.out 0).trans rfl; have hcz83_1 : w80.cell? ⟨gb533, 1, none⟩ = some (.int .i64 0) := (blk_cell BK533.out 1).trans rfl; have hcz83_2 : w80.cell? ⟨gb533, 2, none⟩ = some (.int .i64 0) := (blk_cell BK533.out 2).trans rfl; have hcz83_3 : w80.cell? ⟨gb533, 3, none⟩ = some (.int .i64 0) := (blk_cell BK533.out 3).trans rfl; have hcz83_4 : w80.cell? ⟨gb533, 4, none⟩ = some (.int .i64 0) := (blk_cell BK533.out 4).trans rfl; have hcz83_5 : w80.cell? ⟨gb533, 5, none⟩ = some (.string (⟨#[]⟩ : ByteArray)) := (blk_cell BK533.out 5).trans rfl; have hfz83_0 := blk_frozen BK533.out 0; have hfz83_1 := blk_frozen BK533.out 1; have hfz83_2 := blk_frozen BK533.out 2; have hfz83_3 := blk_frozen BK533.out 3; have hfz83_4 := blk_frozen BK533.out 4; have hfz83_5 := blk_frozen BK533.out 5; have hcz84_0 : w80.cell? ⟨gb525, 0, none⟩ = some (.int .i64 t518) := (blk_cell BK525.out 0).trans rfl; have hcz84_1 : w80.cell? ⟨gb525, 1, none⟩ = some (.int .i64 t519) := (blk_cell BK525.out 1).trans rfl; have hcz84_2 : w80.cell? ⟨gb525, 2, none⟩ = some (.int .i64 t520) := (blk_cell BK525.out 2).trans rfl; have hcz84_3 : w80.cell? ⟨gb525, 3, none⟩ = some (.int .i64 t521) := (blk_cell BK525.out 3).trans rfl; have hcz84_4 : w80.cell? ⟨gb525, 4, none⟩ = some (.int .i64 t522) := (blk_cell BK525.out 4).trans rfl; have hcz84_5 : w80.cell? ⟨gb525, 5, none⟩ = some (.string t523) := (blk_cell BK525.out 5).trans rfl; have hfz84_0 := blk_frozen BK525.out 0; have hfz84_1 := blk_frozen BK525.out 1; have hfz84_2 := blk_frozen BK525.out 2; have hfz84_3 := blk_frozen BK525.out 3; have hfz84_4 := blk_frozen BK525.out 4; have hfz84_5 := blk_frozen BK525.out 5) | (go_at_call 21; (with_reducible refine (impl_RepPut.calls kj9 t518 t519 t520 t521 t522 t523 t534 _ A73.out).mono ?_); rintro e w85 ⟨rfl, hb⟩; have n0_ := m_ (blk_below (g := gb498) (o := .cells #[.int .i64 t492, .int .i64 t493, .int .i64 t494, .int .i64 t495, .int .i64 t496, .string t497] 35 (0, 0)) (kF BK498.out NB498_533.out) hb); have n1_ := m_ (blk_below (g := gb525) (o := .cells #[.int .i64 t518, .int .i64 t519, .int .i64 t520, .int .i64 t521, .int .i64 t522, .string t523] 35 (0, 0)) (kF BK525.out NB525_533.out) hb); have n2_ := m_ (blk_below (g := gb533) (o := .cells #[.int .i64 t526, .int .i64 t527, .int .i64 t528, .int .i64 t529, .int .i64 t530, .string t531] 35 (0, 0)) (kP BK533.out) hb); have n3_ := m_ (below_step (bN HB.out) hb); clear BK498; clear BK525; clear BK533; clear HB; have BK498 := n0_; have BK525 := n1_; have BK533 := n2_; have HB := n3_; clear n0_ n1_ n2_ n3_; (try clear hb); (try clear hb2); (try clear hk); (try clear hi)))
          go_ret
          exact ⟨by first | rfl | (simp [errW_none, errW_some] <;> rfl) | (simp [*, errW_none, errW_some] <;> rfl), by repeat (first | (with_reducible first | exact HB.out | apply below_alloc | apply pw_below_drewN | apply below_drew1 | refine below_set ?_ GE498.out | refine below_set ?_ GE525.out | refine below_set ?_ GE533.out) | exact HB.out)⟩
         ·replace c72 := Bool.eq_false_iff.mpr c72
          subst c72
          have H1 : (some true) = some r := by rw [if_neg (show ¬ (false = true) by decide)] at H; exact H
          clear H
          have H := H1
          clear H1
          obtain rfl := Option.some.inj H
          go_wp2_with (first | ((with_reducible refine gate_callee (f := 24) rfl ?_); refine goesL_ (some 56) rfl rfl Tryd.func24 (by kernel_rfl) rfl #[.slice A1 l1.length c1] rfl gl_ ?_; (with_reducible refine (spec_DrawRepGet.calls kj9 _ _ l1 t517 _ ?side1 ?side2 A67.out).mono ?_); (case side1 => exact cN (Kd.C_below HR1.out HB.out)); (case side2 => exact HC1.out); rintro e w86 ⟨rfl, hb⟩; refine ⟨_, rfl, ?_⟩; have n0_ := m_ (blk_below (kN BK498.out) hb); have n1_ := m_ (below_step (bN HB.out) hb); clear BK498; clear HB; have BK498 := n0_; have HB := n1_; clear n0_ n1_; (try clear hb); (try clear hb2); (try clear hk); (try clear hi)) | ((with_reducible refine gate_callee (f := 18) rfl ?_); refine goesL_ (some 59) rfl rfl Tryd.func18 (by kernel_rfl) rfl #[.string t517] rfl gl_ ?_; (with_reducible refine (impl_RepGet.calls kj9 t517 t518 t519 t520 t521 t522 t523 false _ A68.out).mono ?_); rintro e w87 ⟨rfl, hb⟩; refine ⟨_, rfl, ?_⟩; have n0_ := m_ (blk_below (kN BK498.out) hb); have n1_ := m_ (below_step (bN HB.out) hb); clear BK498; clear HB; have BK498 := n0_; have HB := n1_; clear n0_ n1_; (try clear hb); (try clear hb2); (try clear hk); (try clear hi)) | ((with_reducible refine gate_dst (N := 12) rfl ?_); (try (refine gate_guard (by rfl) ?_; dsimp only)); refine box_event ?hg (N := 12) ?hd (cs := #[.int .i64 0, .int .i64 0, .int .i64 0, .int .i64 0, .int .i64 0, .string (⟨#[]⟩ : ByteArray)]) (t := 35) ?hr ?_; (case hd => rfl); (case hg => rfl); (case hr => first | (go_simp; done) | (go_simp; rfl)); intro gb525 hg w88 hbox hb; have n0_ := m_ (blk_below (kN BK498.out) hb); have n1_ := m_ (below_step (bN HB.out) hb); have n2_ := m_ (hbox); have n3_ := m_ ((by rw [hg]; exact (below_size (bN HB.out)) : w.heap.size ≤ gb525)); have n4_ := m_ ((by rw [hg]; exact (below_size (bN HB.out)) : w.heap.size ≤ gb525)); have n5_ := m_ ((by rw [hg]; exact Nat.ne_of_lt (blk_lt (g := gb498) (o := .cells #[.int .i64 t492, .int .i64 t493, .int .i64 t494, .int .i64 t495, .int .i64 t496, .string t497] 35 (0, 0)) (kN BK498.out)) : gb498 ≠ gb525)); have n6_ := m_ ((by rw [hg]; exact Nat.ne_of_gt (blk_lt (g := gb498) (o := .cells #[.int .i64 t492, .int .i64 t493, .int .i64 t494, .int .i64 t495, .int .i64 t496, .string t497] 35 (0, 0)) (kN BK498.out)) : gb525 ≠ gb498)); clear BK498; clear HB; have BK498 := n0_; have HB := n1_; have BK525 := n2_; have GW525 := n3_; have GE525 := n4_; have NB498_525 := n5_; have NB525_498 := n6_; clear n0_ n1_ n2_ n3_ n4_ n5_ n6_; clear hb hbox hg; have hnb89 := NB525_498.out; have hnc89 := NB498_525.out; have hcz90_0 : w88.cell? ⟨gb525, 0, none⟩ = some (.int .i64 0) := (blk_cell BK525.out 0).trans rfl; have hcz90_1 : w88.cell? ⟨gb525, 1, none⟩ = some (.int .i64 0) := (blk_cell BK525.out 1).trans rfl; have hcz90_2 : w88.cell? ⟨gb525, 2, none⟩ = some (.int .i64 0) := (blk_cell BK525.out 2).trans rfl; have hcz90_3 : w88.cell? ⟨gb525, 3, none⟩ = some (.int .i64 0) := (blk_cell BK525.out 3).trans rfl; have hcz90_4 : w88.cell? ⟨gb525, 4, none⟩ = some (.int .i64 0) := (blk_cell BK525.out 4).trans rfl; have hcz90_5 : w88.cell? ⟨gb525, 5, none⟩ = some (.string (⟨#[]⟩ : ByteArray)) := (blk_cell BK525.out 5).trans rfl; have hfz90_0 := blk_frozen BK525.out 0; have hfz90_1 := blk_frozen BK525.out 1; have hfz90_2 := blk_frozen BK525.out 2; have hfz90_3 := blk_frozen BK525.out 3; have hfz90_4 := blk_frozen BK525.out 4; have hfz90_5 := blk_frozen BK525.out 5) | ((with_reducible refine gate_callee (f := 17) rfl ?_); refine goesL_ (some 64) rfl rfl Tryd.func17 (by kernel_rfl) rfl #[.string t517] rfl gl_ ?_; (with_reducible refine (spec_RepGet.calls kj9 t517 t526 t527 t528 t529 t530 t531 t532 _ A69.out).mono ?_); rintro e w91 ⟨rfl, hb⟩; refine ⟨_, rfl, ?_⟩; have n0_ := m_ (blk_below (g := gb498) (o := .cells #[.int .i64 t492, .int .i64 t493, .int .i64 t494, .int .i64 t495, .int .i64 t496, .string t497] 35 (0, 0)) (kF BK498.out NB498_525.out) hb); have n1_ := m_ (blk_below (g := gb525) (o := .cells #[.int .i64 t518, .int .i64 t519, .int .i64 t520, .int .i64 t521, .int .i64 t522, .string t523] 35 (0, 0)) (kP BK525.out) hb); have n2_ := m_ (below_step (bN HB.out) hb); clear BK498; clear BK525; clear HB; have BK498 := n0_; have BK525 := n1_; have HB := n2_; clear n0_ n1_ n2_; (try clear hb); (try clear hb2); (try clear hk); (try clear hi)) | ((with_reducible refine gate_dst (N := 14) rfl ?_); (try (refine gate_guard (by rfl) ?_; dsimp only)); refine box_event ?hg (N := 14) ?hd (cs := #[.int .i64 0, .int .i64 0, .int .i64 0, .int .i64 0, .int .i64 0, .string (⟨#[]⟩ : ByteArray)]) (t := 35) ?hr ?_; (case hd => rfl); (case hg => rfl); (case hr => first | (go_simp; done) | (go_simp; rfl)); intro gb533 hg w92 hbox hb; have n0_ := m_ (blk_below (kN BK498.out) hb); have n1_ := m_ (blk_below (kN BK525.out) hb); have n2_ := m_ (below_step (bN HB.out) hb); have n3_ := m_ (hbox); have n4_ := m_ ((by rw [hg]; exact (below_size (bN HB.out)) : w.heap.size ≤ gb533)); have n5_ := m_ ((by rw [hg]; exact (below_size (bN HB.out)) : w.heap.size ≤ gb533)); have n6_ := m_ ((by rw [hg]; exact Nat.ne_of_lt (blk_lt (g := gb498) (o := .cells #[.int .i64 t492, .int .i64 t493, .int .i64 t494, .int .i64 t495, .int .i64 t496, .string t497] 35 (0, 0)) (kN BK498.out)) : gb498 ≠ gb533)); have n7_ := m_ ((by rw [hg]; exact Nat.ne_of_gt (blk_lt (g := gb498) (o := .cells #[.int .i64 t492, .int .i64 t493, .int .i64 t494, .int .i64 t495, .int .i64 t496, .string t497] 35 (0, 0)) (kN BK498.out)) : gb533 ≠ gb498)); have n8_ := m_ ((by rw [hg]; exact Nat.ne_of_lt (blk_lt (g := gb525) (o := .cells #[.int .i64 t518, .int .i64 t519, .int .i64 t520, .int .i64 t521, .int .i64 t522, .string t523] 35 (0, 0)) (kN BK525.out)) : gb525 ≠ gb533)); have n9_ := m_ ((by rw [hg]; exact Nat.ne_of_gt (blk_lt (g := gb525) (o := .cells #[.int .i64 t518, .int .i64 t519, .int .i64 t520, .int .i64 t521, .int .i64 t522, .string t523] 35 (0, 0)) (kN BK525.out)) : gb533 ≠ gb525)); clear BK498; clear BK525; clear HB; have BK498 := n0_; have BK525 := n1_; have HB := n2_; have BK533 := n3_; have GW533 := n4_; have GE533 := n5_; have NB498_533 := n6_; have NB533_498 := n7_; have NB525_533 := n8_; have NB533_525 := n9_; clear n0_ n1_ n2_ n3_ n4_ n5_ n6_ n7_ n8_ n9_; clear hb hbox hg; have hnb93 := NB533_498.out; have hnc93 := NB498_533.out; have hnb94 := NB533_525.out; have hnc94 := NB525_533.out; have hcz95_0 : w92.cell? ⟨gb533, 0, none⟩ = some (.int .i64 0) := (blk_cell BK533.out 0).trans rfl; have hcz95_1 : w92.cell? ⟨gb533, 1, none⟩ = some (.int .i64 0) := (blk_cell BK533.out 1).trans rfl; have hcz95_2 : w92.cell? ⟨gb533, 2, none⟩ = some (.int .i64 0) := (blk_cell BK533.out 2).trans rfl; have hcz95_3 : w92.cell? ⟨gb533, 3, none⟩ = some (.int .i64 0) := (blk_cell BK533.out 3).trans rfl; have hcz95_4 : w92.cell? ⟨gb533, 4, none⟩ = some (.int .i64 0) := (blk_cell BK533.out 4).trans rfl; have hcz95_5 : w92.cell? ⟨gb533, 5, none⟩ = some (.string (⟨#[]⟩ : ByteArray)) := (blk_cell BK533.out 5).trans rfl; have hfz95_0 := blk_frozen BK533.out 0; have hfz95_1 := blk_frozen BK533.out 1; have hfz95_2 := blk_frozen BK533.out 2; have hfz95_3 := blk_frozen BK533.out 3; have hfz95_4 := blk_frozen BK533.out 4; have hfz95_5 := blk_frozen BK533.out 5; have hcz96_0 : w92.cell? ⟨gb525, 0, none⟩ = some (.int .i64 t518) := (blk_cell BK525.out 0).trans rfl; have hcz96_1 : w92.cell? ⟨gb525, 1, none⟩ = some (.int .i64 t519) := (blk_cell BK525.out 1).trans rfl; have hcz96_2 : w92.cell? ⟨gb525, 2, none⟩ = some (.int .i64 t520) := (blk_cell BK525.out 2).trans rfl; have hcz96_3 : w92.cell? ⟨gb525, 3, none⟩ = some (.int .i64 t521) := (blk_cell BK525.out 3).trans rfl; have hcz96_4 : w92.cell? ⟨gb525, 4, none⟩ = some (.int .i64 t522) := (blk_cell BK525.out 4).trans rfl; have hcz96_5 : w92.cell? ⟨gb525, 5, none⟩ = some (.string t523) := (blk_cell BK525.out 5).trans rfl; have hfz96_0 := blk_frozen BK525.out 0; have hfz96_1 := blk_frozen BK525.out 1; have hfz96_2 := blk_frozen BK525.out 2; have hfz96_3 := blk_frozen BK525.out 3; have hfz96_4 := blk_frozen BK525.out 4; have hfz96_5 := blk_frozen BK525.out 5))
          go_ret
          exact ⟨by first | rfl | (simp [errW_none, errW_some] <;> rfl) | (simp [*, errW_none, errW_some] <;> rfl), by repeat (first | (with_reducible first | exact HB.out | apply below_alloc | apply pw_below_drewN | apply below_drew1 | refine below_set ?_ GE498.out | refine below_set ?_ GE525.out | refine below_set ?_ GE533.out) | exact HB.out)⟩
        ·rw [if_neg c71] at H
         have c71b0 : (t524 == t532) = false := by simpa using c71
         (try (have c71b1 : decide (t524 = t532) = false := by simpa using c71))
         (try (have c71b2 : (t524 == t532) = false := by simpa using c71))
         (try (have c71b3 : ¬ (t524 = t532) := by simpa using c71))
         clear c71
         obtain rfl := Option.some.inj H
         go_wp2_with (first | ((with_reducible refine gate_callee (f := 24) rfl ?_); refine goesL_ (some 56) rfl rfl Tryd.func24 (by kernel_rfl) rfl #[.slice A1 l1.length c1] rfl gl_ ?_; (with_reducible refine (spec_DrawRepGet.calls kj9 _ _ l1 t517 _ ?side1 ?side2 A67.out).mono ?_); (case side1 => exact cN (Kd.C_below HR1.out HB.out)); (case side2 => exact HC1.out); rintro e w97 ⟨rfl, hb⟩; refine ⟨_, rfl, ?_⟩; have n0_ := m_ (blk_below (kN BK498.out) hb); have n1_ := m_ (below_step (bN HB.out) hb); clear BK498; clear HB; have BK498 := n0_; have HB := n1_; clear n0_ n1_; (try clear hb); (try clear hb2); (try clear hk); (try clear hi)) | ((with_reducible refine gate_callee (f := 18) rfl ?_); refine goesL_ (some 59) rfl rfl Tryd.func18 (by kernel_rfl) rfl #[.string t517] rfl gl_ ?_; (with_reducible refine (impl_RepGet.calls kj9 t517 t518 t519 t520 t521 t522 t523 t524 _ A68.out).mono ?_); rintro e w98 ⟨rfl, hb⟩; refine ⟨_, rfl, ?_⟩; have n0_ := m_ (blk_below (kN BK498.out) hb); have n1_ := m_ (below_step (bN HB.out) hb); clear BK498; clear HB; have BK498 := n0_; have HB := n1_; clear n0_ n1_; (try clear hb); (try clear hb2); (try clear hk); (try clear hi)) | ((with_reducible refine gate_dst (N := 12) rfl ?_); (try (refine gate_guard (by rfl) ?_; dsimp only)); refine box_event ?hg (N := 12) ?hd (cs := #[.int .i64 0, .int .i64 0, .int .i64 0, .int .i64 0, .int .i64 0, .string (⟨#[]⟩ : ByteArray)]) (t := 35) ?hr ?_; (case hd => rfl); (case hg => rfl); (case hr => first | (go_simp; done) | (go_simp; rfl)); intro gb525 hg w99 hbox hb; have n0_ := m_ (blk_below (kN BK498.out) hb); have n1_ := m_ (below_step (bN HB.out) hb); have n2_ := m_ (hbox); have n3_ := m_ ((by rw [hg]; exact (below_size (bN HB.out)) : w.heap.size ≤ gb525)); have n4_ := m_ ((by rw [hg]; exact (below_size (bN HB.out)) : w.heap.size ≤ gb525)); have n5_ := m_ ((by rw [hg]; exact Nat.ne_of_lt (blk_lt (g := gb498) (o := .cells #[.int .i64 t492, .int .i64 t493, .int .i64 t494, .int .i64 t495, .int .i64 t496, .string t497] 35 (0, 0)) (kN BK498.out)) : gb498 ≠ gb525)); have n6_ := m_ ((by rw [hg]; exact Nat.ne_of_gt (blk_lt (g := gb498) (o := .cells #[.int .i64 t492, .int .i64 t493, .int .i64 t494, .int .i64 t495, .int .i64 t496, .string t497] 35 (0, 0)) (kN BK498.out)) : gb525 ≠ gb498)); clear BK498; clear HB; have BK498 := n0_; have HB := n1_; have BK525 := n2_; have GW525 := n3_; have GE525 := n4_; have NB498_525 := n5_; have NB525_498 := n6_; clear n0_ n1_ n2_ n3_ n4_ n5_ n6_; clear hb hbox hg; have hnb100 := NB525_498.out; have hnc100 := NB498_525.out; have hcz101_0 : w99.cell? ⟨gb525, 0, none⟩ = some (.int .i64 0) := (blk_cell BK525.out 0).trans rfl; have hcz101_1 : w99.cell? ⟨gb525, 1, none⟩ = some (.int .i64 0) := (blk_cell BK525.out 1).trans rfl; have hcz101_2 : w99.cell? ⟨gb525, 2, none⟩ = some (.int .i64 0) := (blk_cell BK525.out 2).trans rfl; have hcz101_3 : w99.cell? ⟨gb525, 3, none⟩ = some (.int .i64 0) := (blk_cell BK525.out 3).trans rfl; have hcz101_4 : w99.cell? ⟨gb525, 4, none⟩ = some (.int .i64 0) := (blk_cell BK525.out 4).trans rfl; have hcz101_5 : w99.cell? ⟨gb525, 5, none⟩ = some (.string (⟨#[]⟩ : ByteArray)) := (blk_cell BK525.out 5).trans rfl; have hfz101_0 := blk_frozen BK525.out 0; have hfz101_1 := blk_frozen BK525.out 1; have hfz101_2 := blk_frozen BK525.out 2; have hfz101_3 := blk_frozen BK525.out 3; have hfz101_4 := blk_frozen BK525.out 4; have hfz101_5 := blk_frozen BK525.out 5) | ((with_reducible refine gate_callee (f := 17) rfl ?_); refine goesL_ (some 64) rfl rfl Tryd.func17 (by kernel_rfl) rfl #[.string t517] rfl gl_ ?_; (with_reducible refine (spec_RepGet.calls kj9 t517 t526 t527 t528 t529 t530 t531 t532 _ A69.out).mono ?_); rintro e w102 ⟨rfl, hb⟩; refine ⟨_, rfl, ?_⟩; have n0_ := m_ (blk_below (g := gb498) (o := .cells #[.int .i64 t492, .int .i64 t493, .int .i64 t494, .int .i64 t495, .int .i64 t496, .string t497] 35 (0, 0)) (kF BK498.out NB498_525.out) hb); have n1_ := m_ (blk_below (g := gb525) (o := .cells #[.int .i64 t518, .int .i64 t519, .int .i64 t520, .int .i64 t521, .int .i64 t522, .string t523] 35 (0, 0)) (kP BK525.out) hb); have n2_ := m_ (below_step (bN HB.out) hb); clear BK498; clear BK525; clear HB; have BK498 := n0_; have BK525 := n1_; have HB := n2_; clear n0_ n1_ n2_; (try clear hb); (try clear hb2); (try clear hk); (try clear hi)) | ((with_reducible refine gate_dst (N := 14) rfl ?_); (try (refine gate_guard (by rfl) ?_; dsimp only)); refine box_event ?hg (N := 14) ?hd (cs := #[.int .i64 0, .int .i64 0, .int .i64 0, .int .i64 0, .int .i64 0, .string (⟨#[]⟩ : ByteArray)]) (t := 35) ?hr ?_; (case hd => rfl); (case hg => rfl); (case hr => first | (go_simp; done) | (go_simp; rfl)); intro gb533 hg w103 hbox hb; have n0_ := m_ (blk_below (kN BK498.out) hb); have n1_ := m_ (blk_below (kN BK525.out) hb); have n2_ := m_ (below_step (bN HB.out) hb); have n3_ := m_ (hbox); have n4_ := m_ ((by rw [hg]; exact (below_size (bN HB.out)) : w.heap.size ≤ gb533)); have n5_ := m_ ((by rw [hg]; exact (below_size (bN HB.out)) : w.heap.size ≤ gb533)); have n6_ := m_ ((by rw [hg]; exact Nat.ne_of_lt (blk_lt (g := gb498) (o := .cells #[.int .i64 t492, .int .i64 t493, .int .i64 t494, .int .i64 t495, .int .i64 t496, .string t497] 35 (0, 0)) (kN BK498.out)) : gb498 ≠ gb533)); have n7_ := m_ ((by rw [hg]; exact Nat.ne_of_gt (blk_lt (g := gb498) (o := .cells #[.int .i64 t492, .int .i64 t493, .int .i64 t494, .int .i64 t495, .int .i64 t496, .string t497] 35 (0, 0)) (kN BK498.out)) : gb533 ≠ gb498)); have n8_ := m_ ((by rw [hg]; exact Nat.ne_of_lt (blk_lt (g := gb525) (o := .cells #[.int .i64 t518, .int .i64 t519, .int .i64 t520, .int .i64 t521, .int .i64 t522, .string t523] 35 (0, 0)) (kN BK525.out)) : gb525 ≠ gb533)); have n9_ := m_ ((by rw [hg]; exact Nat.ne_of_gt (blk_lt (g := gb525) (o := .cells #[.int .i64 t518, .int .i64 t519, .int .i64 t520, .int .i64 t521, .int .i64 t522, .string t523] 35 (0, 0)) (kN BK525.out)) : gb533 ≠ gb525)); clear BK498; clear BK525; clear HB; have BK498 := n0_; have BK525 := n1_; have HB := n2_; have BK533 := n3_; have GW533 := n4_; have GE533 := n5_; have NB498_533 := n6_; have NB533_498 := n7_; have NB525_533 := n8_; have NB533_525 := n9_; clear n0_ n1_ n2_ n3_ n4_ n5_ n6_ n7_ n8_ n9_; clear hb hbox hg; have hnb104 := NB533_498.out; have hnc104 := NB498_533.out; have hnb105 := NB533_525.out; have hnc105 := NB525_533.out; have hcz106_0 : w103.cell? ⟨gb533, 0, none⟩ = some (.int .i64 0) := (blk_cell BK533.out 0).trans rfl; have hcz106_1 : w103.cell? ⟨gb533, 1, none⟩ = some (.int .i64 0) := (blk_cell BK533.out 1).trans rfl; have hcz106_2 : w103.cell? ⟨gb533, 2, none⟩ = some (.int .i64 0) := (blk_cell BK533.out 2).trans rfl; have hcz106_3 : w103.cell? ⟨gb533, 3, none⟩ = some (.int .i64 0) := (blk_cell BK533.out 3).trans rfl; have hcz106_4 : w103.cell? ⟨gb533, 4, none⟩ = some (.int .i64 0) := (blk_cell BK533.out 4).trans rfl; have hcz106_5 : w103.cell? ⟨gb533, 5, none⟩ = some (.string (⟨#[]⟩ : ByteArray)) := (blk_cell BK533.out 5).trans rfl; have hfz106_0 := blk_frozen BK533.out 0; have hfz106_1 := blk_frozen BK533.out 1; have hfz106_2 := blk_frozen BK533.out 2; have hfz106_3 := blk_frozen BK533.out 3; have hfz106_4 := blk_frozen BK533.out 4; have hfz106_5 := blk_frozen BK533.out 5; have hcz107_0 : w103.cell? ⟨gb525, 0, none⟩ = some (.int .i64 t518) := (blk_cell BK525.out 0).trans rfl; have hcz107_1 : w103.cell? ⟨gb525, 1, none⟩ = some (.int .i64 t519) := (blk_cell BK525.out 1).trans rfl; have hcz107_2 : w103.cell? ⟨gb525, 2, none⟩ = some (.int .i64 t520) := (blk_cell BK525.out 2).trans rfl; have hcz107_3 : w103.cell? ⟨gb525, 3, none⟩ = some (.int .i64 t521) := (blk_cell BK525.out 3).trans rfl; have hcz107_4 : w103.cell? ⟨gb525, 4, none⟩ = some (.int .i64 t522) := (blk_cell BK525.out 4).trans rfl; have hcz107_5 : w103.cell? ⟨gb525, 5, none⟩ = some (.string t523) := (blk_cell BK525.out 5).trans rfl; have hfz107_0 := blk_frozen BK525.out 0; have hfz107_1 := blk_frozen BK525.out 1; have hfz107_2 := blk_frozen BK525.out 2; have hfz107_3 := blk_frozen BK525.out 3; have hfz107_4 := blk_frozen BK525.out 4; have hfz107_5 := blk_frozen BK525.out 5))
         go_ret
         exact ⟨by first | rfl | (simp [errW_none, errW_some] <;> rfl) | (simp [*, errW_none, errW_some] <;> rfl), by repeat (first | (with_reducible first | exact HB.out | apply below_alloc | apply pw_below_drewN | apply below_drew1 | refine below_set ?_ GE498.out | refine below_set ?_ GE525.out | refine below_set ?_ GE533.out) | exact HB.out)⟩
       ·rw [if_neg c70] at H
        have c70b0 : (t518 == t526 && (t519 == t527 && (t520 == t528 && (t521 == t529 && (t522 == t530 && (t523.toList == t531.toList)))))) = false := by simpa using c70
        (try (have c70b1 : decide (t518 = t526 && (t519 == t527 && (t520 == t528 && (t521 == t529 && (t522 == t530 && (t523.toList == t531.toList)))))) = false := by simpa using c70))
        (try (have c70b2 : (t518 == t526 && (t519 == t527 && (t520 == t528 && (t521 == t529 && (t522 == t530 && (t523.toList == t531.toList)))))) = false := by simpa using c70))
        (try (have c70b3 : ¬ (t518 = t526 && (t519 == t527 && (t520 == t528 && (t521 == t529 && (t522 == t530 && (t523.toList == t531.toList)))))) := by simpa using c70))
        clear c70
        obtain rfl := Option.some.inj H
        go_wp2_with (first | ((with_reducible refine gate_callee (f := 24) rfl ?_); refine goesL_ (some 56) rfl rfl Tryd.func24 (by kernel_rfl) rfl #[.slice A1 l1.length c1] rfl gl_ ?_; (with_reducible refine (spec_DrawRepGet.calls kj9 _ _ l1 t517 _ ?side1 ?side2 A67.out).mono ?_); (case side1 => exact cN (Kd.C_below HR1.out HB.out)); (case side2 => exact HC1.out); rintro e w108 ⟨rfl, hb⟩; refine ⟨_, rfl, ?_⟩; have n0_ := m_ (blk_below (kN BK498.out) hb); have n1_ := m_ (below_step (bN HB.out) hb); clear BK498; clear HB; have BK498 := n0_; have HB := n1_; clear n0_ n1_; (try clear hb); (try clear hb2); (try clear hk); (try clear hi)) | ((with_reducible refine gate_callee (f := 18) rfl ?_); refine goesL_ (some 59) rfl rfl Tryd.func18 (by kernel_rfl) rfl #[.string t517] rfl gl_ ?_; (with_reducible refine (impl_RepGet.calls kj9 t517 t518 t519 t520 t521 t522 t523 t524 _ A68.out).mono ?_); rintro e w109 ⟨rfl, hb⟩; refine ⟨_, rfl, ?_⟩; have n0_ := m_ (blk_below (kN BK498.out) hb); have n1_ := m_ (below_step (bN HB.out) hb); clear BK498; clear HB; have BK498 := n0_; have HB := n1_; clear n0_ n1_; (try clear hb); (try clear hb2); (try clear hk); (try clear hi)) | ((with_reducible refine gate_dst (N := 12) rfl ?_); (try (refine gate_guard (by rfl) ?_; dsimp only)); refine box_event ?hg (N := 12) ?hd (cs := #[.int .i64 0, .int .i64 0, .int .i64 0, .int .i64 0, .int .i64 0, .string (⟨#[]⟩ : ByteArray)]) (t := 35) ?hr ?_; (case hd => rfl); (case hg => rfl); (case hr => first | (go_simp; done) | (go_simp; rfl)); intro gb525 hg w110 hbox hb; have n0_ := m_ (blk_below (kN BK498.out) hb); have n1_ := m_ (below_step (bN HB.out) hb); have n2_ := m_ (hbox); have n3_ := m_ ((by rw [hg]; exact (below_size (bN HB.out)) : w.heap.size ≤ gb525)); have n4_ := m_ ((by rw [hg]; exact (below_size (bN HB.out)) : w.heap.size ≤ gb525)); have n5_ := m_ ((by rw [hg]; exact Nat.ne_of_lt (blk_lt (g := gb498) (o := .cells #[.int .i64 t492, .int .i64 t493, .int .i64 t494, .int .i64 t495, .int .i64 t496, .string t497] 35 (0, 0)) (kN BK498.out)) : gb498 ≠ gb525)); have n6_ := m_ ((by rw [hg]; exact Nat.ne_of_gt (blk_lt (g := gb498) (o := .cells #[.int .i64 t492, .int .i64 t493, .int .i64 t494, .int .i64 t495, .int .i64 t496, .string t497] 35 (0, 0)) (kN BK498.out)) : gb525 ≠ gb498)); clear BK498; clear HB; have BK498 := n0_; have HB := n1_; have BK525 := n2_; have GW525 := n3_; have GE525 := n4_; have NB498_525 := n5_; have NB525_498 := n6_; clear n0_ n1_ n2_ n3_ n4_ n5_ n6_; clear hb hbox hg; have hnb111 := NB525_498.out; have hnc111 := NB498_525.out; have hcz112_0 : w110.cell? ⟨gb525, 0, none⟩ = some (.int .i64 0) := (blk_cell BK525.out 0).trans rfl; have hcz112_1 : w110.cell? ⟨gb525, 1, none⟩ = some (.int .i64 0) := (blk_cell BK525.out 1).trans rfl; have hcz112_2 : w110.cell? ⟨gb525, 2, none⟩ = some (.int .i64 0) := (blk_cell BK525.out 2).trans rfl; have hcz112_3 : w110.cell? ⟨gb525, 3, none⟩ = some (.int .i64 0) := (blk_cell BK525.out 3).trans rfl; have hcz112_4 : w110.cell? ⟨gb525, 4, none⟩ = some (.int .i64 0) := (blk_cell BK525.out 4).trans rfl; have hcz112_5 : w110.cell? ⟨gb525, 5, none⟩ = some (.string (⟨#[]⟩ : ByteArray)) := (blk_cell BK525.out 5).trans rfl; have hfz112_0 := blk_frozen BK525.out 0; have hfz112_1 := blk_frozen BK525.out 1; have hfz112_2 := blk_frozen BK525.out 2; have hfz112_3 := blk_frozen BK525.out 3; have hfz112_4 := blk_frozen BK525.out 4; have hfz112_5 := blk_frozen BK525.out 5) | ((with_reducible refine gate_callee (f := 17) rfl ?_); refine goesL_ (some 64) rfl rfl Tryd.func17 (by kernel_rfl) rfl #[.string t517] rfl gl_ ?_; (with_reducible refine (spec_RepGet.calls kj9 t517 t526 t527 t528 t529 t530 t531 t532 _ A69.out).mono ?_); rintro e w113 ⟨rfl, hb⟩; refine ⟨_, rfl, ?_⟩; have n0_ := m_ (blk_below (g := gb498) (o := .cells #[.int .i64 t492, .int .i64 t493, .int .i64 t494, .int .i64 t495, .int .i64 t496, .string t497] 35 (0, 0)) (kF BK498.out NB498_525.out) hb); have n1_ := m_ (blk_below (g := gb525) (o := .cells #[.int .i64 t518, .int .i64 t519, .int .i64 t520, .int .i64 t521, .int .i64 t522, .string t523] 35 (0, 0)) (kP BK525.out) hb); have n2_ := m_ (below_step (bN HB.out) hb); clear BK498; clear BK525; clear HB; have BK498 := n0_; have BK525 := n1_; have HB := n2_; clear n0_ n1_ n2_; (try clear hb); (try clear hb2); (try clear hk); (try clear hi)) | ((with_reducible refine gate_dst (N := 14) rfl ?_); (try (refine gate_guard (by rfl) ?_; dsimp only)); refine box_event ?hg (N := 14) ?hd (cs := #[.int .i64 0, .int .i64 0, .int .i64 0, .int .i64 0, .int .i64 0, .string (⟨#[]⟩ : ByteArray)]) (t := 35) ?hr ?_; (case hd => rfl); (case hg => rfl); (case hr => first | (go_simp; done) | (go_simp; rfl)); intro gb533 hg w114 hbox hb; have n0_ := m_ (blk_below (kN BK498.out) hb); have n1_ := m_ (blk_below (kN BK525.out) hb); have n2_ := m_ (below_step (bN HB.out) hb); have n3_ := m_ (hbox); have n4_ := m_ ((by rw [hg]; exact (below_size (bN HB.out)) : w.heap.size ≤ gb533)); have n5_ := m_ ((by rw [hg]; exact (below_size (bN HB.out)) : w.heap.size ≤ gb533)); have n6_ := m_ ((by rw [hg]; exact Nat.ne_of_lt (blk_lt (g := gb498) (o := .cells #[.int .i64 t492, .int .i64 t493, .int .i64 t494, .int .i64 t495, .int .i64 t496, .string t497] 35 (0, 0)) (kN BK498.out)) : gb498 ≠ gb533)); have n7_ := m_ ((by rw [hg]; exact Nat.ne_of_gt (blk_lt (g := gb498) (o := .cells #[.int .i64 t492, .int .i64 t493, .int .i64 t494, .int .i64 t495, .int .i64 t496, .string t497] 35 (0, 0)) (kN BK498.out)) : gb533 ≠ gb498)); have n8_ := m_ ((by rw [hg]; exact Nat.ne_of_lt (blk_lt (g := gb525) (o := .cells #[.int .i64 t518, .int .i64 t519, .int .i64 t520, .int .i64 t521, .int .i64 t522, .string t523] 35 (0, 0)) (kN BK525.out)) : gb525 ≠ gb533)); have n9_ := m_ ((by rw [hg]; exact Nat.ne_of_gt (blk_lt (g := gb525) (o := .cells #[.int .i64 t518, .int .i64 t519, .int .i64 t520, .int .i64 t521, .int .i64 t522, .string t523] 35 (0, 0)) (kN BK525.out)) : gb533 ≠ gb525)); clear BK498; clear BK525; clear HB; have BK498 := n0_; have BK525 := n1_; have HB := n2_; have BK533 := n3_; have GW533 := n4_; have GE533 := n5_; have NB498_533 := n6_; have NB533_498 := n7_; have NB525_533 := n8_; have NB533_525 := n9_; clear n0_ n1_ n2_ n3_ n4_ n5_ n6_ n7_ n8_ n9_; clear hb hbox hg; have hnb115 := NB533_498.out; have hnc115 := NB498_533.out; have hnb116 := NB533_525.out; have hnc116 := NB525_533.out; have hcz117_0 : w114.cell? ⟨gb533, 0, none⟩ = some (.int .i64 0) := (blk_cell BK533.out 0).trans rfl; have hcz117_1 : w114.cell? ⟨gb533, 1, none⟩ = some (.int .i64 0) := (blk_cell BK533.out 1).trans rfl; have hcz117_2 : w114.cell? ⟨gb533, 2, none⟩ = some (.int .i64 0) := (blk_cell BK533.out 2).trans rfl; have hcz117_3 : w114.cell? ⟨gb533, 3, none⟩ = some (.int .i64 0) := (blk_cell BK533.out 3).trans rfl; have hcz117_4 : w114.cell? ⟨gb533, 4, none⟩ = some (.int .i64 0) := (blk_cell BK533.out 4).trans rfl; have hcz117_5 : w114.cell? ⟨gb533, 5, none⟩ = some (.string (⟨#[]⟩ : ByteArray)) := (blk_cell BK533.out 5).trans rfl; have hfz117_0 := blk_frozen BK533.out 0; have hfz117_1 := blk_frozen BK533.out 1; have hfz117_2 := blk_frozen BK533.out 2; have hfz117_3 := blk_frozen BK533.out 3; have hfz117_4 := blk_frozen BK533.out 4; have hfz117_5 := blk_frozen BK533.out 5; have hcz118_0 : w114.cell? ⟨gb525, 0, none⟩ = some (.int .i64 t518) := (blk_cell BK525.out 0).trans rfl; have hcz118_1 : w114.cell? ⟨gb525, 1, none⟩ = some (.int .i64 t519) := (blk_cell BK525.out 1).trans rfl; have hcz118_2 : w114.cell? ⟨gb525, 2, none⟩ = some (.int .i64 t520) := (blk_cell BK525.out 2).trans rfl; have hcz118_3 : w114.cell? ⟨gb525, 3, none⟩ = some (.int .i64 t521) := (blk_cell BK525.out 3).trans rfl; have hcz118_4 : w114.cell? ⟨gb525, 4, none⟩ = some (.int .i64 t522) := (blk_cell BK525.out 4).trans rfl; have hcz118_5 : w114.cell? ⟨gb525, 5, none⟩ = some (.string t523) := (blk_cell BK525.out 5).trans rfl; have hfz118_0 := blk_frozen BK525.out 0; have hfz118_1 := blk_frozen BK525.out 1; have hfz118_2 := blk_frozen BK525.out 2; have hfz118_3 := blk_frozen BK525.out 3; have hfz118_4 := blk_frozen BK525.out 4; have hfz118_5 := blk_frozen BK525.out 5))
        go_ret
        exact ⟨by first | rfl | (simp [errW_none, errW_some] <;> rfl) | (simp [*, errW_none, errW_some] <;> rfl), by repeat (first | (with_reducible first | exact HB.out | apply below_alloc | apply pw_below_drewN | apply below_drew1 | refine below_set ?_ GE498.out | refine below_set ?_ GE525.out | refine below_set ?_ GE533.out) | exact HB.out)⟩
    ·rw [if_neg c9] at H
     have c9b0 : (t499.toList == t500.toList) = false := beq_eq_false_iff_ne.mpr c9
     have c9b1 : (t499.toList != t500.toList) = true := bne_iff_ne.mpr c9
     obtain rfl := Option.some.inj H
     go_wp2_with (first | ((with_reducible refine gate_callee (f := 20) rfl ?_); refine goesL_ (some 25) rfl rfl Tryd.func20 (by kernel_rfl) rfl #[.slice A0 l0.length c0] rfl gl_ ?_; (with_reducible refine (spec_DrawRepPut.calls kj2 _ _ l0 t492 t493 t494 t495 t496 t497 _ ?side1 ?side2 A6.out).mono ?_); (case side1 => exact cN (Kd.C_below HR0.out HB.out)); (case side2 => exact HC0.out); rintro e w119 ⟨rfl, hb⟩; refine ⟨_, rfl, ?_⟩; have n0_ := m_ (below_step (bN HB.out) hb); clear HB; have HB := n0_; clear n0_; (try clear hb); (try clear hb2); (try clear hk); (try clear hi)) | ((with_reducible refine gate_dst (N := 5) rfl ?_); (try (refine gate_guard (by rfl) ?_; dsimp only)); refine box_event ?hg (N := 5) ?hd (cs := #[.int .i64 0, .int .i64 0, .int .i64 0, .int .i64 0, .int .i64 0, .string (⟨#[]⟩ : ByteArray)]) (t := 35) ?hr ?_; (case hd => rfl); (case hg => rfl); (case hr => first | (go_simp; done) | (go_simp; rfl)); intro gb498 hg w120 hbox hb; have n0_ := m_ (below_step (bN HB.out) hb); have n1_ := m_ (hbox); have n2_ := m_ ((by rw [hg]; exact (below_size (bN HB.out)) : w.heap.size ≤ gb498)); have n3_ := m_ ((by rw [hg]; exact (below_size (bN HB.out)) : w.heap.size ≤ gb498)); clear HB; have HB := n0_; have BK498 := n1_; have GW498 := n2_; have GE498 := n3_; clear n0_ n1_ n2_ n3_; clear hb hbox hg; have hcz121_0 : w120.cell? ⟨gb498, 0, none⟩ = some (.int .i64 0) := (blk_cell BK498.out 0).trans rfl; have hcz121_1 : w120.cell? ⟨gb498, 1, none⟩ = some (.int .i64 0) := (blk_cell BK498.out 1).trans rfl; have hcz121_2 : w120.cell? ⟨gb498, 2, none⟩ = some (.int .i64 0) := (blk_cell BK498.out 2).trans rfl; have hcz121_3 : w120.cell? ⟨gb498, 3, none⟩ = some (.int .i64 0) := (blk_cell BK498.out 3).trans rfl; have hcz121_4 : w120.cell? ⟨gb498, 4, none⟩ = some (.int .i64 0) := (blk_cell BK498.out 4).trans rfl; have hcz121_5 : w120.cell? ⟨gb498, 5, none⟩ = some (.string (⟨#[]⟩ : ByteArray)) := (blk_cell BK498.out 5).trans rfl; have hfz121_0 := blk_frozen BK498.out 0; have hfz121_1 := blk_frozen BK498.out 1; have hfz121_2 := blk_frozen BK498.out 2; have hfz121_3 := blk_frozen BK498.out 3; have hfz121_4 := blk_frozen BK498.out 4; have hfz121_5 := blk_frozen BK498.out 5) | ((with_reducible refine gate_callee (f := 21) rfl ?_); refine goesL_ (some 27) rfl rfl Tryd.func21 (by kernel_rfl) rfl #[.agg #[.int .i64 t492, .int .i64 t493, .int .i64 t494, .int .i64 t495, .int .i64 t496, .string t497]] rfl gl_ ?_; (with_reducible refine (impl_RepPut.calls kj2 t492 t493 t494 t495 t496 t497 t499 _ A7.out).mono ?_); rintro e w122 ⟨rfl, hb⟩; refine ⟨_, rfl, ?_⟩; have n0_ := m_ (blk_below (g := gb498) (o := .cells #[.int .i64 t492, .int .i64 t493, .int .i64 t494, .int .i64 t495, .int .i64 t496, .string t497] 35 (0, 0)) (kP BK498.out) hb); have n1_ := m_ (below_step (bN HB.out) hb); clear BK498; clear HB; have BK498 := n0_; have HB := n1_; clear n0_ n1_; (try clear hb); (try clear hb2); (try clear hk); (try clear hi); have hcz123_0 : w122.cell? ⟨gb498, 0, none⟩ = some (.int .i64 t492) := (blk_cell BK498.out 0).trans rfl; have hcz123_1 : w122.cell? ⟨gb498, 1, none⟩ = some (.int .i64 t493) := (blk_cell BK498.out 1).trans rfl; have hcz123_2 : w122.cell? ⟨gb498, 2, none⟩ = some (.int .i64 t494) := (blk_cell BK498.out 2).trans rfl; have hcz123_3 : w122.cell? ⟨gb498, 3, none⟩ = some (.int .i64 t495) := (blk_cell BK498.out 3).trans rfl; have hcz123_4 : w122.cell? ⟨gb498, 4, none⟩ = some (.int .i64 t496) := (blk_cell BK498.out 4).trans rfl; have hcz123_5 : w122.cell? ⟨gb498, 5, none⟩ = some (.string t497) := (blk_cell BK498.out 5).trans rfl; have hfz123_0 := blk_frozen BK498.out 0; have hfz123_1 := blk_frozen BK498.out 1; have hfz123_2 := blk_frozen BK498.out 2; have hfz123_3 := blk_frozen BK498.out 3; have hfz123_4 := blk_frozen BK498.out 4; have hfz123_5 := blk_frozen BK498.out 5) | ((with_reducible refine gate_callee (f := 22) rfl ?_); refine goesL_ (some 30) rfl rfl Tryd.func22 (by kernel_rfl) rfl #[.agg #[.int .i64 t492, .int .i64 t493, .int .i64 t494, .int .i64 t495, .int .i64 t496, .string t497]] rfl gl_ ?_; (with_reducible refine (spec_RepPut.calls kj2 t492 t493 t494 t495 t496 t497 t500 _ A8.out).mono ?_); rintro e w124 ⟨rfl, hb⟩; refine ⟨_, rfl, ?_⟩; have n0_ := m_ (blk_below (kN BK498.out) hb); have n1_ := m_ (below_step (bN HB.out) hb); clear BK498; clear HB; have BK498 := n0_; have HB := n1_; clear n0_ n1_; (try clear hb); (try clear hb2); (try clear hk); (try clear hi)))
     go_ret
     exact ⟨by first | rfl | (simp [errW_none, errW_some] <;> rfl) | (simp [*, errW_none, errW_some] <;> rfl), by repeat (first | (with_reducible first | exact HB.out | apply below_alloc | apply pw_below_drewN | apply below_drew1 | refine below_set ?_ GE498.out) | exact HB.out)⟩

/-- THE ONE PURE STATEMENT of laws_FnRepBack: yours. -/
def laws_FnRepBack.Pure : Prop := ∀ (l0 : List Int) (l1 : List Int), l0.length ≤ maxLen → l0.length * 1 ≤ 140737488351232 → (∀ x ∈ l0, (Lit.int .u8 x).wf = true) → l1.length ≤ maxLen → l1.length * 1 ≤ 140737488351232 → (∀ x ∈ l1, (Lit.int .u8 x).wf = true) → ∃ k, laws_FnRepBack.f k l0 l1 = some true
theorem laws_FnRepBack.walk (P : laws_FnRepBack.Pure) (a0 : Option Addr) (len0 cap0 : Nat) (z0 : List Int) (a1 : Option Addr) (len1 cap1 : Nat) (z1 : List Int) (w : World) (w0 : (a0 = none ∧ len0 = 0 ∧ cap0 = 0 ∧ z0 = []) ∨ ∃ x, a0 = some x ∧ len0 ≤ cap0 ∧ cap0 ≤ maxLen ∧ z0.length = cap0 ∧ (∀ i, i < z0.length → w.cell? (x.add i) = some (.int .u8 (z0.getD i 0))) ∧ ∀ n ∈ z0, (Lit.int .u8 n).wf = true) (y0 : len0 * 1 ≤ 140737488351232) (w1 : (a1 = none ∧ len1 = 0 ∧ cap1 = 0 ∧ z1 = []) ∨ ∃ x, a1 = some x ∧ len1 ≤ cap1 ∧ cap1 ≤ maxLen ∧ z1.length = cap1 ∧ (∀ i, i < z1.length → w.cell? (x.add i) = some (.int .u8 (z1.getD i 0))) ∧ ∀ n ∈ z1, (Lit.int .u8 n).wf = true) (y1 : len1 * 1 ≤ 140737488351232) :
  Calls Tryd.prog 6 #[.slice a0 len0 cap0, .slice a1 len1 cap1] w fun e w' => e = .returned (.bool true) ∧ Below w.heap.size w w' := by
 obtain ⟨l0, rfl, hr0, hm0, hw0, hc0⟩ := ReadsInt.ofRowC w0
 obtain ⟨l1, rfl, hr1, hm1, hw1, hc1⟩ := ReadsInt.ofRowC w1
 obtain ⟨k, h⟩ := P l0 l1 hm0 y0 hw0 hm1 y1 hw1
 refine (laws_FnRepBack.calls k _ _ l0 _ _ l1 true w (Kd.C_of_reads (d := (0 : Int)) (h1 := fun _ => rfl) hr0) hc0 (Kd.C_of_reads (d := (0 : Int)) (h1 := fun _ => rfl) hr1) hc1 h).mono ?_
 rintro e w' ⟨rfl, hd⟩
 exact ⟨rfl, hd⟩

end Go.Proofs.YtllchgipnfdneaaDoor.P
