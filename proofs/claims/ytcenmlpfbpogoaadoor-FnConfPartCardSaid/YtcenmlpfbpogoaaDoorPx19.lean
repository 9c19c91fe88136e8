/- The machine side of these statements, function by function: what each Go function answers (as a Lean function), and that it does. Written by a program (mp.py) for this claim. -/
import Derived.Test.YtcenmlpfbpogoaaDoorPx0
import Derived.Test.YtcenmlpfbpogoaaDoorPx1
import Derived.Test.YtcenmlpfbpogoaaDoorPx6
import Derived.Test.YtcenmlpfbpogoaaDoorPx14
import Derived.Test.YtcenmlpfbpogoaaDoorPx18
namespace Go.Proofs.YtcenmlpfbpogoaaDoor.P
open Go.RowKit Go.Proofs.YtcenmlpfbpogoaaDoorW.PrintWords Go.Proofs.YtcenmlpfbpogoaaDoorW.PrintLast Go.Proofs.YtcenmlpfbpogoaaDoorW.PrintMore
attribute [local go_sem] max2_int min2_int max_two min_two max_three min_three max_four min_four   -- for this text's walks alone
set_option linter.unusedVariables false
set_option linter.unusedSimpArgs false

/-! ### laws_FnConfPart: function 5 -/
mutual
def laws_FnConfPart.j0 : Nat → Int → Int → Bool → Int → Int → List (List (S107)) → List Int → List Int → List Int → List Int → List Int → List (S78) → Int → Option (Bool)
 | 0, _, _, _, _, _, _, _, _, _, _, _, _, _ => none
 | k + 1, x4, x5, x27, x540000, x540001, x540002, x540003, x540004, x540005, x540006, x540007, x540008, x540009 => if x27 = true then ((spec_ConfPart.f k x540000 x540001 x540002 x540003 x540004 x540005 x540006 x540007 x540008 x540009 x4).bind fun t543 => (some (x5 == t543))) else (laws_FnConfPart.l0 k x4 x5 0 x540000 x540001 x540002 x540003 x540004 x540005 x540006 x540007 x540008 x540009)
def laws_FnConfPart.l0 : Nat → Int → Int → Int → Int → Int → List (List (S107)) → List Int → List Int → List Int → List Int → List Int → List (S78) → Int → Option (Bool)
 | 0, _, _, _, _, _, _, _, _, _, _, _, _, _ => none
 | k + 1, x4, x5, x6, x540000, x540001, x540002, x540003, x540004, x540005, x540006, x540007, x540008, x540009 => if x6 < (x540003.length : Int) then (if 0 ≤ x6 then ((impl_ConfPart.f k x540000 x540001 x540002 x540003 x540004 x540005 x540006 x540007 x540008 x540009 (rd x540003 x6)).bind fun t545 => (if t545 = x6 then (laws_FnConfPart.l0 k x4 x5 (wrap64 (x6 + 1)) x540000 x540001 x540002 x540003 x540004 x540005 x540006 x540007 x540008 x540009) else (none))) else (none)) else ((impl_ConfPart.f k x540000 x540001 x540002 x540003 x540004 x540005 x540006 x540007 x540008 x540009 0).bind fun t546 => (if t546 = (-1) then (if x5 = (-1) then (some true) else (if 0 ≤ x5 then (if x5 < (x540003.length : Int) then (some ((rd x540003 x5) == x4)) else (none)) else (none))) else (none)))
end
def laws_FnConfPart.f (k : Nat) (l0 : List Int) : Option (Bool) := if (l0.length : Int) > 1048576 then (some true) else ((spec_DrawConfPart.f k l0).bind fun bt514 => ((impl_ConfPart.f k bt514.1 bt514.2.1 bt514.2.2.1 bt514.2.2.2.1 bt514.2.2.2.2.1 bt514.2.2.2.2.2.1 bt514.2.2.2.2.2.2.1 bt514.2.2.2.2.2.2.2.1 bt514.2.2.2.2.2.2.2.2.1 bt514.2.2.2.2.2.2.2.2.2.1 bt514.2.2.2.2.2.2.2.2.2.2).bind fun t540 => ((spec_ConfPart.f k bt514.1 bt514.2.1 bt514.2.2.1 bt514.2.2.2.1 bt514.2.2.2.2.1 bt514.2.2.2.2.2.1 bt514.2.2.2.2.2.2.1 bt514.2.2.2.2.2.2.2.1 bt514.2.2.2.2.2.2.2.2.1 bt514.2.2.2.2.2.2.2.2.2.1 bt514.2.2.2.2.2.2.2.2.2.2).bind fun t541 => (if t540 = t541 then ((spec_ConfCheck.f k bt514.1 bt514.2.1 bt514.2.2.1 bt514.2.2.2.1 bt514.2.2.2.2.1 bt514.2.2.2.2.2.1 bt514.2.2.2.2.2.2.1 bt514.2.2.2.2.2.2.2.1 bt514.2.2.2.2.2.2.2.2.1 bt514.2.2.2.2.2.2.2.2.2.1).bind fun t542 => (laws_FnConfPart.j0 k bt514.2.2.2.2.2.2.2.2.2.2 t540 (t542 != 0) bt514.1 bt514.2.1 bt514.2.2.1 bt514.2.2.2.1 bt514.2.2.2.2.1 bt514.2.2.2.2.2.1 bt514.2.2.2.2.2.2.1 bt514.2.2.2.2.2.2.2.1 bt514.2.2.2.2.2.2.2.2.1 bt514.2.2.2.2.2.2.2.2.2.1)) else (laws_FnConfPart.j0 k bt514.2.2.2.2.2.2.2.2.2.2 t540 true bt514.1 bt514.2.1 bt514.2.2.1 bt514.2.2.2.1 bt514.2.2.2.2.1 bt514.2.2.2.2.2.1 bt514.2.2.2.2.2.2.1 bt514.2.2.2.2.2.2.2.1 bt514.2.2.2.2.2.2.2.2.1 bt514.2.2.2.2.2.2.2.2.2.1)))))
theorem laws_FnConfPart.mono_l : ∀ k, (∀ y0 y1 y2 y3 y4 y5 y6 y7 y8 y9 y10 y11 y12, LeO (laws_FnConfPart.j0 k y0 y1 y2 y3 y4 y5 y6 y7 y8 y9 y10 y11 y12) (laws_FnConfPart.j0 (k + 1) y0 y1 y2 y3 y4 y5 y6 y7 y8 y9 y10 y11 y12)) ∧ (∀ y0 y1 y2 y3 y4 y5 y6 y7 y8 y9 y10 y11 y12, LeO (laws_FnConfPart.l0 k y0 y1 y2 y3 y4 y5 y6 y7 y8 y9 y10 y11 y12) (laws_FnConfPart.l0 (k + 1) y0 y1 y2 y3 y4 y5 y6 y7 y8 y9 y10 y11 y12))
 | 0 => ⟨fun _ _ _ _ _ _ _ _ _ _ _ _ _ r h => by simp [laws_FnConfPart.j0] at h, fun _ _ _ _ _ _ _ _ _ _ _ _ _ r h => by simp [laws_FnConfPart.l0] at h⟩
 | k + 1 => by
  obtain ⟨ih0, ih1⟩ := laws_FnConfPart.mono_l k
  refine ⟨?_, ?_⟩
  ·intro y0 y1 y2 y3 y4 y5 y6 y7 y8 y9 y10 y11 y12
   unfold laws_FnConfPart.j0
   repeat' first
   | (with_reducible exact ih0 _ _ _ _ _ _ _ _ _ _ _ _ _)
   | (with_reducible exact ih1 _ _ _ _ _ _ _ _ _ _ _ _ _)
   | (with_reducible exact impl_ConfPart.mono _ _ _ _ _ _ _ _ _ _ _ _)
   | (with_reducible exact spec_ConfCheck.mono _ _ _ _ _ _ _ _ _ _ _)
   | (with_reducible exact spec_ConfPart.mono _ _ _ _ _ _ _ _ _ _ _ _)
   | (with_reducible exact spec_DrawConfPart.mono _ _)
   | (with_reducible exact LeO.refl _)
   | (with_reducible exact LeO.none _)
   | (with_reducible refine LeO.ite ?_ ?_)
   | (with_reducible refine LeO.bind ?_ (fun _ => ?_))
   | exact ih0 _ _ _ _ _ _ _ _ _ _ _ _ _
   | exact ih1 _ _ _ _ _ _ _ _ _ _ _ _ _
   | exact impl_ConfPart.mono _ _ _ _ _ _ _ _ _ _ _ _
   | exact spec_ConfCheck.mono _ _ _ _ _ _ _ _ _ _ _
   | exact spec_ConfPart.mono _ _ _ _ _ _ _ _ _ _ _ _
   | exact spec_DrawConfPart.mono _ _
   | exact LeO.none _
   | refine LeO.ite ?_ ?_
   | refine LeO.bind ?_ (fun _ => ?_)
  ·intro y0 y1 y2 y3 y4 y5 y6 y7 y8 y9 y10 y11 y12
   unfold laws_FnConfPart.l0
   repeat' first
   | (with_reducible exact ih0 _ _ _ _ _ _ _ _ _ _ _ _ _)
   | (with_reducible exact ih1 _ _ _ _ _ _ _ _ _ _ _ _ _)
   | (with_reducible exact impl_ConfPart.mono _ _ _ _ _ _ _ _ _ _ _ _)
   | (with_reducible exact spec_ConfCheck.mono _ _ _ _ _ _ _ _ _ _ _)
   | (with_reducible exact spec_ConfPart.mono _ _ _ _ _ _ _ _ _ _ _ _)
   | (with_reducible exact spec_DrawConfPart.mono _ _)
   | (with_reducible exact LeO.refl _)
   | (with_reducible exact LeO.none _)
   | (with_reducible refine LeO.ite ?_ ?_)
   | (with_reducible refine LeO.bind ?_ (fun _ => ?_))
   | exact ih0 _ _ _ _ _ _ _ _ _ _ _ _ _
   | exact ih1 _ _ _ _ _ _ _ _ _ _ _ _ _
   | exact impl_ConfPart.mono _ _ _ _ _ _ _ _ _ _ _ _
   | exact spec_ConfCheck.mono _ _ _ _ _ _ _ _ _ _ _
   | exact spec_ConfPart.mono _ _ _ _ _ _ _ _ _ _ _ _
   | exact spec_DrawConfPart.mono _ _
   | exact LeO.none _
   | refine LeO.ite ?_ ?_
   | refine LeO.bind ?_ (fun _ => ?_)
theorem laws_FnConfPart.mono : ∀ a0 k, LeO (laws_FnConfPart.f k a0) (laws_FnConfPart.f (k + 1) a0) := by
 intro a0 k
 obtain ⟨ih0, ih1⟩ := laws_FnConfPart.mono_l k
 unfold laws_FnConfPart.f
 repeat' first
   | (with_reducible exact ih0 _ _ _ _ _ _ _ _ _ _ _ _ _)
   | (with_reducible exact ih1 _ _ _ _ _ _ _ _ _ _ _ _ _)
   | (with_reducible exact impl_ConfPart.mono _ _ _ _ _ _ _ _ _ _ _ _)
   | (with_reducible exact spec_ConfCheck.mono _ _ _ _ _ _ _ _ _ _ _)
   | (with_reducible exact spec_ConfPart.mono _ _ _ _ _ _ _ _ _ _ _ _)
   | (with_reducible exact spec_DrawConfPart.mono _ _)
   | (with_reducible exact LeO.refl _)
   | (with_reducible exact LeO.none _)
   | (with_reducible refine LeO.ite ?_ ?_)
   | (with_reducible refine LeO.bind ?_ (fun _ => ?_))
   | exact ih0 _ _ _ _ _ _ _ _ _ _ _ _ _
   | exact ih1 _ _ _ _ _ _ _ _ _ _ _ _ _
   | exact impl_ConfPart.mono _ _ _ _ _ _ _ _ _ _ _ _
   | exact spec_ConfCheck.mono _ _ _ _ _ _ _ _ _ _ _
   | exact spec_ConfPart.mono _ _ _ _ _ _ _ _ _ _ _ _
   | exact spec_DrawConfPart.mono _ _
   | exact LeO.none _
   | refine LeO.ite ?_ ?_
   | refine LeO.bind ?_ (fun _ => ?_)
def laws_FnConfPart.T10 : Bool × List (List Nat × List Nat) := (true, [([], []), ([], []), ([1], [1]), ([], []), ([2, 3], [2, 3]), ([4], [4]), ([0, 5], [0, 5]), ([], []), ([6, 7], [6, 7])])
def laws_FnConfPart.B10 : List Nat := [0, 0, 2, 0, 14, 30, 63, 0, 255]
theorem laws_FnConfPart.tab10 : rtab .any (opsOf Tryd.f5 10) = laws_FnConfPart.T10 := by kernel_rfl
theorem laws_FnConfPart.bits10 : waitsOk laws_FnConfPart.T10.2 laws_FnConfPart.B10 = true := by kernel_rfl
set_option maxHeartbeats 8000000 in
set_option maxRecDepth 100000 in
theorem laws_FnConfPart.calls (k : Nat) (A0 : Option Addr) (c0 : Nat) (l0 : List Int) (r : Bool) (w : World) (hr0 : Kd.C (Kd.int .u8) w A0 l0.length l0) (hc0 : l0.length ≤ c0) (h : laws_FnConfPart.f k l0 = some r) (hG : GErr w) :
  Calls Tryd.prog 5 #[.slice A0 l0.length c0] w fun e w' => e = .returned (.bool r) ∧ Below w.heap.size w w' := by
 have HG0 := Aside0.mk hG
 clear hG
 have hu32 := Tryd.underlying32
 have HR0 := Aside0.mk hr0
 have HC0 := Aside0.mk hc0
 clear hr0 hc0
 have HB := m_ (Below.refl w.heap.size w)
 have H : (if (l0.length : Int) > 1048576 then (some true) else ((spec_DrawConfPart.f k l0).bind fun bt514 => ((impl_ConfPart.f k bt514.1 bt514.2.1 bt514.2.2.1 bt514.2.2.2.1 bt514.2.2.2.2.1 bt514.2.2.2.2.2.1 bt514.2.2.2.2.2.2.1 bt514.2.2.2.2.2.2.2.1 bt514.2.2.2.2.2.2.2.2.1 bt514.2.2.2.2.2.2.2.2.2.1 bt514.2.2.2.2.2.2.2.2.2.2).bind fun t540 => ((spec_ConfPart.f k bt514.1 bt514.2.1 bt514.2.2.1 bt514.2.2.2.1 bt514.2.2.2.2.1 bt514.2.2.2.2.2.1 bt514.2.2.2.2.2.2.1 bt514.2.2.2.2.2.2.2.1 bt514.2.2.2.2.2.2.2.2.1 bt514.2.2.2.2.2.2.2.2.2.1 bt514.2.2.2.2.2.2.2.2.2.2).bind fun t541 => (if t540 = t541 then ((spec_ConfCheck.f k bt514.1 bt514.2.1 bt514.2.2.1 bt514.2.2.2.1 bt514.2.2.2.2.1 bt514.2.2.2.2.2.1 bt514.2.2.2.2.2.2.1 bt514.2.2.2.2.2.2.2.1 bt514.2.2.2.2.2.2.2.2.1 bt514.2.2.2.2.2.2.2.2.2.1).bind fun t542 => (laws_FnConfPart.j0 k bt514.2.2.2.2.2.2.2.2.2.2 t540 (t542 != 0) bt514.1 bt514.2.1 bt514.2.2.1 bt514.2.2.2.1 bt514.2.2.2.2.1 bt514.2.2.2.2.2.1 bt514.2.2.2.2.2.2.1 bt514.2.2.2.2.2.2.2.1 bt514.2.2.2.2.2.2.2.2.1 bt514.2.2.2.2.2.2.2.2.2.1)) else (laws_FnConfPart.j0 k bt514.2.2.2.2.2.2.2.2.2.2 t540 true bt514.1 bt514.2.1 bt514.2.2.1 bt514.2.2.2.1 bt514.2.2.2.2.1 bt514.2.2.2.2.2.1 bt514.2.2.2.2.2.2.1 bt514.2.2.2.2.2.2.2.1 bt514.2.2.2.2.2.2.2.2.1 bt514.2.2.2.2.2.2.2.2.2.1)))))) = some r := h
 clear h
 by_cases c2 : (l0.length : Int) > 1048576
 ·rw [if_pos c2] at H
  have c2b0 : decide (1048576 < (l0.length : Int)) = true := decide_eq_true c2
  have c2b1 : decide (1048576 < l0.length) = true := decide_eq_true (by omega)
  clear c2
  obtain rfl := Option.some.inj H
  go_enter Tryd.func5, Tryd.ntmps5
  go_wp2
  go_ret
  exact ⟨rf_, (hB0 HB.out)⟩
 ·rw [if_neg c2] at H
  have c2b0 : decide (1048576 < (l0.length : Int)) = false := decide_eq_false c2
  have c2b1 : decide (1048576 < l0.length) = false := decide_eq_false (by omega)
  clear c2
  replace H := Option.bind_eq_some_iff.mp H
  obtain ⟨⟨t514, t515, t516, t519, t522, t525, t528, t531, t534, t537, t538⟩, A30, H⟩ := H
  replace H : ((impl_ConfPart.f k t514 t515 t516 t519 t522 t525 t528 t531 t534 t537 t538).bind fun t540 => ((spec_ConfPart.f k t514 t515 t516 t519 t522 t525 t528 t531 t534 t537 t538).bind fun t541 => (if t540 = t541 then ((spec_ConfCheck.f k t514 t515 t516 t519 t522 t525 t528 t531 t534 t537).bind fun t542 => (laws_FnConfPart.j0 k t538 t540 (t542 != 0) t514 t515 t516 t519 t522 t525 t528 t531 t534 t537)) else (laws_FnConfPart.j0 k t538 t540 true t514 t515 t516 t519 t522 t525 t528 t531 t534 t537)))) = some r := H
  have A3 := Aside0.mk A30
  clear A30
  replace H := Option.bind_eq_some_iff.mp H
  obtain ⟨t540, A40, H⟩ := H
  replace H : ((spec_ConfPart.f k t514 t515 t516 t519 t522 t525 t528 t531 t534 t537 t538).bind fun t541 => (if t540 = t541 then ((spec_ConfCheck.f k t514 t515 t516 t519 t522 t525 t528 t531 t534 t537).bind fun t542 => (laws_FnConfPart.j0 k t538 t540 (t542 != 0) t514 t515 t516 t519 t522 t525 t528 t531 t534 t537)) else (laws_FnConfPart.j0 k t538 t540 true t514 t515 t516 t519 t522 t525 t528 t531 t534 t537))) = some r := H
  have A4 := Aside0.mk A40
  clear A40
  have HC5 := Aside0.mk H
  clear H
  go_enter Tryd.func5, Tryd.ntmps5
  go_upto_region 5 with (first | ((with_reducible refine gate_callee (f := 18) rfl ?_); refine goesL_ (some 12) rfl rfl Tryd.func18 (by kernel_rfl) rfl #[.slice A0 l0.length c0] rfl gl_ ?_; (with_reducible refine (spec_DrawConfPart.calls k _ _ l0 t514 t515 t516 t519 t522 t525 t528 t531 t534 t537 t538 _ ?side1 ?side2 A3.out).mono ?_); (case side1 => exact cN HR0.out); (case side2 => exact HC0.out); rintro e w6 ⟨v517, v520, v523, v526, v529, v532, v535, rfl, ho0, ho1, ho2, ho3, ho4, ho5, ho6, hb⟩; refine ⟨_, rfl, ?_⟩; have n0_ := m_ (Kd.N_lower (Kd.N_mono (ok' := fun k_ => some k_ ≠ (v520 : Value).ownBlock ∧ some k_ ≠ (v523 : Value).ownBlock ∧ some k_ ≠ (v526 : Value).ownBlock ∧ some k_ ≠ (v529 : Value).ownBlock ∧ some k_ ≠ (v532 : Value).ownBlock ∧ some k_ ≠ (v535 : Value).ownBlock) ho0 (fun k_ hk_ => ⟨hk_.2.1, hk_.2.2.1, hk_.2.2.2.1, hk_.2.2.2.2.1, hk_.2.2.2.2.2.1, hk_.2.2.2.2.2.2⟩)) (below_size (bN HB.out))); have n1_ := m_ (Kd.R_lower (Kd.R_mono (ok' := fun k_ => some k_ ≠ (v523 : Value).ownBlock ∧ some k_ ≠ (v526 : Value).ownBlock ∧ some k_ ≠ (v529 : Value).ownBlock ∧ some k_ ≠ (v532 : Value).ownBlock) ho1 (fun _ hk_ => hk_.2)) (below_size (bN HB.out))); have n2_ := m_ (Kd.R_lower (Kd.R_mono (ok' := fun k_ => some k_ ≠ (v520 : Value).ownBlock ∧ some k_ ≠ (v526 : Value).ownBlock ∧ some k_ ≠ (v529 : Value).ownBlock ∧ some k_ ≠ (v532 : Value).ownBlock) ho2 (fun _ hk_ => hk_.2)) (below_size (bN HB.out))); have n3_ := m_ (Kd.R_lower (Kd.R_mono (ok' := fun k_ => some k_ ≠ (v520 : Value).ownBlock ∧ some k_ ≠ (v523 : Value).ownBlock ∧ some k_ ≠ (v529 : Value).ownBlock ∧ some k_ ≠ (v532 : Value).ownBlock) ho3 (fun _ hk_ => hk_.2)) (below_size (bN HB.out))); have n4_ := m_ (Kd.R_lower (Kd.R_mono (ok' := fun k_ => some k_ ≠ (v520 : Value).ownBlock ∧ some k_ ≠ (v523 : Value).ownBlock ∧ some k_ ≠ (v526 : Value).ownBlock ∧ some k_ ≠ (v532 : Value).ownBlock) ho4 (fun _ hk_ => hk_.2)) (below_size (bN HB.out))); have n5_ := m_ (Kd.R_lower (Kd.R_mono (ok' := fun k_ => some k_ ≠ (v520 : Value).ownBlock ∧ some k_ ≠ (v523 : Value).ownBlock ∧ some k_ ≠ (v526 : Value).ownBlock ∧ some k_ ≠ (v529 : Value).ownBlock) ho5 (fun _ hk_ => hk_.2)) (below_size (bN HB.out))); have n6_ := m_ (Kd.R_lower (Kd.R_mono (ok' := fun k_ => True) ho6 (fun _ hk_ => trivial)) (below_size (bN HB.out))); have n7_ := m_ (below_step (bN HB.out) hb); clear HB; have HO518 := n0_; have HO521 := n1_; have HO524 := n2_; have HO527 := n3_; have HO530 := n4_; have HO533 := n5_; have HO536 := n6_; have HB := n7_; clear n0_ n1_ n2_ n3_ n4_ n5_ n6_ n7_; (try clear hb); (try clear hb2); (try clear hk); (try clear hi); (try clear ho0); (try clear ho1); (try clear ho2); (try clear ho3); (try clear ho4); (try clear ho5); (try clear ho6)) | ((with_reducible refine gate_dst (N := 3) rfl ?_); refine box_event ?hg (N := 3) ?hd (cs := #[.int .i64 0, .int .i64 0, .slice none 0 0, .slice none 0 0, .slice none 0 0, .slice none 0 0, .slice none 0 0, .slice none 0 0, .slice none 0 0, .int .i64 0]) (t := 32) ?hr ?_; (case hd => rfl); (case hg => rfl); (case hr => first | (go_simp; done) | (go_simp; rfl)); intro gb539 hg w7 hbox hb; have n0_ := m_ (Kd.N_below (Kd.N_elderB (by (with_reducible repeat (first | apply Kd.N_alloc | apply Kd.N_drewN | apply Kd.N_drew)); exact HO518.out) gb539 (Nat.le_of_eq hg.symm)) hb); have n1_ := m_ (Kd.R_below (rN HO521.out) hb); have n2_ := m_ (Kd.R_below (rN HO524.out) hb); have n3_ := m_ (Kd.R_below (rN HO527.out) hb); have n4_ := m_ (Kd.R_below (rN HO530.out) hb); have n5_ := m_ (Kd.R_below (rN HO533.out) hb); have n6_ := m_ (Kd.R_below (rN HO536.out) hb); have n7_ := m_ (below_step (bN HB.out) hb); have n8_ := m_ (hbox); have n9_ := m_ ((by rw [hg]; exact (below_size (bN HB.out)) : w.heap.size ≤ gb539)); have n10_ := m_ ((by rw [hg]; exact (below_size (bN HB.out)) : w.heap.size ≤ gb539)); clear HO518 HO521 HO524 HO527 HO530 HO533 HO536 HB; have HO518 := n0_; have HO521 := n1_; have HO524 := n2_; have HO527 := n3_; have HO530 := n4_; have HO533 := n5_; have HO536 := n6_; have HB := n7_; have BK539 := n8_; have GW539 := n9_; have GE539 := n10_; clear n0_ n1_ n2_ n3_ n4_ n5_ n6_ n7_ n8_ n9_ n10_ hb hbox hg; obtain ⟨⟨hcz8_0, hcz8_1, hcz8_2, hcz8_3, hcz8_4, hcz8_5, hcz8_6, hcz8_7, hcz8_8, hcz8_9⟩, hfz8_0, hfz8_1, hfz8_2, hfz8_3, hfz8_4, hfz8_5, hfz8_6, hfz8_7, hfz8_8, hfz8_9⟩ := row10 BK539.out; obtain ⟨Ao9, co9, eo9⟩ := Kd.N_slice HO518.out; subst eo9; obtain ⟨Ao10, co10, eo10⟩ := Kd.R_slice HO521.out; subst eo10; obtain ⟨Ao11, co11, eo11⟩ := Kd.R_slice HO524.out; subst eo11; obtain ⟨Ao12, co12, eo12⟩ := Kd.R_slice HO527.out; subst eo12; obtain ⟨Ao13, co13, eo13⟩ := Kd.R_slice HO530.out; subst eo13; obtain ⟨Ao14, co14, eo14⟩ := Kd.R_slice HO533.out; subst eo14; obtain ⟨Ao15, co15, eo15⟩ := Kd.R_slice HO536.out; subst eo15) | ((with_reducible refine gate_callee (f := 19) rfl ?_); refine goesL_ (some 17) rfl rfl Tryd.func19 (by kernel_rfl) rfl #[.agg #[.int .i64 t514, .int .i64 t515, .slice Ao9 t516.length co9, .slice Ao10 t519.length co10, .slice Ao11 t522.length co11, .slice Ao12 t525.length co12, .slice Ao13 t528.length co13, .slice Ao14 t531.length co14, .slice Ao15 t534.length co15, .int .i64 t537], .int .i64 t538] rfl gl_ ?_; (with_reducible refine (impl_ConfPart.calls k t514 t515 _ _ t516 _ _ t519 _ _ t522 _ _ t525 _ _ t528 _ _ t531 _ _ t534 t537 t538 t540 _ ?side1 ?side2 ?side3 ?side4 ?side5 ?side6 ?side7 ?side8 ?side9 ?side10 ?side11 ?side12 ?side13 ?side14 A4.out ?sideG).mono ?_); (case sideG => exact GErr.below (bN HB.out) HG0.out); (case side1 => refine (Kd.N_reads' (e := 75) (base := w.heap.size) (ok := fun k_ => ((nb Ao10 t519.length co10 k_ ∧ (nb Ao11 t522.length co11 k_ ∧ (nb Ao12 t525.length co12 k_ ∧ (nb Ao13 t528.length co13 k_ ∧ (nb Ao14 t531.length co14 k_ ∧ nb Ao15 t534.length co15 k_))))) ∧ k_ ≠ gb539)) (n := t516.length) (c := co9) ?_).2.2; exact (by (with_reducible repeat (first | apply Kd.N_alloc | apply Kd.N_drewN | apply Kd.N_drew)); exact (Kd.N_mono (Kd.N_far (p := ⟨gb539, 9, none⟩) (Kd.N_far (p := ⟨gb539, 8, none⟩) (Kd.N_far (p := ⟨gb539, 7, none⟩) (Kd.N_far (p := ⟨gb539, 6, none⟩) (Kd.N_far (p := ⟨gb539, 5, none⟩) (Kd.N_far (p := ⟨gb539, 4, none⟩) (Kd.N_far (p := ⟨gb539, 3, none⟩) (Kd.N_far (p := ⟨gb539, 2, none⟩) (Kd.N_far (p := ⟨gb539, 1, none⟩) (Kd.N_far (p := ⟨gb539, 0, none⟩) (Kd.N_mono HO518.out (fun k_ hk => (⟨hk, hk.2⟩ : _ ∧ k_ ≠ gb539))) (fun _ hk => hk.2) (.int .i64 t514)) (fun _ hk => hk.2) (.int .i64 t515)) (fun _ hk => hk.2) (.slice Ao9 t516.length co9)) (fun _ hk => hk.2) (.slice Ao10 t519.length co10)) (fun _ hk => hk.2) (.slice Ao11 t522.length co11)) (fun _ hk => hk.2) (.slice Ao12 t525.length co12)) (fun _ hk => hk.2) (.slice Ao13 t528.length co13)) (fun _ hk => hk.2) (.slice Ao14 t531.length co14)) (fun _ hk => hk.2) (.slice Ao15 t534.length co15)) (fun _ hk => hk.2) (.int .i64 t537)) (fun _ h_ => h_.1)))); (case side2 => exact (Kd.N_reads' HO518.out).2.1); (case side3 => refine (Kd.R_reads' (e := 3) (base := w.heap.size) (ok := fun k_ => (nb Ao11 t522.length co11 k_ ∧ (nb Ao12 t525.length co12 k_ ∧ (nb Ao13 t528.length co13 k_ ∧ nb Ao14 t531.length co14 k_)))) (n := t519.length) (c := co10) ?_).2.2; exact (frN (Kd.R_types HO521.out BK539.out (by decide)))); (case side4 => exact (Kd.R_reads' HO521.out).2.1); (case side5 => refine (Kd.R_reads' (e := 3) (base := w.heap.size) (ok := fun k_ => (nb Ao10 t519.length co10 k_ ∧ (nb Ao12 t525.length co12 k_ ∧ (nb Ao13 t528.length co13 k_ ∧ nb Ao14 t531.length co14 k_)))) (n := t522.length) (c := co11) ?_).2.2; exact (frN (Kd.R_types HO524.out BK539.out (by decide)))); (case side6 => exact (Kd.R_reads' HO524.out).2.1); (case side7 => refine (Kd.R_reads' (e := 3) (base := w.heap.size) (ok := fun k_ => (nb Ao10 t519.length co10 k_ ∧ (nb Ao11 t522.length co11 k_ ∧ (nb Ao13 t528.length co13 k_ ∧ nb Ao14 t531.length co14 k_)))) (n := t525.length) (c := co12) ?_).2.2; exact (frN (Kd.R_types HO527.out BK539.out (by decide)))); (case side8 => exact (Kd.R_reads' HO527.out).2.1); (case side9 => refine (Kd.R_reads' (e := 3) (base := w.heap.size) (ok := fun k_ => (nb Ao10 t519.length co10 k_ ∧ (nb Ao11 t522.length co11 k_ ∧ (nb Ao12 t525.length co12 k_ ∧ nb Ao14 t531.length co14 k_)))) (n := t528.length) (c := co13) ?_).2.2; exact (frN (Kd.R_types HO530.out BK539.out (by decide)))); (case side10 => exact (Kd.R_reads' HO530.out).2.1); (case side11 => refine (Kd.R_reads' (e := 3) (base := w.heap.size) (ok := fun k_ => (nb Ao10 t519.length co10 k_ ∧ (nb Ao11 t522.length co11 k_ ∧ (nb Ao12 t525.length co12 k_ ∧ nb Ao13 t528.length co13 k_)))) (n := t531.length) (c := co14) ?_).2.2; exact (frN (Kd.R_types HO533.out BK539.out (by decide)))); (case side12 => exact (Kd.R_reads' HO533.out).2.1); (case side13 => refine (Kd.R_reads' (e := 78) (base := w.heap.size) (ok := fun k_ => True) (n := t534.length) (c := co15) ?_).2.2; exact (frN (Kd.R_types HO536.out BK539.out (by decide)))); (case side14 => exact (Kd.R_reads' HO536.out).2.1); rintro e w16 ⟨rfl, hb⟩; refine ⟨_, rfl, ?_⟩; have n0_ := m_ (Kd.N_below (by (with_reducible repeat (first | apply Kd.N_alloc | apply Kd.N_drewN | apply Kd.N_drew)); exact (Kd.N_mono (Kd.N_far (p := ⟨gb539, 9, none⟩) (Kd.N_far (p := ⟨gb539, 8, none⟩) (Kd.N_far (p := ⟨gb539, 7, none⟩) (Kd.N_far (p := ⟨gb539, 6, none⟩) (Kd.N_far (p := ⟨gb539, 5, none⟩) (Kd.N_far (p := ⟨gb539, 4, none⟩) (Kd.N_far (p := ⟨gb539, 3, none⟩) (Kd.N_far (p := ⟨gb539, 2, none⟩) (Kd.N_far (p := ⟨gb539, 1, none⟩) (Kd.N_far (p := ⟨gb539, 0, none⟩) (Kd.N_mono HO518.out (fun k_ hk => (⟨hk, hk.2⟩ : _ ∧ k_ ≠ gb539))) (fun _ hk => hk.2) (.int .i64 t514)) (fun _ hk => hk.2) (.int .i64 t515)) (fun _ hk => hk.2) (.slice Ao9 t516.length co9)) (fun _ hk => hk.2) (.slice Ao10 t519.length co10)) (fun _ hk => hk.2) (.slice Ao11 t522.length co11)) (fun _ hk => hk.2) (.slice Ao12 t525.length co12)) (fun _ hk => hk.2) (.slice Ao13 t528.length co13)) (fun _ hk => hk.2) (.slice Ao14 t531.length co14)) (fun _ hk => hk.2) (.slice Ao15 t534.length co15)) (fun _ hk => hk.2) (.int .i64 t537)) (fun _ h_ => h_.1))) hb); have n1_ := m_ (Kd.R_below (frN (Kd.R_types HO521.out BK539.out (by decide))) hb); have n2_ := m_ (Kd.R_below (frN (Kd.R_types HO524.out BK539.out (by decide))) hb); have n3_ := m_ (Kd.R_below (frN (Kd.R_types HO527.out BK539.out (by decide))) hb); have n4_ := m_ (Kd.R_below (frN (Kd.R_types HO530.out BK539.out (by decide))) hb); have n5_ := m_ (Kd.R_below (frN (Kd.R_types HO533.out BK539.out (by decide))) hb); have n6_ := m_ (Kd.R_below (frN (Kd.R_types HO536.out BK539.out (by decide))) hb); have n7_ := m_ (blk_below (g := gb539) (o := .cells #[.int .i64 t514, .int .i64 t515, .slice Ao9 t516.length co9, .slice Ao10 t519.length co10, .slice Ao11 t522.length co11, .slice Ao12 t525.length co12, .slice Ao13 t528.length co13, .slice Ao14 t531.length co14, .slice Ao15 t534.length co15, .int .i64 t537] 32 (0, 0)) (by (with_reducible repeat (first | refine blk_drewN ?_ _ | refine blk_drew ?_ | refine blk_alloc ?_ _)); apply put10; (with_reducible repeat (first | refine blk_drewN ?_ _ | refine blk_drew ?_ | refine blk_alloc ?_ _)); exact BK539.out) hb); have n8_ := m_ (below_step (bN HB.out) hb); clear HO518 HO521 HO524 HO527 HO530 HO533 HO536 BK539 HB; have HO518 := n0_; have HO521 := n1_; have HO524 := n2_; have HO527 := n3_; have HO530 := n4_; have HO533 := n5_; have HO536 := n6_; have BK539 := n7_; have HB := n8_; clear n0_ n1_ n2_ n3_ n4_ n5_ n6_ n7_ n8_; (try clear hb); (try clear hb2); (try clear hk); (try clear hi)))
  (try simp only [Act.put, List.setIfInBounds_toArray, List.set_cons_zero, List.set_cons_succ])
  go_cut [27] (fun v27 wc => ∃ (kq : Nat) (x27_4 : Bool), v27 = .bool x27_4 ∧ Aside0 (laws_FnConfPart.j0 kq t538 t540 x27_4 t514 t515 t516 t519 t522 t525 t528 t531 t534 t537 = some r) ∧ Aside0 (kq ≤ k) ∧ Aside0 (Kd.N (Kd.slice 107 k107) 75 wc w.heap.size (fun k_ => some k_ ≠ ((.slice Ao10 t519.length co10) : Value).ownBlock ∧ some k_ ≠ ((.slice Ao11 t522.length co11) : Value).ownBlock ∧ some k_ ≠ ((.slice Ao12 t525.length co12) : Value).ownBlock ∧ some k_ ≠ ((.slice Ao13 t528.length co13) : Value).ownBlock ∧ some k_ ≠ ((.slice Ao14 t531.length co14) : Value).ownBlock ∧ some k_ ≠ ((.slice Ao15 t534.length co15) : Value).ownBlock ∧ k_ ≠ gb539) (.slice Ao9 t516.length co9) t516) ∧ Aside0 (Kd.R (Kd.int .i64) 3 wc w.heap.size (fun k_ => some k_ ≠ ((.slice Ao11 t522.length co11) : Value).ownBlock ∧ some k_ ≠ ((.slice Ao12 t525.length co12) : Value).ownBlock ∧ some k_ ≠ ((.slice Ao13 t528.length co13) : Value).ownBlock ∧ some k_ ≠ ((.slice Ao14 t531.length co14) : Value).ownBlock) (.slice Ao10 t519.length co10) t519) ∧ Aside0 (Kd.R (Kd.int .i64) 3 wc w.heap.size (fun k_ => some k_ ≠ ((.slice Ao10 t519.length co10) : Value).ownBlock ∧ some k_ ≠ ((.slice Ao12 t525.length co12) : Value).ownBlock ∧ some k_ ≠ ((.slice Ao13 t528.length co13) : Value).ownBlock ∧ some k_ ≠ ((.slice Ao14 t531.length co14) : Value).ownBlock) (.slice Ao11 t522.length co11) t522) ∧ Aside0 (Kd.R (Kd.int .i64) 3 wc w.heap.size (fun k_ => some k_ ≠ ((.slice Ao10 t519.length co10) : Value).ownBlock ∧ some k_ ≠ ((.slice Ao11 t522.length co11) : Value).ownBlock ∧ some k_ ≠ ((.slice Ao13 t528.length co13) : Value).ownBlock ∧ some k_ ≠ ((.slice Ao14 t531.length co14) : Value).ownBlock) (.slice Ao12 t525.length co12) t525) ∧ Aside0 (Kd.R (Kd.int .i64) 3 wc w.heap.size (fun k_ => some k_ ≠ ((.slice Ao10 t519.length co10) : Value).ownBlock ∧ some k_ ≠ ((.slice Ao11 t522.length co11) : Value).ownBlock ∧ some k_ ≠ ((.slice Ao12 t525.length co12) : Value).ownBlock ∧ some k_ ≠ ((.slice Ao14 t531.length co14) : Value).ownBlock) (.slice Ao13 t528.length co13) t528) ∧ Aside0 (Kd.R (Kd.int .i64) 3 wc w.heap.size (fun k_ => some k_ ≠ ((.slice Ao10 t519.length co10) : Value).ownBlock ∧ some k_ ≠ ((.slice Ao11 t522.length co11) : Value).ownBlock ∧ some k_ ≠ ((.slice Ao12 t525.length co12) : Value).ownBlock ∧ some k_ ≠ ((.slice Ao13 t528.length co13) : Value).ownBlock) (.slice Ao14 t531.length co14) t531) ∧ Aside0 (Kd.R k78 78 wc w.heap.size (fun _ => True) (.slice Ao15 t534.length co15) t534) ∧ Aside0 (wc.heap[gb539]? = some (.cells #[.int .i64 t514, .int .i64 t515, (.slice Ao9 t516.length co9), (.slice Ao10 t519.length co10), (.slice Ao11 t522.length co11), (.slice Ao12 t525.length co12), (.slice Ao13 t528.length co13), (.slice Ao14 t531.length co14), (.slice Ao15 t534.length co15), .int .i64 t537] 32 (0, 0))) ∧ Aside0 (Below w.heap.size w wc))
  case first =>
   have H := HC5.out
   clear HC5
   replace H := Option.bind_eq_some_iff.mp H
   obtain ⟨t541, A170, H⟩ := H
   replace H : (if t540 = t541 then ((spec_ConfCheck.f k t514 t515 t516 t519 t522 t525 t528 t531 t534 t537).bind fun t542 => (laws_FnConfPart.j0 k t538 t540 (t542 != 0) t514 t515 t516 t519 t522 t525 t528 t531 t534 t537)) else (laws_FnConfPart.j0 k t538 t540 true t514 t515 t516 t519 t522 t525 t528 t531 t534 t537)) = some r := H
   have A17 := Aside0.mk A170
   clear A170
   by_cases c18 : t540 = t541
   ·rw [if_pos c18] at H
    have c18b0 : (t540 == t541) = true := beq_iff_eq.mpr c18
    have c18b1 : (t540 != t541) = false := bne_eq_false_iff_eq.mpr c18
    clear c18
    (first | rw [c18b0] | (simp only [i64_w, i32_w]; rw [c18b0]) | skip)
    replace H := Option.bind_eq_some_iff.mp H
    obtain ⟨t542, A190, H⟩ := H
    replace H : (laws_FnConfPart.j0 k t538 t540 (t542 != 0) t514 t515 t516 t519 t522 t525 t528 t531 t534 t537) = some r := H
    have A19 := Aside0.mk A190
    clear A190
    have H' := Aside0.mk H
    clear H
    obtain ⟨⟨hcz20_0, hcz20_1, hcz20_2, hcz20_3, hcz20_4, hcz20_5, hcz20_6, hcz20_7, hcz20_8, hcz20_9⟩, hfz20_0, hfz20_1, hfz20_2, hfz20_3, hfz20_4, hfz20_5, hfz20_6, hfz20_7, hfz20_8, hfz20_9⟩ := row10 BK539.out
    go_wp2_with (first | ((with_reducible refine gate_callee (f := 20) rfl ?_); refine goesL_ (some 21) rfl rfl Tryd.func20 (by kernel_rfl) rfl #[.agg #[.int .i64 t514, .int .i64 t515, .slice Ao9 t516.length co9, .slice Ao10 t519.length co10, .slice Ao11 t522.length co11, .slice Ao12 t525.length co12, .slice Ao13 t528.length co13, .slice Ao14 t531.length co14, .slice Ao15 t534.length co15, .int .i64 t537], .int .i64 t538] rfl gl_ ?_; (with_reducible refine (spec_ConfPart.calls k t514 t515 _ _ t516 _ _ t519 _ _ t522 _ _ t525 _ _ t528 _ _ t531 _ _ t534 t537 t538 t541 _ ?side1 ?side2 ?side3 ?side4 ?side5 ?side6 ?side7 ?side8 ?side9 ?side10 ?side11 ?side12 ?side13 ?side14 A17.out).mono ?_); (case side1 => exact cN (Kd.N_reads' HO518.out).2.2); (case side2 => exact (Kd.N_reads' HO518.out).2.1); (case side3 => exact cN (Kd.R_reads' HO521.out).2.2); (case side4 => exact (Kd.R_reads' HO521.out).2.1); (case side5 => exact cN (Kd.R_reads' HO524.out).2.2); (case side6 => exact (Kd.R_reads' HO524.out).2.1); (case side7 => exact cN (Kd.R_reads' HO527.out).2.2); (case side8 => exact (Kd.R_reads' HO527.out).2.1); (case side9 => exact cN (Kd.R_reads' HO530.out).2.2); (case side10 => exact (Kd.R_reads' HO530.out).2.1); (case side11 => exact cN (Kd.R_reads' HO533.out).2.2); (case side12 => exact (Kd.R_reads' HO533.out).2.1); (case side13 => exact cN (Kd.R_reads' HO536.out).2.2); (case side14 => exact (Kd.R_reads' HO536.out).2.1); rintro e w21 ⟨rfl, hb⟩; refine ⟨_, rfl, ?_⟩; have n0_ := m_ (Kd.N_below (by (with_reducible repeat (first | apply Kd.N_alloc | apply Kd.N_drewN | apply Kd.N_drew)); exact HO518.out) hb); have n1_ := m_ (Kd.R_below (rN HO521.out) hb); have n2_ := m_ (Kd.R_below (rN HO524.out) hb); have n3_ := m_ (Kd.R_below (rN HO527.out) hb); have n4_ := m_ (Kd.R_below (rN HO530.out) hb); have n5_ := m_ (Kd.R_below (rN HO533.out) hb); have n6_ := m_ (Kd.R_below (rN HO536.out) hb); have n7_ := m_ (blk_below (kN BK539.out) hb); have n8_ := m_ (below_step (bN HB.out) hb); clear HO518 HO521 HO524 HO527 HO530 HO533 HO536 BK539 HB; have HO518 := n0_; have HO521 := n1_; have HO524 := n2_; have HO527 := n3_; have HO530 := n4_; have HO533 := n5_; have HO536 := n6_; have BK539 := n7_; have HB := n8_; clear n0_ n1_ n2_ n3_ n4_ n5_ n6_ n7_ n8_; (try clear hb); (try clear hb2); (try clear hk); (try clear hi); obtain ⟨⟨hcz22_0, hcz22_1, hcz22_2, hcz22_3, hcz22_4, hcz22_5, hcz22_6, hcz22_7, hcz22_8, hcz22_9⟩, hfz22_0, hfz22_1, hfz22_2, hfz22_3, hfz22_4, hfz22_5, hfz22_6, hfz22_7, hfz22_8, hfz22_9⟩ := row10 BK539.out) | (go_at_call 16; (with_reducible refine (spec_ConfCheck.calls k t514 t515 _ _ t516 _ _ t519 _ _ t522 _ _ t525 _ _ t528 _ _ t531 _ _ t534 t537 t542 _ ?side1 ?side2 ?side3 ?side4 ?side5 ?side6 ?side7 ?side8 ?side9 ?side10 ?side11 ?side12 ?side13 ?side14 A19.out).mono ?_); (case side1 => exact cN (Kd.N_reads' HO518.out).2.2); (case side2 => exact (Kd.N_reads' HO518.out).2.1); (case side3 => exact cN (Kd.R_reads' HO521.out).2.2); (case side4 => exact (Kd.R_reads' HO521.out).2.1); (case side5 => exact cN (Kd.R_reads' HO524.out).2.2); (case side6 => exact (Kd.R_reads' HO524.out).2.1); (case side7 => exact cN (Kd.R_reads' HO527.out).2.2); (case side8 => exact (Kd.R_reads' HO527.out).2.1); (case side9 => exact cN (Kd.R_reads' HO530.out).2.2); (case side10 => exact (Kd.R_reads' HO530.out).2.1); (case side11 => exact cN (Kd.R_reads' HO533.out).2.2); (case side12 => exact (Kd.R_reads' HO533.out).2.1); (case side13 => exact cN (Kd.R_reads' HO536.out).2.2); (case side14 => exact (Kd.R_reads' HO536.out).2.1); rintro e w23 ⟨rfl, hb⟩; have n0_ := m_ (Kd.N_below (by (with_reducible repeat (first | apply Kd.N_alloc | apply Kd.N_drewN | apply Kd.N_drew)); exact HO518.out) hb); have n1_ := m_ (Kd.R_below (rN HO521.out) hb); have n2_ := m_ (Kd.R_below (rN HO524.out) hb); have n3_ := m_ (Kd.R_below (rN HO527.out) hb); have n4_ := m_ (Kd.R_below (rN HO530.out) hb); have n5_ := m_ (Kd.R_below (rN HO533.out) hb); have n6_ := m_ (Kd.R_below (rN HO536.out) hb); have n7_ := m_ (blk_below (kN BK539.out) hb); have n8_ := m_ (below_step (bN HB.out) hb); clear HO518 HO521 HO524 HO527 HO530 HO533 HO536 BK539 HB; have HO518 := n0_; have HO521 := n1_; have HO524 := n2_; have HO527 := n3_; have HO530 := n4_; have HO533 := n5_; have HO536 := n6_; have BK539 := n7_; have HB := n8_; clear n0_ n1_ n2_ n3_ n4_ n5_ n6_ n7_ n8_; (try clear hb); (try clear hb2); (try clear hk); (try clear hi)))
    go_meet
    case rel => exact ⟨_, ((t542 != 0)), (by first | rfl | (simp; done) | (simp [*]; done)), H', ⟨by first | omega | exact Nat.le_refl _⟩, ⟨by (with_reducible repeat (first | apply Kd.N_alloc | apply Kd.N_drewN | apply Kd.N_drew)); exact Kd.N_mono HO518.out (fun _ hk => ⟨hk.1.1, ⟨hk.1.2.1, ⟨hk.1.2.2.1, ⟨hk.1.2.2.2.1, ⟨hk.1.2.2.2.2.1, ⟨hk.1.2.2.2.2.2, hk.2⟩⟩⟩⟩⟩⟩)⟩, ⟨rN HO521.out⟩, ⟨rN HO524.out⟩, ⟨rN HO527.out⟩, ⟨rN HO530.out⟩, ⟨rN HO533.out⟩, ⟨rN HO536.out⟩, ⟨kN BK539.out⟩, ⟨(hB1 HB.out GE539.out)⟩⟩
   ·rw [if_neg c18] at H
    have c18b0 : (t540 == t541) = false := beq_eq_false_iff_ne.mpr c18
    have c18b1 : (t540 != t541) = true := bne_iff_ne.mpr c18
    (first | rw [c18b0] | (simp only [i64_w, i32_w]; rw [c18b0]) | skip)
    have H' := Aside0.mk H
    clear H
    obtain ⟨⟨hcz24_0, hcz24_1, hcz24_2, hcz24_3, hcz24_4, hcz24_5, hcz24_6, hcz24_7, hcz24_8, hcz24_9⟩, hfz24_0, hfz24_1, hfz24_2, hfz24_3, hfz24_4, hfz24_5, hfz24_6, hfz24_7, hfz24_8, hfz24_9⟩ := row10 BK539.out
    go_wp2_with (first | ((with_reducible refine gate_callee (f := 20) rfl ?_); refine goesL_ (some 21) rfl rfl Tryd.func20 (by kernel_rfl) rfl #[.agg #[.int .i64 t514, .int .i64 t515, .slice Ao9 t516.length co9, .slice Ao10 t519.length co10, .slice Ao11 t522.length co11, .slice Ao12 t525.length co12, .slice Ao13 t528.length co13, .slice Ao14 t531.length co14, .slice Ao15 t534.length co15, .int .i64 t537], .int .i64 t538] rfl gl_ ?_; (with_reducible refine (spec_ConfPart.calls k t514 t515 _ _ t516 _ _ t519 _ _ t522 _ _ t525 _ _ t528 _ _ t531 _ _ t534 t537 t538 t541 _ ?side1 ?side2 ?side3 ?side4 ?side5 ?side6 ?side7 ?side8 ?side9 ?side10 ?side11 ?side12 ?side13 ?side14 A17.out).mono ?_); (case side1 => exact cN (Kd.N_reads' HO518.out).2.2); (case side2 => exact (Kd.N_reads' HO518.out).2.1); (case side3 => exact cN (Kd.R_reads' HO521.out).2.2); (case side4 => exact (Kd.R_reads' HO521.out).2.1); (case side5 => exact cN (Kd.R_reads' HO524.out).2.2); (case side6 => exact (Kd.R_reads' HO524.out).2.1); (case side7 => exact cN (Kd.R_reads' HO527.out).2.2); (case side8 => exact (Kd.R_reads' HO527.out).2.1); (case side9 => exact cN (Kd.R_reads' HO530.out).2.2); (case side10 => exact (Kd.R_reads' HO530.out).2.1); (case side11 => exact cN (Kd.R_reads' HO533.out).2.2); (case side12 => exact (Kd.R_reads' HO533.out).2.1); (case side13 => exact cN (Kd.R_reads' HO536.out).2.2); (case side14 => exact (Kd.R_reads' HO536.out).2.1); rintro e w25 ⟨rfl, hb⟩; refine ⟨_, rfl, ?_⟩; have n0_ := m_ (Kd.N_below (by (with_reducible repeat (first | apply Kd.N_alloc | apply Kd.N_drewN | apply Kd.N_drew)); exact HO518.out) hb); have n1_ := m_ (Kd.R_below (rN HO521.out) hb); have n2_ := m_ (Kd.R_below (rN HO524.out) hb); have n3_ := m_ (Kd.R_below (rN HO527.out) hb); have n4_ := m_ (Kd.R_below (rN HO530.out) hb); have n5_ := m_ (Kd.R_below (rN HO533.out) hb); have n6_ := m_ (Kd.R_below (rN HO536.out) hb); have n7_ := m_ (blk_below (kN BK539.out) hb); have n8_ := m_ (below_step (bN HB.out) hb); clear HO518 HO521 HO524 HO527 HO530 HO533 HO536 BK539 HB; have HO518 := n0_; have HO521 := n1_; have HO524 := n2_; have HO527 := n3_; have HO530 := n4_; have HO533 := n5_; have HO536 := n6_; have BK539 := n7_; have HB := n8_; clear n0_ n1_ n2_ n3_ n4_ n5_ n6_ n7_ n8_; (try clear hb); (try clear hb2); (try clear hk); (try clear hi)))
    go_meet
    case rel => exact ⟨_, (true), (by first | rfl | (simp; done) | (simp [*]; done)), H', ⟨by first | omega | exact Nat.le_refl _⟩, ⟨by (with_reducible repeat (first | apply Kd.N_alloc | apply Kd.N_drewN | apply Kd.N_drew)); exact Kd.N_mono HO518.out (fun _ hk => ⟨hk.1.1, ⟨hk.1.2.1, ⟨hk.1.2.2.1, ⟨hk.1.2.2.2.1, ⟨hk.1.2.2.2.2.1, ⟨hk.1.2.2.2.2.2, hk.2⟩⟩⟩⟩⟩⟩)⟩, ⟨rN HO521.out⟩, ⟨rN HO524.out⟩, ⟨rN HO527.out⟩, ⟨rN HO530.out⟩, ⟨rN HO533.out⟩, ⟨rN HO536.out⟩, ⟨kN BK539.out⟩, ⟨(hB1 HB.out GE539.out)⟩⟩
  case rest =>
   clear HC5
   try clear c1
   try clear c2
   try clear c2b0
   try clear c2b1
   try clear p2
   try clear c5
   try clear c18
   try clear c18b0
   try clear c18b1
   try clear c19
   try clear c20
   obtain ⟨kq, x27_4, rfl, HA, HJ4, HO_540002, HO_540003, HO_540004, HO_540005, HO_540006, HO_540007, HO_540008, BK539, HB⟩ := hcut
   cases kq with
   | zero => exact absurd HA.out (by simp [laws_FnConfPart.j0])
   | succ kj4 =>
    have H := HA.out
    clear HA
    simp only [laws_FnConfPart.j0] at H
    by_cases c26 : x27_4 = true
    ·subst c26
     have H1 : ((spec_ConfPart.f kj4 t514 t515 t516 t519 t522 t525 t528 t531 t534 t537 t538).bind fun t543 => (some (t540 == t543))) = some r := by rw [if_pos rfl] at H; exact H
     clear H
     have H := H1
     clear H1
     replace H := Option.bind_eq_some_iff.mp H
     obtain ⟨t543, A270, H⟩ := H
     replace H : (some (t540 == t543)) = some r := H
     have A27 := Aside0.mk A270
     clear A270
     obtain rfl := Option.some.inj H
     obtain ⟨⟨hcz28_0, hcz28_1, hcz28_2, hcz28_3, hcz28_4, hcz28_5, hcz28_6, hcz28_7, hcz28_8, hcz28_9⟩, hfz28_0, hfz28_1, hfz28_2, hfz28_3, hfz28_4, hfz28_5, hfz28_6, hfz28_7, hfz28_8, hfz28_9⟩ := row10 BK539.out
     go_wp2_with (first | ((with_reducible refine gate_callee (f := 20) rfl ?_); refine goesL_ (some 31) rfl rfl Tryd.func20 (by kernel_rfl) rfl #[.agg #[.int .i64 t514, .int .i64 t515, .slice Ao9 t516.length co9, .slice Ao10 t519.length co10, .slice Ao11 t522.length co11, .slice Ao12 t525.length co12, .slice Ao13 t528.length co13, .slice Ao14 t531.length co14, .slice Ao15 t534.length co15, .int .i64 t537], .int .i64 t538] rfl gl_ ?_; (with_reducible refine (spec_ConfPart.calls kj4 t514 t515 _ _ t516 _ _ t519 _ _ t522 _ _ t525 _ _ t528 _ _ t531 _ _ t534 t537 t538 t543 _ ?side1 ?side2 ?side3 ?side4 ?side5 ?side6 ?side7 ?side8 ?side9 ?side10 ?side11 ?side12 ?side13 ?side14 A27.out).mono ?_); (case side1 => exact cN (Kd.N_reads' HO_540002.out).2.2); (case side2 => exact (Kd.N_reads' HO_540002.out).2.1); (case side3 => exact cN (Kd.R_reads' HO_540003.out).2.2); (case side4 => exact (Kd.R_reads' HO_540003.out).2.1); (case side5 => exact cN (Kd.R_reads' HO_540004.out).2.2); (case side6 => exact (Kd.R_reads' HO_540004.out).2.1); (case side7 => exact cN (Kd.R_reads' HO_540005.out).2.2); (case side8 => exact (Kd.R_reads' HO_540005.out).2.1); (case side9 => exact cN (Kd.R_reads' HO_540006.out).2.2); (case side10 => exact (Kd.R_reads' HO_540006.out).2.1); (case side11 => exact cN (Kd.R_reads' HO_540007.out).2.2); (case side12 => exact (Kd.R_reads' HO_540007.out).2.1); (case side13 => exact cN (Kd.R_reads' HO_540008.out).2.2); (case side14 => exact (Kd.R_reads' HO_540008.out).2.1); rintro e w29 ⟨rfl, hb⟩; refine ⟨_, rfl, ?_⟩; have n0_ := m_ (Kd.N_below (by (with_reducible repeat (first | apply Kd.N_alloc | apply Kd.N_drewN | apply Kd.N_drew)); exact HO_540002.out) hb); have n1_ := m_ (Kd.R_below (rN HO_540003.out) hb); have n2_ := m_ (Kd.R_below (rN HO_540004.out) hb); have n3_ := m_ (Kd.R_below (rN HO_540005.out) hb); have n4_ := m_ (Kd.R_below (rN HO_540006.out) hb); have n5_ := m_ (Kd.R_below (rN HO_540007.out) hb); have n6_ := m_ (Kd.R_below (rN HO_540008.out) hb); have n7_ := m_ (blk_below (kN BK539.out) hb); have n8_ := m_ (below_step (bN HB.out) hb); clear HO_540002 HO_540003 HO_540004 HO_540005 HO_540006 HO_540007 HO_540008 BK539 HB; have HO_540002 := n0_; have HO_540003 := n1_; have HO_540004 := n2_; have HO_540005 := n3_; have HO_540006 := n4_; have HO_540007 := n5_; have HO_540008 := n6_; have BK539 := n7_; have HB := n8_; clear n0_ n1_ n2_ n3_ n4_ n5_ n6_ n7_ n8_; (try clear hb); (try clear hb2); (try clear hk); (try clear hi)))
     go_ret
     exact ⟨rf_, (hB1 HB.out GE539.out)⟩
    ·replace c26 := Bool.eq_false_iff.mpr c26
     subst c26
     have H1 : (laws_FnConfPart.l0 kj4 t538 t540 0 t514 t515 t516 t519 t522 t525 t528 t531 t534 t537) = some r := by rw [if_neg (show ¬ (false = true) by decide)] at H; exact H
     clear H
     have H := H1
     clear H1
     have H' := Aside0.mk H
     clear H
     go_wp2
     go_loopg [6] kj4 (fun kq v6 w' => ∃ (x6_2 : Int), v6 = .int .i64 x6_2 ∧ Aside0 (laws_FnConfPart.l0 kq t538 t540 x6_2 t514 t515 t516 t519 t522 t525 t528 t531 t534 t537 = some r) ∧ Aside0 (kq ≤ kj4) ∧ Aside0 (Kd.N (Kd.slice 107 k107) 75 w' w.heap.size (fun k_ => some k_ ≠ ((.slice Ao10 t519.length co10) : Value).ownBlock ∧ some k_ ≠ ((.slice Ao11 t522.length co11) : Value).ownBlock ∧ some k_ ≠ ((.slice Ao12 t525.length co12) : Value).ownBlock ∧ some k_ ≠ ((.slice Ao13 t528.length co13) : Value).ownBlock ∧ some k_ ≠ ((.slice Ao14 t531.length co14) : Value).ownBlock ∧ some k_ ≠ ((.slice Ao15 t534.length co15) : Value).ownBlock ∧ k_ ≠ gb539) (.slice Ao9 t516.length co9) t516) ∧ Aside0 (Kd.R (Kd.int .i64) 3 w' w.heap.size (fun k_ => some k_ ≠ ((.slice Ao11 t522.length co11) : Value).ownBlock ∧ some k_ ≠ ((.slice Ao12 t525.length co12) : Value).ownBlock ∧ some k_ ≠ ((.slice Ao13 t528.length co13) : Value).ownBlock ∧ some k_ ≠ ((.slice Ao14 t531.length co14) : Value).ownBlock) (.slice Ao10 t519.length co10) t519) ∧ Aside0 (Kd.R (Kd.int .i64) 3 w' w.heap.size (fun k_ => some k_ ≠ ((.slice Ao10 t519.length co10) : Value).ownBlock ∧ some k_ ≠ ((.slice Ao12 t525.length co12) : Value).ownBlock ∧ some k_ ≠ ((.slice Ao13 t528.length co13) : Value).ownBlock ∧ some k_ ≠ ((.slice Ao14 t531.length co14) : Value).ownBlock) (.slice Ao11 t522.length co11) t522) ∧ Aside0 (Kd.R (Kd.int .i64) 3 w' w.heap.size (fun k_ => some k_ ≠ ((.slice Ao10 t519.length co10) : Value).ownBlock ∧ some k_ ≠ ((.slice Ao11 t522.length co11) : Value).ownBlock ∧ some k_ ≠ ((.slice Ao13 t528.length co13) : Value).ownBlock ∧ some k_ ≠ ((.slice Ao14 t531.length co14) : Value).ownBlock) (.slice Ao12 t525.length co12) t525) ∧ Aside0 (Kd.R (Kd.int .i64) 3 w' w.heap.size (fun k_ => some k_ ≠ ((.slice Ao10 t519.length co10) : Value).ownBlock ∧ some k_ ≠ ((.slice Ao11 t522.length co11) : Value).ownBlock ∧ some k_ ≠ ((.slice Ao12 t525.length co12) : Value).ownBlock ∧ some k_ ≠ ((.slice Ao14 t531.length co14) : Value).ownBlock) (.slice Ao13 t528.length co13) t528) ∧ Aside0 (Kd.R (Kd.int .i64) 3 w' w.heap.size (fun k_ => some k_ ≠ ((.slice Ao10 t519.length co10) : Value).ownBlock ∧ some k_ ≠ ((.slice Ao11 t522.length co11) : Value).ownBlock ∧ some k_ ≠ ((.slice Ao12 t525.length co12) : Value).ownBlock ∧ some k_ ≠ ((.slice Ao13 t528.length co13) : Value).ownBlock) (.slice Ao14 t531.length co14) t531) ∧ Aside0 (Kd.R k78 78 w' w.heap.size (fun _ => True) (.slice Ao15 t534.length co15) t534) ∧ Aside0 (w'.heap[gb539]? = some (.cells #[.int .i64 t514, .int .i64 t515, (.slice Ao9 t516.length co9), (.slice Ao10 t519.length co10), (.slice Ao11 t522.length co11), (.slice Ao12 t525.length co12), (.slice Ao13 t528.length co13), (.slice Ao14 t531.length co14), (.slice Ao15 t534.length co15), .int .i64 t537] 32 (0, 0))) ∧ Aside0 (Below w.heap.size w w'))
     case atStart => exact ⟨(0), (by first | rfl | (simp; done) | (simp [*]; done)), H', ⟨Nat.le_refl _⟩, ⟨by (with_reducible repeat (first | apply Kd.N_alloc | apply Kd.N_drewN | apply Kd.N_drew)); exact HO_540002.out⟩, ⟨rN HO_540003.out⟩, ⟨rN HO_540004.out⟩, ⟨rN HO_540005.out⟩, ⟨rN HO_540006.out⟩, ⟨rN HO_540007.out⟩, ⟨rN HO_540008.out⟩, ⟨kN BK539.out⟩, ⟨(hB1 HB.out GE539.out)⟩⟩
     case round =>
      clear H'
      try clear c1
      try clear c2
      try clear c2b0
      try clear c2b1
      try clear p2
      try clear c5
      try clear c18
      try clear c18b0
      try clear c18b1
      try clear c19
      try clear c20
      try clear c26
      try clear p2
      obtain ⟨x6_2, rfl, HA, HK2, HO_540002, HO_540003, HO_540004, HO_540005, HO_540006, HO_540007, HO_540008, BK539, HB⟩ := hrel
      cases gk with
      | zero => exact absurd HA.out (by simp [laws_FnConfPart.l0])
      | succ k2 =>
       have H := HA.out
       clear HA
       simp only [laws_FnConfPart.l0] at H
       by_cases c30 : x6_2 < (t519.length : Int)
       ·rw [if_pos c30] at H
        have c30b0 : decide (x6_2 < (t519.length : Int)) = true := decide_eq_true c30
        clear c30
        by_cases c31 : 0 ≤ x6_2
        ·rw [if_pos c31] at H
         have c31b0 : decide (0 ≤ x6_2) = true := decide_eq_true c31
         clear c31
         replace H := Option.bind_eq_some_iff.mp H
         obtain ⟨t545, A320, H⟩ := H
         replace H : (if t545 = x6_2 then (laws_FnConfPart.l0 k2 t538 t540 (wrap64 (x6_2 + 1)) t514 t515 t516 t519 t522 t525 t528 t531 t534 t537) else (none)) = some r := H
         have A32 := Aside0.mk A320
         clear A320
         by_cases c33 : t545 = x6_2
         ·rw [if_pos c33] at H
          have c33b0 : (t545 == x6_2) = true := beq_iff_eq.mpr c33
          have c33b1 : (t545 != x6_2) = false := bne_eq_false_iff_eq.mpr c33
          clear c33
          have H' := Aside0.mk H
          clear H
          obtain ⟨⟨hcz34_0, hcz34_1, hcz34_2, hcz34_3, hcz34_4, hcz34_5, hcz34_6, hcz34_7, hcz34_8, hcz34_9⟩, hfz34_0, hfz34_1, hfz34_2, hfz34_3, hfz34_4, hfz34_5, hfz34_6, hfz34_7, hfz34_8, hfz34_9⟩ := row10 BK539.out
          try go_wp2
          have n0_ := m_ (Kd.N_drew HO_540002.out)
          have n1_ := m_ (Kd.R_drew HO_540003.out)
          have n2_ := m_ (Kd.R_drew HO_540004.out)
          have n3_ := m_ (Kd.R_drew HO_540005.out)
          have n4_ := m_ (Kd.R_drew HO_540006.out)
          have n5_ := m_ (Kd.R_drew HO_540007.out)
          have n6_ := m_ (Kd.R_drew HO_540008.out)
          have n7_ := m_ (blk_drew BK539.out)
          have n8_ := m_ (below_drew1 HB.out)
          clear HO_540002 HO_540003 HO_540004 HO_540005 HO_540006 HO_540007 HO_540008 BK539 HB
          have HO_540002 := n0_; have HO_540003 := n1_
          have HO_540004 := n2_; have HO_540005 := n3_
          have HO_540006 := n4_; have HO_540007 := n5_
          have HO_540008 := n6_; have BK539 := n7_; have HB := n8_
          clear n0_ n1_ n2_ n3_ n4_ n5_ n6_ n7_ n8_
          have p544 : 0 ≤ (x6_2 : Int) := of_decide_eq_true (by first | (with_reducible assumption) | assumption)
          have q544 : x6_2 < (t519.length : Int) := of_decide_eq_true (by first | (with_reducible assumption) | assumption)
          obtain ⟨ad544, e544, hx544_0⟩ := Kd.at_int (Kd.R_reads' HO_540003.out).2.2 x6_2 p544 q544
          cases e544
          replace p544 := eq_true p544
          replace q544 := eq_true q544
          refine start_ (n := 9) (S := fun w' => w'.cell? ⟨gb539, 0, none⟩ = some (.int .i64 t514) ∧ w'.cell? ⟨gb539, 1, none⟩ = some (.int .i64 t515) ∧ w'.cell? ⟨gb539, 2, none⟩ = some (.slice Ao9 t516.length co9) ∧ w'.cell? ⟨gb539, 3, none⟩ = some (.slice (some ad544) t519.length co10) ∧ w'.cell? ⟨gb539, 4, none⟩ = some (.slice Ao11 t522.length co11) ∧ w'.cell? ⟨gb539, 5, none⟩ = some (.slice Ao12 t525.length co12) ∧ w'.cell? ⟨gb539, 6, none⟩ = some (.slice Ao13 t528.length co13) ∧ w'.cell? ⟨gb539, 7, none⟩ = some (.slice Ao14 t531.length co14) ∧ w'.cell? ⟨gb539, 8, none⟩ = some (.slice Ao15 t534.length co15) ∧ w'.cell? ⟨gb539, 9, none⟩ = some (.int .i64 t537) ∧ w'.cell? (ad544.add (x6_2).toNat) = some (.int .i64 (rd t519 x6_2))) (ds := []) #[false, false, false, false, false, false, false, false, false] (by kernel_rfl) rfl rfl ⟨bc BK539 0, bc BK539 1, bc BK539 2, bc BK539 3, bc BK539 4, bc BK539 5, bc BK539 6, bc BK539 7, bc BK539 8, bc BK539 9, hx544_0⟩ (fun hHeld => ?_); refine with_tabW laws_FnConfPart.tab10 laws_FnConfPart.bits10 (fun HT_ HW_ => ?_)
          generalize wr.drew = w35 at HO_540002 HO_540003 HO_540004 HO_540005 HO_540006 HO_540007 HO_540008 BK539 HB hx544_0 hHeld ⊢
          refine pu 1 41 HT_ (h := ?_)
          refine pu 3 43 HT_ (h := ?_)
          refine pu 7 47 HT_ (h := ?_)
          refine take_ (i := 0) (N := some 40) (v := ?_) (a' := ?_) #[true, true, false, true, false, false, false, true, false] rfl rfl (take_ofW HT_.out HW_.out (by kernel_rfl)) (fun _ _ _ h => h) (Or.inl ⟨by rfl, ?_⟩) hHeld ?_ ?_
          rotate_left
          ·rintro w' ⟨s0, s1, s2, s3, s4, s5, s6, s7, s8, s9, s10⟩
           go_simp
           with_reducible rfl
          rotate_left
          ·simp only [Act.put, List.setIfInBounds_toArray, List.set_cons_zero, List.set_cons_succ, i64_w, i32_w]
           rfl
          refine take_ (i := 2) (N := some 42) (v := ?_) (a' := ?_) #[true, true, true, true, false, false, false, true, false] rfl rfl (take_ofW HT_.out HW_.out (by kernel_rfl)) (fun _ _ _ h => h) (Or.inl ⟨by rfl, ?_⟩) hHeld ?_ ?_
          rotate_left
          ·rintro w' ⟨s0, s1, s2, s3, s4, s5, s6, s7, s8, s9, s10⟩
           go_simp
           with_reducible rfl
          rotate_left
          ·simp only [Act.put, List.setIfInBounds_toArray, List.set_cons_zero, List.set_cons_succ, i64_w, i32_w]
           rfl
          refine pu 4 44 HT_ (h := ?_)
          refine take_ (i := 5) (N := some 45) (v := ?_) (a' := ?_) #[true, true, true, true, true, true, false, true, false] rfl rfl (take_ofW HT_.out HW_.out (by kernel_rfl)) (fun _ _ _ h => h) (Or.inl ⟨by rfl, ?_⟩) hHeld ?_ ?_
          rotate_left
          ·rintro w' ⟨s0, s1, s2, s3, s4, s5, s6, s7, s8, s9, s10⟩
           go_simp
           with_reducible rfl
          rotate_left
          ·simp only [Act.put, List.setIfInBounds_toArray, List.set_cons_zero, List.set_cons_succ, i64_w, i32_w]
           rfl
          refine one_ (i := 6) (N := some 46) #[true, true, true, true, true, true, true, true, false] rfl rfl (one_of HT_.out (by kernel_rfl)) (by decide) (fun K hK => ?_)
          refine goes_ Tryd.func19 (by kernel_rfl) rfl #[.agg #[.int .i64 t514, .int .i64 t515, .slice Ao9 t516.length co9, .slice (some ad544) t519.length co10, .slice Ao11 t522.length co11, .slice Ao12 t525.length co12, .slice Ao13 t528.length co13, .slice Ao14 t531.length co14, .slice Ao15 t534.length co15, .int .i64 t537], .int .i64 (rd t519 x6_2)] (by rfl) rfl rfl gl_ ?_
          with_reducible refine (impl_ConfPart.calls k2 t514 t515 _ _ t516 _ _ t519 _ _ t522 _ _ t525 _ _ t528 _ _ t531 _ _ t534 t537 (rd t519 x6_2) t545 _ ?side1 ?side2 ?side3 ?side4 ?side5 ?side6 ?side7 ?side8 ?side9 ?side10 ?side11 ?side12 ?side13 ?side14 A32.out ?sideG).mono ?_
          (case sideG => exact GErr.below (bN HB.out) HG0.out)
          (case side1 => exact cN (Kd.N_reads' HO_540002.out).2.2)
          (case side2 => exact (Kd.N_reads' HO_540002.out).2.1)
          (case side3 => exact cN (Kd.R_reads' HO_540003.out).2.2)
          (case side4 => exact (Kd.R_reads' HO_540003.out).2.1)
          (case side5 => exact cN (Kd.R_reads' HO_540004.out).2.2)
          (case side6 => exact (Kd.R_reads' HO_540004.out).2.1)
          (case side7 => exact cN (Kd.R_reads' HO_540005.out).2.2)
          (case side8 => exact (Kd.R_reads' HO_540005.out).2.1)
          (case side9 => exact cN (Kd.R_reads' HO_540006.out).2.2)
          (case side10 => exact (Kd.R_reads' HO_540006.out).2.1)
          (case side11 => exact cN (Kd.R_reads' HO_540007.out).2.2)
          (case side12 => exact (Kd.R_reads' HO_540007.out).2.1)
          (case side13 => exact cN (Kd.R_reads' HO_540008.out).2.2)
          (case side14 => exact (Kd.R_reads' HO_540008.out).2.1)
          rintro e w36 ⟨rfl, hb⟩
          have HS10_ := (hb.cell (World.block_lt_of_cell? _ _ (hHeld.2.2.2.2.2.2.2.2.2.2))).trans (hHeld.2.2.2.2.2.2.2.2.2.2)
          refine ⟨_, rfl, ?_⟩
          have n0_ := m_ (Kd.N_below (by (with_reducible repeat (first | apply Kd.N_alloc | apply Kd.N_drewN | apply Kd.N_drew)); exact HO_540002.out) hb)
          have n1_ := m_ (Kd.R_below (rN HO_540003.out) hb)
          have n2_ := m_ (Kd.R_below (rN HO_540004.out) hb)
          have n3_ := m_ (Kd.R_below (rN HO_540005.out) hb)
          have n4_ := m_ (Kd.R_below (rN HO_540006.out) hb)
          have n5_ := m_ (Kd.R_below (rN HO_540007.out) hb)
          have n6_ := m_ (Kd.R_below (rN HO_540008.out) hb)
          have n7_ := m_ (blk_below (kN BK539.out) hb)
          have n8_ := m_ (below_step (bN HB.out) hb)
          clear HO_540002 HO_540003 HO_540004 HO_540005 HO_540006 HO_540007 HO_540008 BK539 HB
          have HO_540002 := n0_; have HO_540003 := n1_
          have HO_540004 := n2_; have HO_540005 := n3_
          have HO_540006 := n4_; have HO_540007 := n5_
          have HO_540008 := n6_; have BK539 := n7_; have HB := n8_
          clear n0_ n1_ n2_ n3_ n4_ n5_ n6_ n7_ n8_
          (try clear hb)
          (try clear hb2)
          (try clear hk)
          (try clear hi)
          refine hK.out _ _ ⟨bc BK539 0, bc BK539 1, bc BK539 2, bc BK539 3, bc BK539 4, bc BK539 5, bc BK539 6, bc BK539 7, bc BK539 8, bc BK539 9, HS10_⟩ (fun hHeld => ?_)
          clear hK K
          refine np (h := ?_)
          refine pu 8 48 HT_ (h := ?_)
          refine done_ (done_of HT_.out (by kernel_rfl)) ?_
          try go_wp2
          go_roundg k2
          case measure => have := HJ4.out; have := HK2.out; omega
          case rel => exact ⟨(wrap64 (x6_2 + 1)), (by first | rfl | (simp; done) | (simp [*]; done)), H', ⟨by have := HJ4.out; have := HK2.out; omega⟩, ⟨by (with_reducible repeat (first | apply Kd.N_alloc | apply Kd.N_drewN | apply Kd.N_drew)); exact HO_540002.out⟩, ⟨rN HO_540003.out⟩, ⟨rN HO_540004.out⟩, ⟨rN HO_540005.out⟩, ⟨rN HO_540006.out⟩, ⟨rN HO_540007.out⟩, ⟨rN HO_540008.out⟩, ⟨kN BK539.out⟩, ⟨(hB1 HB.out GE539.out)⟩⟩
         ·rw [if_neg c33] at H
          exact absurd H (by simp)
        ·rw [if_neg c31] at H
         exact absurd H (by simp)
       ·rw [if_neg c30] at H
        have c30b0 : decide (x6_2 < (t519.length : Int)) = false := decide_eq_false c30
        clear c30
        replace H := Option.bind_eq_some_iff.mp H
        obtain ⟨t546, A400, H⟩ := H
        replace H : (if t546 = (-1) then (if t540 = (-1) then (some true) else (if 0 ≤ t540 then (if t540 < (t519.length : Int) then (some ((rd t519 t540) == t538)) else (none)) else (none))) else (none)) = some r := H
        have A40 := Aside0.mk A400
        clear A400
        by_cases c41 : t546 = (-1)
        ·rw [if_pos c41] at H
         have c41b0 : (t546 == (-1)) = true := beq_iff_eq.mpr c41
         have c41b1 : (t546 != (-1)) = false := bne_eq_false_iff_eq.mpr c41
         clear c41
         by_cases c42 : t540 = (-1)
         ·rw [if_pos c42] at H
          have c42b0 : (t540 == (-1)) = true := beq_iff_eq.mpr c42
          have c42b1 : (t540 != (-1)) = false := bne_eq_false_iff_eq.mpr c42
          clear c42
          obtain rfl := Option.some.inj H
          obtain ⟨⟨hcz43_0, hcz43_1, hcz43_2, hcz43_3, hcz43_4, hcz43_5, hcz43_6, hcz43_7, hcz43_8, hcz43_9⟩, hfz43_0, hfz43_1, hfz43_2, hfz43_3, hfz43_4, hfz43_5, hfz43_6, hfz43_7, hfz43_8, hfz43_9⟩ := row10 BK539.out
          go_wp2_with (first | ((with_reducible refine gate_callee (f := 19) rfl ?_); refine goesL_ (some 50) rfl rfl Tryd.func19 (by kernel_rfl) rfl #[.agg #[.int .i64 t514, .int .i64 t515, .slice Ao9 t516.length co9, .slice Ao10 t519.length co10, .slice Ao11 t522.length co11, .slice Ao12 t525.length co12, .slice Ao13 t528.length co13, .slice Ao14 t531.length co14, .slice Ao15 t534.length co15, .int .i64 t537], .int .i64 0] rfl gl_ ?_; (with_reducible refine (impl_ConfPart.calls k2 t514 t515 _ _ t516 _ _ t519 _ _ t522 _ _ t525 _ _ t528 _ _ t531 _ _ t534 t537 0 t546 _ ?side1 ?side2 ?side3 ?side4 ?side5 ?side6 ?side7 ?side8 ?side9 ?side10 ?side11 ?side12 ?side13 ?side14 A40.out ?sideG).mono ?_); (case sideG => exact GErr.below (bN HB.out) HG0.out); (case side1 => exact cN (Kd.N_reads' HO_540002.out).2.2); (case side2 => exact (Kd.N_reads' HO_540002.out).2.1); (case side3 => exact cN (Kd.R_reads' HO_540003.out).2.2); (case side4 => exact (Kd.R_reads' HO_540003.out).2.1); (case side5 => exact cN (Kd.R_reads' HO_540004.out).2.2); (case side6 => exact (Kd.R_reads' HO_540004.out).2.1); (case side7 => exact cN (Kd.R_reads' HO_540005.out).2.2); (case side8 => exact (Kd.R_reads' HO_540005.out).2.1); (case side9 => exact cN (Kd.R_reads' HO_540006.out).2.2); (case side10 => exact (Kd.R_reads' HO_540006.out).2.1); (case side11 => exact cN (Kd.R_reads' HO_540007.out).2.2); (case side12 => exact (Kd.R_reads' HO_540007.out).2.1); (case side13 => exact cN (Kd.R_reads' HO_540008.out).2.2); (case side14 => exact (Kd.R_reads' HO_540008.out).2.1); rintro e w44 ⟨rfl, hb⟩; refine ⟨_, rfl, ?_⟩; have n0_ := m_ (Kd.N_below (by (with_reducible repeat (first | apply Kd.N_alloc | apply Kd.N_drewN | apply Kd.N_drew)); exact HO_540002.out) hb); have n1_ := m_ (Kd.R_below (rN HO_540003.out) hb); have n2_ := m_ (Kd.R_below (rN HO_540004.out) hb); have n3_ := m_ (Kd.R_below (rN HO_540005.out) hb); have n4_ := m_ (Kd.R_below (rN HO_540006.out) hb); have n5_ := m_ (Kd.R_below (rN HO_540007.out) hb); have n6_ := m_ (Kd.R_below (rN HO_540008.out) hb); have n7_ := m_ (blk_below (kN BK539.out) hb); have n8_ := m_ (below_step (bN HB.out) hb); clear HO_540002 HO_540003 HO_540004 HO_540005 HO_540006 HO_540007 HO_540008 BK539 HB; have HO_540002 := n0_; have HO_540003 := n1_; have HO_540004 := n2_; have HO_540005 := n3_; have HO_540006 := n4_; have HO_540007 := n5_; have HO_540008 := n6_; have BK539 := n7_; have HB := n8_; clear n0_ n1_ n2_ n3_ n4_ n5_ n6_ n7_ n8_; (try clear hb); (try clear hb2); (try clear hk); (try clear hi)))
          go_ret
          exact ⟨rf_, (hB1 HB.out GE539.out)⟩
         ·rw [if_neg c42] at H
          have c42b0 : (t540 == (-1)) = false := beq_eq_false_iff_ne.mpr c42
          have c42b1 : (t540 != (-1)) = true := bne_iff_ne.mpr c42
          by_cases c45 : 0 ≤ t540
          ·rw [if_pos c45] at H
           have c45b0 : decide (0 ≤ t540) = true := decide_eq_true c45
           clear c45
           by_cases c46 : t540 < (t519.length : Int)
           ·rw [if_pos c46] at H
            have c46b0 : decide (t540 < (t519.length : Int)) = true := decide_eq_true c46
            clear c46
            obtain rfl := Option.some.inj H
            obtain ⟨⟨hcz47_0, hcz47_1, hcz47_2, hcz47_3, hcz47_4, hcz47_5, hcz47_6, hcz47_7, hcz47_8, hcz47_9⟩, hfz47_0, hfz47_1, hfz47_2, hfz47_3, hfz47_4, hfz47_5, hfz47_6, hfz47_7, hfz47_8, hfz47_9⟩ := row10 BK539.out
            go_wp2_with (first | ((with_reducible refine gate_callee (f := 19) rfl ?_); refine goesL_ (some 50) rfl rfl Tryd.func19 (by kernel_rfl) rfl #[.agg #[.int .i64 t514, .int .i64 t515, .slice Ao9 t516.length co9, .slice Ao10 t519.length co10, .slice Ao11 t522.length co11, .slice Ao12 t525.length co12, .slice Ao13 t528.length co13, .slice Ao14 t531.length co14, .slice Ao15 t534.length co15, .int .i64 t537], .int .i64 0] rfl gl_ ?_; (with_reducible refine (impl_ConfPart.calls k2 t514 t515 _ _ t516 _ _ t519 _ _ t522 _ _ t525 _ _ t528 _ _ t531 _ _ t534 t537 0 t546 _ ?side1 ?side2 ?side3 ?side4 ?side5 ?side6 ?side7 ?side8 ?side9 ?side10 ?side11 ?side12 ?side13 ?side14 A40.out ?sideG).mono ?_); (case sideG => exact GErr.below (bN HB.out) HG0.out); (case side1 => exact cN (Kd.N_reads' HO_540002.out).2.2); (case side2 => exact (Kd.N_reads' HO_540002.out).2.1); (case side3 => exact cN (Kd.R_reads' HO_540003.out).2.2); (case side4 => exact (Kd.R_reads' HO_540003.out).2.1); (case side5 => exact cN (Kd.R_reads' HO_540004.out).2.2); (case side6 => exact (Kd.R_reads' HO_540004.out).2.1); (case side7 => exact cN (Kd.R_reads' HO_540005.out).2.2); (case side8 => exact (Kd.R_reads' HO_540005.out).2.1); (case side9 => exact cN (Kd.R_reads' HO_540006.out).2.2); (case side10 => exact (Kd.R_reads' HO_540006.out).2.1); (case side11 => exact cN (Kd.R_reads' HO_540007.out).2.2); (case side12 => exact (Kd.R_reads' HO_540007.out).2.1); (case side13 => exact cN (Kd.R_reads' HO_540008.out).2.2); (case side14 => exact (Kd.R_reads' HO_540008.out).2.1); rintro e w48 ⟨rfl, hb⟩; refine ⟨_, rfl, ?_⟩; have n0_ := m_ (Kd.N_below (by (with_reducible repeat (first | apply Kd.N_alloc | apply Kd.N_drewN | apply Kd.N_drew)); exact HO_540002.out) hb); have n1_ := m_ (Kd.R_below (rN HO_540003.out) hb); have n2_ := m_ (Kd.R_below (rN HO_540004.out) hb); have n3_ := m_ (Kd.R_below (rN HO_540005.out) hb); have n4_ := m_ (Kd.R_below (rN HO_540006.out) hb); have n5_ := m_ (Kd.R_below (rN HO_540007.out) hb); have n6_ := m_ (Kd.R_below (rN HO_540008.out) hb); have n7_ := m_ (blk_below (kN BK539.out) hb); have n8_ := m_ (below_step (bN HB.out) hb); clear HO_540002 HO_540003 HO_540004 HO_540005 HO_540006 HO_540007 HO_540008 BK539 HB; have HO_540002 := n0_; have HO_540003 := n1_; have HO_540004 := n2_; have HO_540005 := n3_; have HO_540006 := n4_; have HO_540007 := n5_; have HO_540008 := n6_; have BK539 := n7_; have HB := n8_; clear n0_ n1_ n2_ n3_ n4_ n5_ n6_ n7_ n8_; (try clear hb); (try clear hb2); (try clear hk); (try clear hi); obtain ⟨⟨hcz49_0, hcz49_1, hcz49_2, hcz49_3, hcz49_4, hcz49_5, hcz49_6, hcz49_7, hcz49_8, hcz49_9⟩, hfz49_0, hfz49_1, hfz49_2, hfz49_3, hfz49_4, hfz49_5, hfz49_6, hfz49_7, hfz49_8, hfz49_9⟩ := row10 BK539.out; have p547 : 0 ≤ (t540 : Int) := of_decide_eq_true (by first | (with_reducible assumption) | assumption); have q547 : t540 < (t519.length : Int) := of_decide_eq_true (by first | (with_reducible assumption) | assumption); obtain ⟨ad547, e547, hx547_0⟩ := Kd.at_int (Kd.R_reads' HO_540003.out).2.2 t540 p547 q547; cases e547; replace p547 := eq_true p547; replace q547 := eq_true q547))
            go_ret
            exact ⟨rf_, (hB1 HB.out GE539.out)⟩
           ·rw [if_neg c46] at H
            exact absurd H (by simp)
          ·rw [if_neg c45] at H
           exact absurd H (by simp)
        ·rw [if_neg c41] at H
         exact absurd H (by simp)

/-- THE ONE PURE STATEMENT of laws_FnConfPart: yours. -/
def laws_FnConfPart.Pure : Prop := ∀ (l0 : List Int), l0.length ≤ maxLen → l0.length * 1 ≤ 140737488351232 → (∀ x ∈ l0, (Lit.int .u8 x).wf = true) → ∃ k, laws_FnConfPart.f k l0 = some true
theorem laws_FnConfPart.walk (P : laws_FnConfPart.Pure) (a0 : Option Addr) (len0 cap0 : Nat) (z0 : List Int) (w : World) (w0 : (a0 = none ∧ len0 = 0 ∧ cap0 = 0 ∧ z0 = []) ∨ ∃ x, a0 = some x ∧ len0 ≤ cap0 ∧ cap0 ≤ maxLen ∧ z0.length = cap0 ∧ (∀ i, i < z0.length → w.cell? (x.add i) = some (.int .u8 (z0.getD i 0))) ∧ ∀ n ∈ z0, (Lit.int .u8 n).wf = true) (y0 : len0 * 1 ≤ 140737488351232) (hG : GErr w) :
  Calls Tryd.prog 5 #[.slice a0 len0 cap0] w fun e w' => e = .returned (.bool true) ∧ Below w.heap.size w w' := by
 obtain ⟨l0, rfl, hr0, hm0, hw0, hc0⟩ := ReadsInt.ofRowC w0
 obtain ⟨k, h⟩ := P l0 hm0 y0 hw0
 refine (laws_FnConfPart.calls k _ _ l0 true w (Kd.C_of_reads (d := (0 : Int)) (h1 := fun _ => rfl) hr0) hc0 h hG).mono ?_
 rintro e w' ⟨rfl, hd⟩
 exact ⟨rfl, hd⟩

end Go.Proofs.YtcenmlpfbpogoaaDoor.P
