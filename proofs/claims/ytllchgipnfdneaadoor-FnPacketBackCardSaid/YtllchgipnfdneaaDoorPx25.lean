/- The machine side of these statements, function by function: what each Go function answers (as a Lean function), and that it does. Written by a program (mp.py) for this claim. -/
import Derived.Test.YtllchgipnfdneaaDoorPx0
import Derived.Test.YtllchgipnfdneaaDoorPx1
import Derived.Test.YtllchgipnfdneaaDoorPx6
import Derived.Test.YtllchgipnfdneaaDoorPx7
import Derived.Test.YtllchgipnfdneaaDoorPx8
import Derived.Test.YtllchgipnfdneaaDoorPx24
namespace Go.Proofs.YtllchgipnfdneaaDoor.P
open Go.RowKit Go.Proofs.YtllchgipnfdneaaDoorW.PrintWords Go.Proofs.YtllchgipnfdneaaDoorW.PrintLast Go.Proofs.YtllchgipnfdneaaDoorW.PrintMore
attribute [local go_sem] max2_int min2_int max_two min_two max_three min_three max_four min_four   -- for this text's walks alone
set_option linter.unusedVariables false
set_option linter.unusedSimpArgs false

attribute [local go_sem high] eqA23
/-! ### laws_FnPacketBack: function 4 -/
mutual
def laws_FnPacketBack.j0 : Nat → List Int → List Int → Bool → Option (Bool)
 | 0, _, _, _ => none
 | k + 1, x0, x1, x22 => if x22 = true then (some true) else ((spec_DrawPacketPut.f k x0).bind fun bt299 => ((impl_PacketPut.f k bt299.1 bt299.2.1 bt299.2.2.1 bt299.2.2.2).bind fun t304 => ((spec_PacketPut.f k bt299.1 bt299.2.1 bt299.2.2.1 bt299.2.2.2).bind fun t305 => (if t304.toList = t305.toList then (if t304.toList = ([] : List UInt8) then (laws_FnPacketBack.j1 k x1) else (if 2 + t304.size ≤ 9223372036854775807 then (if 2 + t304.size + 2 ≤ 9223372036854775807 then ((impl_PacketGet.f k (((⟨#[97, 98]⟩ : ByteArray) ++ t304) ++ (⟨#[99, 100]⟩ : ByteArray)) 2).bind fun bt306 => (if (!(bt306.1 == bt299.1) || (!(bt306.2.1 == bt299.2.1) || (!(bt306.2.2.1 == bt299.2.2.1) || (!(bt306.2.2.2.1.toList == bt299.2.2.2.toList))))) = true then (some false) else (if bt306.2.2.2.2 = (t304.size : Int) then (laws_FnPacketBack.j1 k x1) else (some false)))) else (none)) else (none))) else (some false)))))
def laws_FnPacketBack.j1 : Nat → List Int → Option (Bool)
 | 0, _ => none
 | k + 1, x1 => (spec_DrawPacketGet.f k x1).bind fun bt312 => ((impl_PacketGet.f k bt312.1 bt312.2).bind fun bt314 => ((spec_PacketGet.f k bt312.1 bt312.2).bind fun bt320 => (if (bt314.1 == bt320.1 && (bt314.2.1 == bt320.2.1 && (bt314.2.2.1 == bt320.2.2.1 && (bt314.2.2.2.1.toList == bt320.2.2.2.1.toList)))) = true then (if bt314.2.2.2.2 = bt320.2.2.2.2 then (if bt314.2.2.2.2 = 0 then (some true) else ((impl_PacketPut.f k bt314.1 bt314.2.1 bt314.2.2.1 bt314.2.2.2.1).bind fun t326 => (if 0 ≤ bt312.2 then (if bt312.2 ≤ (wrap64 (bt312.2 + bt314.2.2.2.2)) then (if (wrap64 (bt312.2 + bt314.2.2.2.2)) ≤ (bt312.1.size : Int) then (some (t326.toList == (bt312.1.extract (bt312.2 : Int).toNat ((wrap64 (bt312.2 + bt314.2.2.2.2)) : Int).toNat).toList)) else (none)) else (none)) else (none)))) else (some false)) else (some false))))
end
def laws_FnPacketBack.f (k : Nat) (l0 : List Int) (l1 : List Int) : Option (Bool) := if (l0.length : Int) > 1048576 then (laws_FnPacketBack.j0 k l0 l1 true) else (laws_FnPacketBack.j0 k l0 l1 (decide ((l1.length : Int) > 1048576)))
theorem laws_FnPacketBack.mono_l : ∀ k, (∀ y0 y1 y2, LeO (laws_FnPacketBack.j0 k y0 y1 y2) (laws_FnPacketBack.j0 (k + 1) y0 y1 y2)) ∧ (∀ y0, LeO (laws_FnPacketBack.j1 k y0) (laws_FnPacketBack.j1 (k + 1) y0))
 | 0 => ⟨fun _ _ _ r h => by simp [laws_FnPacketBack.j0] at h, fun _ r h => by simp [laws_FnPacketBack.j1] at h⟩
 | k + 1 => by
  obtain ⟨ih0, ih1⟩ := laws_FnPacketBack.mono_l k
  refine ⟨?_, ?_⟩
  ·intro y0 y1 y2
   unfold laws_FnPacketBack.j0
   repeat' first
   | (with_reducible exact ih0 _ _ _)
   | (with_reducible exact ih1 _)
   | (with_reducible exact impl_PacketGet.mono _ _ _)
   | (with_reducible exact impl_PacketPut.mono _ _ _ _ _)
   | (with_reducible exact spec_DrawPacketGet.mono _ _)
   | (with_reducible exact spec_DrawPacketPut.mono _ _)
   | (with_reducible exact spec_PacketGet.mono _ _ _)
   | (with_reducible exact spec_PacketPut.mono _ _ _ _ _)
   | (with_reducible exact LeO.refl _)
   | (with_reducible exact LeO.none _)
   | (with_reducible refine LeO.ite ?_ ?_)
   | (with_reducible refine LeO.bind ?_ (fun _ => ?_))
   | exact ih0 _ _ _
   | exact ih1 _
   | exact impl_PacketGet.mono _ _ _
   | exact impl_PacketPut.mono _ _ _ _ _
   | exact spec_DrawPacketGet.mono _ _
   | exact spec_DrawPacketPut.mono _ _
   | exact spec_PacketGet.mono _ _ _
   | exact spec_PacketPut.mono _ _ _ _ _
   | exact LeO.none _
   | refine LeO.ite ?_ ?_
   | refine LeO.bind ?_ (fun _ => ?_)
  ·intro y0
   unfold laws_FnPacketBack.j1
   repeat' first
   | (with_reducible exact ih0 _ _ _)
   | (with_reducible exact ih1 _)
   | (with_reducible exact impl_PacketGet.mono _ _ _)
   | (with_reducible exact impl_PacketPut.mono _ _ _ _ _)
   | (with_reducible exact spec_DrawPacketGet.mono _ _)
   | (with_reducible exact spec_DrawPacketPut.mono _ _)
   | (with_reducible exact spec_PacketGet.mono _ _ _)
   | (with_reducible exact spec_PacketPut.mono _ _ _ _ _)
   | (with_reducible exact LeO.refl _)
   | (with_reducible exact LeO.none _)
   | (with_reducible refine LeO.ite ?_ ?_)
   | (with_reducible refine LeO.bind ?_ (fun _ => ?_))
   | exact ih0 _ _ _
   | exact ih1 _
   | exact impl_PacketGet.mono _ _ _
   | exact impl_PacketPut.mono _ _ _ _ _
   | exact spec_DrawPacketGet.mono _ _
   | exact spec_DrawPacketPut.mono _ _
   | exact spec_PacketGet.mono _ _ _
   | exact spec_PacketPut.mono _ _ _ _ _
   | exact LeO.none _
   | refine LeO.ite ?_ ?_
   | refine LeO.bind ?_ (fun _ => ?_)
theorem laws_FnPacketBack.mono : ∀ a0 a1 k, LeO (laws_FnPacketBack.f k a0 a1) (laws_FnPacketBack.f (k + 1) a0 a1) := by
 intro a0 a1 k
 obtain ⟨ih0, ih1⟩ := laws_FnPacketBack.mono_l k
 unfold laws_FnPacketBack.f
 repeat' first
   | (with_reducible exact ih0 _ _ _)
   | (with_reducible exact ih1 _)
   | (with_reducible exact impl_PacketGet.mono _ _ _)
   | (with_reducible exact impl_PacketPut.mono _ _ _ _ _)
   | (with_reducible exact spec_DrawPacketGet.mono _ _)
   | (with_reducible exact spec_DrawPacketPut.mono _ _)
   | (with_reducible exact spec_PacketGet.mono _ _ _)
   | (with_reducible exact spec_PacketPut.mono _ _ _ _ _)
   | (with_reducible exact LeO.refl _)
   | (with_reducible exact LeO.none _)
   | (with_reducible refine LeO.ite ?_ ?_)
   | (with_reducible refine LeO.bind ?_ (fun _ => ?_))
   | exact ih0 _ _ _
   | exact ih1 _
   | exact impl_PacketGet.mono _ _ _
   | exact impl_PacketPut.mono _ _ _ _ _
   | exact spec_DrawPacketGet.mono _ _
   | exact spec_DrawPacketPut.mono _ _
   | exact spec_PacketGet.mono _ _ _
   | exact spec_PacketPut.mono _ _ _ _ _
   | exact LeO.none _
   | refine LeO.ite ?_ ?_
   | refine LeO.bind ?_ (fun _ => ?_)
def laws_FnPacketBack.T14 : Bool × List (List Nat × List Nat) := (true, [([], []), ([], []), ([0, 1], [0, 1]), ([2], [2]), ([3], [3]), ([3], [3]), ([4, 5, 3], [3, 4, 5]), ([3, 6], [3, 6]), ([7, 3], [7]), ([8], [8]), ([9, 8], [8, 9]), ([10, 8, 8], [8, 10]), ([11], [11]), ([12, 11, 11], [11, 12]), ([11], [11]), ([11], [11]), ([11], [11]), ([11], [11]), ([16, 17, 11], [11, 16, 17]), ([14, 15, 18, 11], [11, 14, 15, 18]), ([13, 19, 11], [11, 13, 19]), ([11, 20, 8], [8, 11, 20]), ([8, 21], [8, 21]), ([22, 13, 0, 1, 2, 3, 4, 5, 6, 7, 8, 9, 10, 11, 12, 13, 14, 15, 16, 17, 18, 19, 20, 21, 22], [22])])
def laws_FnPacketBack.B14 : List Nat := [0, 0, 3, 7, 15, 15, 63, 127, 255, 511, 1023, 2047, 4095, 8191, 4095, 4095, 4095, 4095, 200703, 511999, 1048575, 2097151, 4194303, 8388607]
theorem laws_FnPacketBack.tab14 : rtab .any (opsOf Tryd.f4 14) = laws_FnPacketBack.T14 := by kernel_rfl
theorem laws_FnPacketBack.bits14 : waitsOk laws_FnPacketBack.T14.2 laws_FnPacketBack.B14 = true := by kernel_rfl
set_option maxHeartbeats 8000000 in
set_option maxRecDepth 100000 in
theorem laws_FnPacketBack.calls (k : Nat) (A0 : Option Addr) (c0 : Nat) (l0 : List Int) (A1 : Option Addr) (c1 : Nat) (l1 : List Int) (r : Bool) (w : World) (hr0 : Kd.C (Kd.int .u8) w A0 l0.length l0) (hc0 : l0.length ≤ c0) (hr1 : Kd.C (Kd.int .u8) w A1 l1.length l1) (hc1 : l1.length ≤ c1) (h : laws_FnPacketBack.f k l0 l1 = some r) :
  Calls Tryd.prog 4 #[.slice A0 l0.length c0, .slice A1 l1.length c1] w fun e w' => e = .returned (.bool r) ∧ Below w.heap.size w w' := by
 have hu23 := Tryd.underlying23
 have HR0 := Aside0.mk hr0
 have HC0 := Aside0.mk hc0
 clear hr0 hc0
 have HR1 := Aside0.mk hr1
 have HC1 := Aside0.mk hc1
 clear hr1 hc1
 have HB := m_ (Below.refl w.heap.size w)
 have H : (if (l0.length : Int) > 1048576 then (laws_FnPacketBack.j0 k l0 l1 true) else (laws_FnPacketBack.j0 k l0 l1 (decide ((l1.length : Int) > 1048576)))) = some r := h
 clear h
 have HC3 := Aside0.mk H
 clear H
 go_enter Tryd.func4, Tryd.ntmps4
 go_upto_region 1 with (fail)
 go_cut [22] (fun v22 wc => ∃ (kq : Nat) (x22_2 : Bool), v22 = .bool x22_2 ∧ Aside0 (laws_FnPacketBack.j0 kq l0 l1 x22_2 = some r) ∧ Aside0 (kq ≤ k) ∧ Aside0 (Below w.heap.size w wc))
 case first =>
  have H := HC3.out
  clear HC3
  by_cases c4 : (l0.length : Int) > 1048576
  ·rw [if_pos c4] at H
   have c4b0 : decide (1048576 < (l0.length : Int)) = true := decide_eq_true c4
   have c4b1 : decide (1048576 < l0.length) = true := decide_eq_true (by omega)
   clear c4
   (first | rw [c4b0] | (simp only [i64_w, i32_w]; rw [c4b0]) | skip)
   have H' := Aside0.mk H
   clear H
   go_wp2
   go_meet
   case rel => exact ⟨_, (true), (by first | rfl | (simp; done) | (simp [*]; done)), H', ⟨by first | omega | exact Nat.le_refl _⟩, ⟨by repeat (first | (with_reducible first | exact HB.out | apply below_alloc | apply pw_below_drewN | apply below_drew1) | exact HB.out)⟩⟩
  ·rw [if_neg c4] at H
   have c4b0 : decide (1048576 < (l0.length : Int)) = false := decide_eq_false c4
   have c4b1 : decide (1048576 < l0.length) = false := decide_eq_false (by omega)
   clear c4
   (first | rw [c4b0] | (simp only [i64_w, i32_w]; rw [c4b0]) | skip)
   have H' := Aside0.mk H
   clear H
   go_wp2
   go_meet
   case rel => exact ⟨_, (decide ((l1.length : Int) > 1048576)), (by first | rfl | (simp; done) | (simp [*]; done)), H', ⟨by first | omega | exact Nat.le_refl _⟩, ⟨by repeat (first | (with_reducible first | exact HB.out | apply below_alloc | apply pw_below_drewN | apply below_drew1) | exact HB.out)⟩⟩
 case rest =>
  clear HC3
  try clear c1
  try clear p2
  try clear c4
  try clear c4b0
  try clear c4b1
  obtain ⟨kq, x22_2, rfl, HA, HJ2, HB⟩ := hcut
  cases kq with
  | zero => exact absurd HA.out (by simp [laws_FnPacketBack.j0])
  | succ kj2 =>
   have H := HA.out
   clear HA
   simp only [laws_FnPacketBack.j0] at H
   by_cases c5 : x22_2 = true
   ·subst c5
    have H1 : (some true) = some r := by rw [if_pos rfl] at H; exact H
    clear H
    have H := H1
    clear H1
    obtain rfl := Option.some.inj H
    go_wp2
    go_ret
    exact ⟨by first | rfl | (simp [errW_none, errW_some] <;> rfl) | (simp [*, errW_none, errW_some] <;> rfl), by repeat (first | (with_reducible first | exact HB.out | apply below_alloc | apply pw_below_drewN | apply below_drew1) | exact HB.out)⟩
   ·replace c5 := Bool.eq_false_iff.mpr c5
    subst c5
    have H1 : ((spec_DrawPacketPut.f kj2 l0).bind fun bt299 => ((impl_PacketPut.f kj2 bt299.1 bt299.2.1 bt299.2.2.1 bt299.2.2.2).bind fun t304 => ((spec_PacketPut.f kj2 bt299.1 bt299.2.1 bt299.2.2.1 bt299.2.2.2).bind fun t305 => (if t304.toList = t305.toList then (if t304.toList = ([] : List UInt8) then (laws_FnPacketBack.j1 kj2 l1) else (if 2 + t304.size ≤ 9223372036854775807 then (if 2 + t304.size + 2 ≤ 9223372036854775807 then ((impl_PacketGet.f kj2 (((⟨#[97, 98]⟩ : ByteArray) ++ t304) ++ (⟨#[99, 100]⟩ : ByteArray)) 2).bind fun bt306 => (if (!(bt306.1 == bt299.1) || (!(bt306.2.1 == bt299.2.1) || (!(bt306.2.2.1 == bt299.2.2.1) || (!(bt306.2.2.2.1.toList == bt299.2.2.2.toList))))) = true then (some false) else (if bt306.2.2.2.2 = (t304.size : Int) then (laws_FnPacketBack.j1 kj2 l1) else (some false)))) else (none)) else (none))) else (some false))))) = some r := by rw [if_neg (show ¬ (false = true) by decide)] at H; exact H
    clear H
    have H := H1
    clear H1
    replace H := Option.bind_eq_some_iff.mp H
    obtain ⟨⟨t299, t300, t301, t302⟩, A60, H⟩ := H
    replace H : ((impl_PacketPut.f kj2 t299 t300 t301 t302).bind fun t304 => ((spec_PacketPut.f kj2 t299 t300 t301 t302).bind fun t305 => (if t304.toList = t305.toList then (if t304.toList = ([] : List UInt8) then (laws_FnPacketBack.j1 kj2 l1) else (if 2 + t304.size ≤ 9223372036854775807 then (if 2 + t304.size + 2 ≤ 9223372036854775807 then ((impl_PacketGet.f kj2 (((⟨#[97, 98]⟩ : ByteArray) ++ t304) ++ (⟨#[99, 100]⟩ : ByteArray)) 2).bind fun bt306 => (if (!(bt306.1 == t299) || (!(bt306.2.1 == t300) || (!(bt306.2.2.1 == t301) || (!(bt306.2.2.2.1.toList == t302.toList))))) = true then (some false) else (if bt306.2.2.2.2 = (t304.size : Int) then (laws_FnPacketBack.j1 kj2 l1) else (some false)))) else (none)) else (none))) else (some false)))) = some r := H
    have A6 := Aside0.mk A60
    clear A60
    replace H := Option.bind_eq_some_iff.mp H
    obtain ⟨t304, A70, H⟩ := H
    replace H : ((spec_PacketPut.f kj2 t299 t300 t301 t302).bind fun t305 => (if t304.toList = t305.toList then (if t304.toList = ([] : List UInt8) then (laws_FnPacketBack.j1 kj2 l1) else (if 2 + t304.size ≤ 9223372036854775807 then (if 2 + t304.size + 2 ≤ 9223372036854775807 then ((impl_PacketGet.f kj2 (((⟨#[97, 98]⟩ : ByteArray) ++ t304) ++ (⟨#[99, 100]⟩ : ByteArray)) 2).bind fun bt306 => (if (!(bt306.1 == t299) || (!(bt306.2.1 == t300) || (!(bt306.2.2.1 == t301) || (!(bt306.2.2.2.1.toList == t302.toList))))) = true then (some false) else (if bt306.2.2.2.2 = (t304.size : Int) then (laws_FnPacketBack.j1 kj2 l1) else (some false)))) else (none)) else (none))) else (some false))) = some r := H
    have A7 := Aside0.mk A70
    clear A70
    replace H := Option.bind_eq_some_iff.mp H
    obtain ⟨t305, A80, H⟩ := H
    replace H : (if t304.toList = t305.toList then (if t304.toList = ([] : List UInt8) then (laws_FnPacketBack.j1 kj2 l1) else (if 2 + t304.size ≤ 9223372036854775807 then (if 2 + t304.size + 2 ≤ 9223372036854775807 then ((impl_PacketGet.f kj2 (((⟨#[97, 98]⟩ : ByteArray) ++ t304) ++ (⟨#[99, 100]⟩ : ByteArray)) 2).bind fun bt306 => (if (!(bt306.1 == t299) || (!(bt306.2.1 == t300) || (!(bt306.2.2.1 == t301) || (!(bt306.2.2.2.1.toList == t302.toList))))) = true then (some false) else (if bt306.2.2.2.2 = (t304.size : Int) then (laws_FnPacketBack.j1 kj2 l1) else (some false)))) else (none)) else (none))) else (some false)) = some r := H
    have A8 := Aside0.mk A80
    clear A80
    by_cases c9 : t304.toList = t305.toList
    ·rw [if_pos c9] at H
     have c9b0 : (t304.toList == t305.toList) = true := beq_iff_eq.mpr c9
     have c9b1 : (t304.toList != t305.toList) = false := bne_eq_false_iff_eq.mpr c9
     clear c9
     have HC10 := Aside0.mk H
     clear H
     go_upto_if 32 with (first | ((with_reducible refine gate_callee (f := 13) rfl ?_); refine goesL_ (some 24) rfl rfl Tryd.func13 (by kernel_rfl) rfl #[.slice A0 l0.length c0] rfl gl_ ?_; (with_reducible refine (spec_DrawPacketPut.calls kj2 _ _ l0 t299 t300 t301 t302 _ ?side1 ?side2 A6.out).mono ?_); (case side1 => exact cN (Kd.C_below HR0.out HB.out)); (case side2 => exact HC0.out); rintro e w11 ⟨rfl, hb⟩; refine ⟨_, rfl, ?_⟩; have n0_ := m_ (below_step (bN HB.out) hb); clear HB; have HB := n0_; clear n0_; (try clear hb); (try clear hb2); (try clear hk); (try clear hi)) | ((with_reducible refine gate_dst (N := 5) rfl ?_); (try (refine gate_guard (by rfl) ?_; dsimp only)); refine box_event ?hg (N := 5) ?hd (cs := #[.bool false, .int .i64 0, .int .i64 0, .string (⟨#[]⟩ : ByteArray)]) (t := 23) ?hr ?_; (case hd => rfl); (case hg => rfl); (case hr => first | (go_simp; done) | (go_simp; rfl)); intro gb303 hg w12 hbox hb; have n0_ := m_ (below_step (bN HB.out) hb); have n1_ := m_ (hbox); have n2_ := m_ ((by rw [hg]; exact (below_size (bN HB.out)) : w.heap.size ≤ gb303)); have n3_ := m_ ((by rw [hg]; exact (below_size (bN HB.out)) : w.heap.size ≤ gb303)); clear HB; have HB := n0_; have BK303 := n1_; have GW303 := n2_; have GE303 := n3_; clear n0_ n1_ n2_ n3_; clear hb hbox hg; have hcz13_0 : w12.cell? ⟨gb303, 0, none⟩ = some (.bool false) := (blk_cell BK303.out 0).trans rfl; have hcz13_1 : w12.cell? ⟨gb303, 1, none⟩ = some (.int .i64 0) := (blk_cell BK303.out 1).trans rfl; have hcz13_2 : w12.cell? ⟨gb303, 2, none⟩ = some (.int .i64 0) := (blk_cell BK303.out 2).trans rfl; have hcz13_3 : w12.cell? ⟨gb303, 3, none⟩ = some (.string (⟨#[]⟩ : ByteArray)) := (blk_cell BK303.out 3).trans rfl; have hfz13_0 := blk_frozen BK303.out 0; have hfz13_1 := blk_frozen BK303.out 1; have hfz13_2 := blk_frozen BK303.out 2; have hfz13_3 := blk_frozen BK303.out 3) | ((with_reducible refine gate_callee (f := 14) rfl ?_); refine goesL_ (some 26) rfl rfl Tryd.func14 (by kernel_rfl) rfl #[.agg #[.bool t299, .int .i64 t300, .int .i64 t301, .string t302]] rfl gl_ ?_; (with_reducible refine (impl_PacketPut.calls kj2 t299 t300 t301 t302 t304 _ A7.out).mono ?_); rintro e w14 ⟨rfl, hb⟩; refine ⟨_, rfl, ?_⟩; have n0_ := m_ (blk_below (g := gb303) (o := .cells #[.bool t299, .int .i64 t300, .int .i64 t301, .string t302] 23 (0, 0)) (by (with_reducible repeat (first | refine blk_drewN ?_ _ | refine blk_drew ?_ | refine blk_alloc ?_ _)); refine blk_put (cs := #[.bool t299, .int .i64 t300, .int .i64 t301, .string (⟨#[]⟩ : ByteArray)]) ?_ 3 _ rfl; (with_reducible repeat (first | refine blk_drewN ?_ _ | refine blk_drew ?_ | refine blk_alloc ?_ _)); refine blk_put (cs := #[.bool t299, .int .i64 t300, .int .i64 0, .string (⟨#[]⟩ : ByteArray)]) ?_ 2 _ rfl; (with_reducible repeat (first | refine blk_drewN ?_ _ | refine blk_drew ?_ | refine blk_alloc ?_ _)); refine blk_put (cs := #[.bool t299, .int .i64 0, .int .i64 0, .string (⟨#[]⟩ : ByteArray)]) ?_ 1 _ rfl; (with_reducible repeat (first | refine blk_drewN ?_ _ | refine blk_drew ?_ | refine blk_alloc ?_ _)); refine blk_put (cs := #[.bool false, .int .i64 0, .int .i64 0, .string (⟨#[]⟩ : ByteArray)]) ?_ 0 _ rfl; (with_reducible repeat (first | refine blk_drewN ?_ _ | refine blk_drew ?_ | refine blk_alloc ?_ _)); exact BK303.out) hb); have n1_ := m_ (below_step (bN HB.out) hb); clear BK303; clear HB; have BK303 := n0_; have HB := n1_; clear n0_ n1_; (try clear hb); (try clear hb2); (try clear hk); (try clear hi); have hcz15_0 : w14.cell? ⟨gb303, 0, none⟩ = some (.bool t299) := (blk_cell BK303.out 0).trans rfl; have hcz15_1 : w14.cell? ⟨gb303, 1, none⟩ = some (.int .i64 t300) := (blk_cell BK303.out 1).trans rfl; have hcz15_2 : w14.cell? ⟨gb303, 2, none⟩ = some (.int .i64 t301) := (blk_cell BK303.out 2).trans rfl; have hcz15_3 : w14.cell? ⟨gb303, 3, none⟩ = some (.string t302) := (blk_cell BK303.out 3).trans rfl; have hfz15_0 := blk_frozen BK303.out 0; have hfz15_1 := blk_frozen BK303.out 1; have hfz15_2 := blk_frozen BK303.out 2; have hfz15_3 := blk_frozen BK303.out 3) | ((with_reducible refine gate_callee (f := 15) rfl ?_); refine goesL_ (some 29) rfl rfl Tryd.func15 (by kernel_rfl) rfl #[.agg #[.bool t299, .int .i64 t300, .int .i64 t301, .string t302]] rfl gl_ ?_; (with_reducible refine (spec_PacketPut.calls kj2 t299 t300 t301 t302 t305 _ A8.out).mono ?_); rintro e w16 ⟨rfl, hb⟩; refine ⟨_, rfl, ?_⟩; have n0_ := m_ (blk_below (kN BK303.out) hb); have n1_ := m_ (below_step (bN HB.out) hb); clear BK303; clear HB; have BK303 := n0_; have HB := n1_; clear n0_ n1_; (try clear hb); (try clear hb2); (try clear hk); (try clear hi)))
     (try simp only [Act.put, List.setIfInBounds_toArray, List.set_cons_zero, List.set_cons_succ])
     go_cut [] (fun wc => ∃ (kq : Nat), Aside0 (laws_FnPacketBack.j1 kq l1 = some r) ∧ Aside0 (kq ≤ kj2) ∧ Aside0 (wc.heap[gb303]? = some (.cells #[.bool t299, .int .i64 t300, .int .i64 t301, .string t302] 23 (0, 0))) ∧ Aside0 (Below w.heap.size w wc))
     case first =>
      have H := HC10.out
      clear HC10
      by_cases c17 : t304.toList = ([] : List UInt8)
      ·rw [if_pos c17] at H
       have c17b0 : (t304.toList == ([] : List UInt8)) = true := beq_iff_eq.mpr c17
       try have c17b7 : t304.toList.isEmpty = true := (by rw [← c17b0]; cases t304.toList <;> rfl)
       have c17b1 : (t304.toList != ([] : List UInt8)) = false := bne_eq_false_iff_eq.mpr c17
       clear c17
       (first | rw [c17b0] | (simp only [i64_w, i32_w]; rw [c17b0]) | (rw [c17b7]; simp only [Bool.not_true, Bool.not_false]) | skip)
       have H' := Aside0.mk H
       clear H
       go_wp2
       go_meet
       case rel => exact ⟨_, H', ⟨by have := HJ2.out; first | omega | exact Nat.le_refl _⟩, ⟨by (with_reducible repeat (first | refine blk_drewN ?_ _ | refine blk_drew ?_ | refine blk_alloc ?_ _)); exact BK303.out⟩, ⟨by repeat (first | (with_reducible first | exact HB.out | apply below_alloc | apply pw_below_drewN | apply below_drew1 | refine below_set ?_ GE303.out) | exact HB.out)⟩⟩
      ·rw [if_neg c17] at H
       have c17b0 : (t304.toList == ([] : List UInt8)) = false := beq_eq_false_iff_ne.mpr c17
       try have c17b7 : t304.toList.isEmpty = false := (by rw [← c17b0]; cases t304.toList <;> rfl)
       have c17b1 : (t304.toList != ([] : List UInt8)) = true := bne_iff_ne.mpr c17
       (first | rw [c17b0] | (simp only [i64_w, i32_w]; rw [c17b0]) | (rw [c17b7]; simp only [Bool.not_true, Bool.not_false]) | skip)
       by_cases c18 : 2 + t304.size ≤ 9223372036854775807
       ·rw [if_pos c18] at H
        have c18b0 := eq_true c18
        have c18b1 : decide (2 + t304.size ≤ 9223372036854775807) = true := decide_eq_true c18
        try have c18b2 : (9223372036854775807 < 2 + t304.size) = False := eq_false (Nat.not_lt.2 c18)
        by_cases c19 : 2 + t304.size + 2 ≤ 9223372036854775807
        ·rw [if_pos c19] at H
         have c19b0 := eq_true c19
         have c19b1 : decide (2 + t304.size + 2 ≤ 9223372036854775807) = true := decide_eq_true c19
         try have c19b2 : (9223372036854775807 < 2 + t304.size + 2) = False := eq_false (Nat.not_lt.2 c19)
         replace H := Option.bind_eq_some_iff.mp H
         obtain ⟨⟨t306, t307, t308, t309, t310⟩, A200, H⟩ := H
         replace H : (if (!(t306 == t299) || (!(t307 == t300) || (!(t308 == t301) || (!(t309.toList == t302.toList))))) = true then (some false) else (if t310 = (t304.size : Int) then (laws_FnPacketBack.j1 kj2 l1) else (some false))) = some r := H
         have A20 := Aside0.mk A200
         clear A200
         by_cases c21 : (!(t306 == t299) || (!(t307 == t300) || (!(t308 == t301) || (!(t309.toList == t302.toList))))) = true
         ·rw [if_pos c21] at H
          have c21b0 : (!(t306 == t299) || (!(t307 == t300) || (!(t308 == t301) || (!(t309.toList == t302.toList))))) = true := c21
          clear c21
          obtain rfl := Option.some.inj H
          go_wp2_with (first | ((with_reducible refine gate_callee (f := 11) rfl ?_); refine goesL_ (some 37) rfl rfl Tryd.func11 (by kernel_rfl) rfl #[.string (((⟨#[97, 98]⟩ : ByteArray) ++ t304) ++ (⟨#[99, 100]⟩ : ByteArray)), .int .i64 2] rfl gl_ ?_; (with_reducible refine (impl_PacketGet.calls kj2 (((⟨#[97, 98]⟩ : ByteArray) ++ t304) ++ (⟨#[99, 100]⟩ : ByteArray)) 2 t306 t307 t308 t309 t310 _ A20.out).mono ?_); rintro e w22 ⟨rfl, hb⟩; refine ⟨_, rfl, ?_⟩; have n0_ := m_ (blk_below (kN BK303.out) hb); have n1_ := m_ (below_step (bN HB.out) hb); clear BK303; clear HB; have BK303 := n0_; have HB := n1_; clear n0_ n1_; (try clear hb); (try clear hb2); (try clear hk); (try clear hi)) | ((with_reducible refine gate_dst (N := 7) rfl ?_); (try (refine gate_guard (by rfl) ?_; dsimp only)); refine box_event ?hg (N := 7) ?hd (cs := #[.bool false, .int .i64 0, .int .i64 0, .string (⟨#[]⟩ : ByteArray)]) (t := 23) ?hr ?_; (case hd => rfl); (case hg => rfl); (case hr => first | (go_simp; done) | (go_simp; rfl)); intro gb311 hg w23 hbox hb; have n0_ := m_ (blk_below (kN BK303.out) hb); have n1_ := m_ (below_step (bN HB.out) hb); have n2_ := m_ (hbox); have n3_ := m_ ((by rw [hg]; exact (below_size (bN HB.out)) : w.heap.size ≤ gb311)); have n4_ := m_ ((by rw [hg]; exact (below_size (bN HB.out)) : w.heap.size ≤ gb311)); have n5_ := m_ ((by rw [hg]; exact Nat.ne_of_lt (blk_lt (g := gb303) (o := .cells #[.bool t299, .int .i64 t300, .int .i64 t301, .string t302] 23 (0, 0)) (kN BK303.out)) : gb303 ≠ gb311)); have n6_ := m_ ((by rw [hg]; exact Nat.ne_of_gt (blk_lt (g := gb303) (o := .cells #[.bool t299, .int .i64 t300, .int .i64 t301, .string t302] 23 (0, 0)) (kN BK303.out)) : gb311 ≠ gb303)); clear BK303; clear HB; have BK303 := n0_; have HB := n1_; have BK311 := n2_; have GW311 := n3_; have GE311 := n4_; have NB303_311 := n5_; have NB311_303 := n6_; clear n0_ n1_ n2_ n3_ n4_ n5_ n6_; clear hb hbox hg; have hnb24 := NB311_303.out; have hnc24 := NB303_311.out; have hcz25_0 : w23.cell? ⟨gb311, 0, none⟩ = some (.bool false) := (blk_cell BK311.out 0).trans rfl; have hcz25_1 : w23.cell? ⟨gb311, 1, none⟩ = some (.int .i64 0) := (blk_cell BK311.out 1).trans rfl; have hcz25_2 : w23.cell? ⟨gb311, 2, none⟩ = some (.int .i64 0) := (blk_cell BK311.out 2).trans rfl; have hcz25_3 : w23.cell? ⟨gb311, 3, none⟩ = some (.string (⟨#[]⟩ : ByteArray)) := (blk_cell BK311.out 3).trans rfl; have hfz25_0 := blk_frozen BK311.out 0; have hfz25_1 := blk_frozen BK311.out 1; have hfz25_2 := blk_frozen BK311.out 2; have hfz25_3 := blk_frozen BK311.out 3; have hcz26_0 : w23.cell? ⟨gb303, 0, none⟩ = some (.bool t299) := (blk_cell BK303.out 0).trans rfl; have hcz26_1 : w23.cell? ⟨gb303, 1, none⟩ = some (.int .i64 t300) := (blk_cell BK303.out 1).trans rfl; have hcz26_2 : w23.cell? ⟨gb303, 2, none⟩ = some (.int .i64 t301) := (blk_cell BK303.out 2).trans rfl; have hcz26_3 : w23.cell? ⟨gb303, 3, none⟩ = some (.string t302) := (blk_cell BK303.out 3).trans rfl; have hfz26_0 := blk_frozen BK303.out 0; have hfz26_1 := blk_frozen BK303.out 1; have hfz26_2 := blk_frozen BK303.out 2; have hfz26_3 := blk_frozen BK303.out 3))
          go_ret
          exact ⟨by first | rfl | (simp [errW_none, errW_some] <;> rfl) | (simp [*, errW_none, errW_some] <;> rfl), by repeat (first | (with_reducible first | exact HB.out | apply below_alloc | apply pw_below_drewN | apply below_drew1 | refine below_set ?_ GE303.out | refine below_set ?_ GE311.out) | exact HB.out)⟩
         ·rw [if_neg c21] at H
          have c21b0 : (!(t306 == t299) || (!(t307 == t300) || (!(t308 == t301) || (!(t309.toList == t302.toList))))) = false := by simpa using c21
          clear c21
          by_cases c27 : t310 = (t304.size : Int)
          ·rw [if_pos c27] at H
           have c27b0 : (t310 == (t304.size : Int)) = true := beq_iff_eq.mpr c27
           have c27b1 : (t310 != (t304.size : Int)) = false := bne_eq_false_iff_eq.mpr c27
           clear c27
           have H' := Aside0.mk H
           clear H
           go_wp2_with (first | ((with_reducible refine gate_callee (f := 11) rfl ?_); refine goesL_ (some 37) rfl rfl Tryd.func11 (by kernel_rfl) rfl #[.string (((⟨#[97, 98]⟩ : ByteArray) ++ t304) ++ (⟨#[99, 100]⟩ : ByteArray)), .int .i64 2] rfl gl_ ?_; (with_reducible refine (impl_PacketGet.calls kj2 (((⟨#[97, 98]⟩ : ByteArray) ++ t304) ++ (⟨#[99, 100]⟩ : ByteArray)) 2 t306 t307 t308 t309 t310 _ A20.out).mono ?_); rintro e w28 ⟨rfl, hb⟩; refine ⟨_, rfl, ?_⟩; have n0_ := m_ (blk_below (kN BK303.out) hb); have n1_ := m_ (below_step (bN HB.out) hb); clear BK303; clear HB; have BK303 := n0_; have HB := n1_; clear n0_ n1_; (try clear hb); (try clear hb2); (try clear hk); (try clear hi)) | ((with_reducible refine gate_dst (N := 7) rfl ?_); (try (refine gate_guard (by rfl) ?_; dsimp only)); refine box_event ?hg (N := 7) ?hd (cs := #[.bool false, .int .i64 0, .int .i64 0, .string (⟨#[]⟩ : ByteArray)]) (t := 23) ?hr ?_; (case hd => rfl); (case hg => rfl); (case hr => first | (go_simp; done) | (go_simp; rfl)); intro gb311 hg w29 hbox hb; have n0_ := m_ (blk_below (kN BK303.out) hb); have n1_ := m_ (below_step (bN HB.out) hb); have n2_ := m_ (hbox); have n3_ := m_ ((by rw [hg]; exact (below_size (bN HB.out)) : w.heap.size ≤ gb311)); have n4_ := m_ ((by rw [hg]; exact (below_size (bN HB.out)) : w.heap.size ≤ gb311)); have n5_ := m_ ((by rw [hg]; exact Nat.ne_of_lt (blk_lt (g := gb303) (o := .cells #[.bool t299, .int .i64 t300, .int .i64 t301, .string t302] 23 (0, 0)) (kN BK303.out)) : gb303 ≠ gb311)); have n6_ := m_ ((by rw [hg]; exact Nat.ne_of_gt (blk_lt (g := gb303) (o := .cells #[.bool t299, .int .i64 t300, .int .i64 t301, .string t302] 23 (0, 0)) (kN BK303.out)) : gb311 ≠ gb303)); clear BK303; clear HB; have BK303 := n0_; have HB := n1_; have BK311 := n2_; have GW311 := n3_; have GE311 := n4_; have NB303_311 := n5_; have NB311_303 := n6_; clear n0_ n1_ n2_ n3_ n4_ n5_ n6_; clear hb hbox hg; have hnb30 := NB311_303.out; have hnc30 := NB303_311.out; have hcz31_0 : w29.cell? ⟨gb311, 0, none⟩ = some (.bool false) := (blk_cell BK311.out 0).trans rfl; have hcz31_1 : w29.cell? ⟨gb311, 1, none⟩ = some (.int .i64 0) := (blk_cell BK311.out 1).trans rfl; have hcz31_2 : w29.cell? ⟨gb311, 2, none⟩ = some (.int .i64 0) := (blk_cell BK311.out 2).trans rfl; have hcz31_3 : w29.cell? ⟨gb311, 3, none⟩ = some (.string (⟨#[]⟩ : ByteArray)) := (blk_cell BK311.out 3).trans rfl; have hfz31_0 := blk_frozen BK311.out 0; have hfz31_1 := blk_frozen BK311.out 1; have hfz31_2 := blk_frozen BK311.out 2; have hfz31_3 := blk_frozen BK311.out 3; have hcz32_0 : w29.cell? ⟨gb303, 0, none⟩ = some (.bool t299) := (blk_cell BK303.out 0).trans rfl; have hcz32_1 : w29.cell? ⟨gb303, 1, none⟩ = some (.int .i64 t300) := (blk_cell BK303.out 1).trans rfl; have hcz32_2 : w29.cell? ⟨gb303, 2, none⟩ = some (.int .i64 t301) := (blk_cell BK303.out 2).trans rfl; have hcz32_3 : w29.cell? ⟨gb303, 3, none⟩ = some (.string t302) := (blk_cell BK303.out 3).trans rfl; have hfz32_0 := blk_frozen BK303.out 0; have hfz32_1 := blk_frozen BK303.out 1; have hfz32_2 := blk_frozen BK303.out 2; have hfz32_3 := blk_frozen BK303.out 3))
           go_meet
           case rel => exact ⟨_, H', ⟨by have := HJ2.out; first | omega | exact Nat.le_refl _⟩, ⟨by (with_reducible repeat (first | refine blk_drewN ?_ _ | refine blk_drew ?_ | refine blk_alloc ?_ _)); refine blk_far ?_ NB303_311.out _; (with_reducible repeat (first | refine blk_drewN ?_ _ | refine blk_drew ?_ | refine blk_alloc ?_ _)); refine blk_far ?_ NB303_311.out _; (with_reducible repeat (first | refine blk_drewN ?_ _ | refine blk_drew ?_ | refine blk_alloc ?_ _)); refine blk_far ?_ NB303_311.out _; (with_reducible repeat (first | refine blk_drewN ?_ _ | refine blk_drew ?_ | refine blk_alloc ?_ _)); refine blk_far ?_ NB303_311.out _; (with_reducible repeat (first | refine blk_drewN ?_ _ | refine blk_drew ?_ | refine blk_alloc ?_ _)); exact BK303.out⟩, ⟨by repeat (first | (with_reducible first | exact HB.out | apply below_alloc | apply pw_below_drewN | apply below_drew1 | refine below_set ?_ GE303.out | refine below_set ?_ GE311.out) | exact HB.out)⟩⟩
          ·rw [if_neg c27] at H
           have c27b0 : (t310 == (t304.size : Int)) = false := beq_eq_false_iff_ne.mpr c27
           have c27b1 : (t310 != (t304.size : Int)) = true := bne_iff_ne.mpr c27
           obtain rfl := Option.some.inj H
           go_wp2_with (first | ((with_reducible refine gate_callee (f := 11) rfl ?_); refine goesL_ (some 37) rfl rfl Tryd.func11 (by kernel_rfl) rfl #[.string (((⟨#[97, 98]⟩ : ByteArray) ++ t304) ++ (⟨#[99, 100]⟩ : ByteArray)), .int .i64 2] rfl gl_ ?_; (with_reducible refine (impl_PacketGet.calls kj2 (((⟨#[97, 98]⟩ : ByteArray) ++ t304) ++ (⟨#[99, 100]⟩ : ByteArray)) 2 t306 t307 t308 t309 t310 _ A20.out).mono ?_); rintro e w33 ⟨rfl, hb⟩; refine ⟨_, rfl, ?_⟩; have n0_ := m_ (blk_below (kN BK303.out) hb); have n1_ := m_ (below_step (bN HB.out) hb); clear BK303; clear HB; have BK303 := n0_; have HB := n1_; clear n0_ n1_; (try clear hb); (try clear hb2); (try clear hk); (try clear hi)) | ((with_reducible refine gate_dst (N := 7) rfl ?_); (try (refine gate_guard (by rfl) ?_; dsimp only)); refine box_event ?hg (N := 7) ?hd (cs := #[.bool false, .int .i64 0, .int .i64 0, .string (⟨#[]⟩ : ByteArray)]) (t := 23) ?hr ?_; (case hd => rfl); (case hg => rfl); (case hr => first | (go_simp; done) | (go_simp; rfl)); intro gb311 hg w34 hbox hb; have n0_ := m_ (blk_below (kN BK303.out) hb); have n1_ := m_ (below_step (bN HB.out) hb); have n2_ := m_ (hbox); have n3_ := m_ ((by rw [hg]; exact (below_size (bN HB.out)) : w.heap.size ≤ gb311)); have n4_ := m_ ((by rw [hg]; exact (below_size (bN HB.out)) : w.heap.size ≤ gb311)); have n5_ := m_ ((by rw [hg]; exact Nat.ne_of_lt (blk_lt (g := gb303) (o := .cells #[.bool t299, .int .i64 t300, .int .i64 t301, .string t302] 23 (0, 0)) (kN BK303.out)) : gb303 ≠ gb311)); have n6_ := m_ ((by rw [hg]; exact Nat.ne_of_gt (blk_lt (g := gb303) (o := .cells #[.bool t299, .int .i64 t300, .int .i64 t301, .string t302] 23 (0, 0)) (kN BK303.out)) : gb311 ≠ gb303)); clear BK303; clear HB; have BK303 := n0_; have HB := n1_; have BK311 := n2_; have GW311 := n3_; have GE311 := n4_; have NB303_311 := n5_; have NB311_303 := n6_; clear n0_ n1_ n2_ n3_ n4_ n5_ n6_; clear hb hbox hg; have hnb35 := NB311_303.out; have hnc35 := NB303_311.out; have hcz36_0 : w34.cell? ⟨gb311, 0, none⟩ = some (.bool false) := (blk_cell BK311.out 0).trans rfl; have hcz36_1 : w34.cell? ⟨gb311, 1, none⟩ = some (.int .i64 0) := (blk_cell BK311.out 1).trans rfl; have hcz36_2 : w34.cell? ⟨gb311, 2, none⟩ = some (.int .i64 0) := (blk_cell BK311.out 2).trans rfl; have hcz36_3 : w34.cell? ⟨gb311, 3, none⟩ = some (.string (⟨#[]⟩ : ByteArray)) := (blk_cell BK311.out 3).trans rfl; have hfz36_0 := blk_frozen BK311.out 0; have hfz36_1 := blk_frozen BK311.out 1; have hfz36_2 := blk_frozen BK311.out 2; have hfz36_3 := blk_frozen BK311.out 3; have hcz37_0 : w34.cell? ⟨gb303, 0, none⟩ = some (.bool t299) := (blk_cell BK303.out 0).trans rfl; have hcz37_1 : w34.cell? ⟨gb303, 1, none⟩ = some (.int .i64 t300) := (blk_cell BK303.out 1).trans rfl; have hcz37_2 : w34.cell? ⟨gb303, 2, none⟩ = some (.int .i64 t301) := (blk_cell BK303.out 2).trans rfl; have hcz37_3 : w34.cell? ⟨gb303, 3, none⟩ = some (.string t302) := (blk_cell BK303.out 3).trans rfl; have hfz37_0 := blk_frozen BK303.out 0; have hfz37_1 := blk_frozen BK303.out 1; have hfz37_2 := blk_frozen BK303.out 2; have hfz37_3 := blk_frozen BK303.out 3))
           go_ret
           exact ⟨by first | rfl | (simp [errW_none, errW_some] <;> rfl) | (simp [*, errW_none, errW_some] <;> rfl), by repeat (first | (with_reducible first | exact HB.out | apply below_alloc | apply pw_below_drewN | apply below_drew1 | refine below_set ?_ GE303.out | refine below_set ?_ GE311.out) | exact HB.out)⟩
        ·rw [if_neg c19] at H
         exact absurd H (by simp)
       ·rw [if_neg c18] at H
        exact absurd H (by simp)
     case rest =>
      clear HC10
      try clear c1
      try clear c2
      try clear p2
      try clear c3
      try clear c4
      try clear c4b0
      try clear c4b1
      try clear c5
      try clear c9
      try clear c9b0
      try clear c9b1
      try clear c11
      try clear c13
      try clear c14
      try clear c15
      try clear c17
      try clear c17b0
      try clear c17b1
      try clear c18
      try clear c18b0
      try clear c18b1
      try clear c18b2
      try clear c19
      try clear c19b0
      try clear c19b1
      try clear c19b2
      try clear c21
      try clear c21b0
      try clear c24
      try clear c27
      try clear c27b0
      try clear c27b1
      try clear c30
      try clear c35
      try clear hcz13_0
      try clear hcz13_1
      try clear hcz13_2
      try clear hcz13_3
      try clear hcz15_0
      try clear hcz15_1
      try clear hcz15_2
      try clear hcz15_3
      try clear hcz25_0
      try clear hcz25_1
      try clear hcz25_2
      try clear hcz25_3
      try clear hcz26_0
      try clear hcz26_1
      try clear hcz26_2
      try clear hcz26_3
      try clear hcz31_0
      try clear hcz31_1
      try clear hcz31_2
      try clear hcz31_3
      try clear hcz32_0
      try clear hcz32_1
      try clear hcz32_2
      try clear hcz32_3
      try clear hcz36_0
      try clear hcz36_1
      try clear hcz36_2
      try clear hcz36_3
      try clear hcz37_0
      try clear hcz37_1
      try clear hcz37_2
      try clear hcz37_3
      try clear hfz13_0
      try clear hfz13_1
      try clear hfz13_2
      try clear hfz13_3
      try clear hfz15_0
      try clear hfz15_1
      try clear hfz15_2
      try clear hfz15_3
      try clear hfz25_0
      try clear hfz25_1
      try clear hfz25_2
      try clear hfz25_3
      try clear hfz26_0
      try clear hfz26_1
      try clear hfz26_2
      try clear hfz26_3
      try clear hfz31_0
      try clear hfz31_1
      try clear hfz31_2
      try clear hfz31_3
      try clear hfz32_0
      try clear hfz32_1
      try clear hfz32_2
      try clear hfz32_3
      try clear hfz36_0
      try clear hfz36_1
      try clear hfz36_2
      try clear hfz36_3
      try clear hfz37_0
      try clear hfz37_1
      try clear hfz37_2
      try clear hfz37_3
      try clear p2
      obtain ⟨kq, HA, HJ9, BK303, HB⟩ := hcut
      cases kq with
      | zero => exact absurd HA.out (by simp [laws_FnPacketBack.j1])
      | succ kj9 =>
       have H := HA.out
       clear HA
       simp only [laws_FnPacketBack.j1] at H
       replace H := Option.bind_eq_some_iff.mp H
       obtain ⟨⟨t312, t313⟩, A380, H⟩ := H
       replace H : ((impl_PacketGet.f kj9 t312 t313).bind fun bt314 => ((spec_PacketGet.f kj9 t312 t313).bind fun bt320 => (if (bt314.1 == bt320.1 && (bt314.2.1 == bt320.2.1 && (bt314.2.2.1 == bt320.2.2.1 && (bt314.2.2.2.1.toList == bt320.2.2.2.1.toList)))) = true then (if bt314.2.2.2.2 = bt320.2.2.2.2 then (if bt314.2.2.2.2 = 0 then (some true) else ((impl_PacketPut.f kj9 bt314.1 bt314.2.1 bt314.2.2.1 bt314.2.2.2.1).bind fun t326 => (if 0 ≤ t313 then (if t313 ≤ (wrap64 (t313 + bt314.2.2.2.2)) then (if (wrap64 (t313 + bt314.2.2.2.2)) ≤ (t312.size : Int) then (some (t326.toList == (t312.extract (t313 : Int).toNat ((wrap64 (t313 + bt314.2.2.2.2)) : Int).toNat).toList)) else (none)) else (none)) else (none)))) else (some false)) else (some false)))) = some r := H
       have A38 := Aside0.mk A380
       clear A380
       replace H := Option.bind_eq_some_iff.mp H
       obtain ⟨⟨t314, t315, t316, t317, t318⟩, A390, H⟩ := H
       replace H : ((spec_PacketGet.f kj9 t312 t313).bind fun bt320 => (if (t314 == bt320.1 && (t315 == bt320.2.1 && (t316 == bt320.2.2.1 && (t317.toList == bt320.2.2.2.1.toList)))) = true then (if t318 = bt320.2.2.2.2 then (if t318 = 0 then (some true) else ((impl_PacketPut.f kj9 t314 t315 t316 t317).bind fun t326 => (if 0 ≤ t313 then (if t313 ≤ (wrap64 (t313 + t318)) then (if (wrap64 (t313 + t318)) ≤ (t312.size : Int) then (some (t326.toList == (t312.extract (t313 : Int).toNat ((wrap64 (t313 + t318)) : Int).toNat).toList)) else (none)) else (none)) else (none)))) else (some false)) else (some false))) = some r := H
       have A39 := Aside0.mk A390
       clear A390
       replace H := Option.bind_eq_some_iff.mp H
       obtain ⟨⟨t320, t321, t322, t323, t324⟩, A400, H⟩ := H
       replace H : (if (t314 == t320 && (t315 == t321 && (t316 == t322 && (t317.toList == t323.toList)))) = true then (if t318 = t324 then (if t318 = 0 then (some true) else ((impl_PacketPut.f kj9 t314 t315 t316 t317).bind fun t326 => (if 0 ≤ t313 then (if t313 ≤ (wrap64 (t313 + t318)) then (if (wrap64 (t313 + t318)) ≤ (t312.size : Int) then (some (t326.toList == (t312.extract (t313 : Int).toNat ((wrap64 (t313 + t318)) : Int).toNat).toList)) else (none)) else (none)) else (none)))) else (some false)) else (some false)) = some r := H
       have A40 := Aside0.mk A400
       clear A400
       by_cases c41 : (t314 == t320 && (t315 == t321 && (t316 == t322 && (t317.toList == t323.toList)))) = true
       ·rw [if_pos c41] at H
        have c41b0 : (t314 == t320 && (t315 == t321 && (t316 == t322 && (t317.toList == t323.toList)))) = true := c41
        (try (have c41b1 : decide (t314 = t320 && (t315 == t321 && (t316 == t322 && (t317.toList == t323.toList)))) = true := by simpa using c41))
        (try (have c41b2 : (t314 == t320 && (t315 == t321 && (t316 == t322 && (t317.toList == t323.toList)))) = true := by simpa using c41))
        clear c41
        by_cases c42 : t318 = t324
        ·rw [if_pos c42] at H
         have c42b0 : (t318 == t324) = true := beq_iff_eq.mpr c42
         have c42b1 : (t318 != t324) = false := bne_eq_false_iff_eq.mpr c42
         clear c42
         by_cases c43 : t318 = 0
         ·rw [if_pos c43] at H
          have c43b0 : (t318 == 0) = true := beq_iff_eq.mpr c43
          have c43b1 : (t318 != 0) = false := bne_eq_false_iff_eq.mpr c43
          clear c43
          obtain rfl := Option.some.inj H
          try go_wp2_with (first | ((with_reducible refine gate_callee (f := 16) rfl ?_); refine goesL_ (some 51) rfl rfl Tryd.func16 (by kernel_rfl) rfl #[.slice A1 l1.length c1] rfl gl_ ?_; (with_reducible refine (spec_DrawPacketGet.calls kj9 _ _ l1 t312 t313 _ ?side1 ?side2 A38.out).mono ?_); (case side1 => exact cN (Kd.C_below HR1.out HB.out)); (case side2 => exact HC1.out); rintro e w44 ⟨rfl, hb⟩; refine ⟨_, rfl, ?_⟩; have n0_ := m_ (blk_below (kN BK303.out) hb); have n1_ := m_ (below_step (bN HB.out) hb); clear BK303; clear HB; have BK303 := n0_; have HB := n1_; clear n0_ n1_; (try clear hb); (try clear hb2); (try clear hk); (try clear hi)) | ((with_reducible refine gate_callee (f := 11) rfl ?_); refine goesL_ (some 57) rfl rfl Tryd.func11 (by kernel_rfl) rfl #[.string t312, .int .i64 t313] rfl gl_ ?_; (with_reducible refine (impl_PacketGet.calls kj9 t312 t313 t314 t315 t316 t317 t318 _ A39.out).mono ?_); rintro e w45 ⟨rfl, hb⟩; refine ⟨_, rfl, ?_⟩; have n0_ := m_ (blk_below (kN BK303.out) hb); have n1_ := m_ (below_step (bN HB.out) hb); clear BK303; clear HB; have BK303 := n0_; have HB := n1_; clear n0_ n1_; (try clear hb); (try clear hb2); (try clear hk); (try clear hi)) | ((with_reducible refine gate_dst (N := 11) rfl ?_); (try (refine gate_guard (by rfl) ?_; dsimp only)); refine box_event ?hg (N := 11) ?hd (cs := #[.bool false, .int .i64 0, .int .i64 0, .string (⟨#[]⟩ : ByteArray)]) (t := 23) ?hr ?_; (case hd => rfl); (case hg => rfl); (case hr => first | (go_simp; done) | (go_simp; rfl)); intro gb319 hg w46 hbox hb; have n0_ := m_ (blk_below (kN BK303.out) hb); have n1_ := m_ (below_step (bN HB.out) hb); have n2_ := m_ (hbox); have n3_ := m_ ((by rw [hg]; exact (below_size (bN HB.out)) : w.heap.size ≤ gb319)); have n4_ := m_ ((by rw [hg]; exact (below_size (bN HB.out)) : w.heap.size ≤ gb319)); have n5_ := m_ ((by rw [hg]; exact Nat.ne_of_lt (blk_lt (g := gb303) (o := .cells #[.bool t299, .int .i64 t300, .int .i64 t301, .string t302] 23 (0, 0)) (kN BK303.out)) : gb303 ≠ gb319)); have n6_ := m_ ((by rw [hg]; exact Nat.ne_of_gt (blk_lt (g := gb303) (o := .cells #[.bool t299, .int .i64 t300, .int .i64 t301, .string t302] 23 (0, 0)) (kN BK303.out)) : gb319 ≠ gb303)); clear BK303; clear HB; have BK303 := n0_; have HB := n1_; have BK319 := n2_; have GW319 := n3_; have GE319 := n4_; have NB303_319 := n5_; have NB319_303 := n6_; clear n0_ n1_ n2_ n3_ n4_ n5_ n6_; clear hb hbox hg; have hnb47 := NB319_303.out; have hnc47 := NB303_319.out; have hcz48_0 : w46.cell? ⟨gb319, 0, none⟩ = some (.bool false) := (blk_cell BK319.out 0).trans rfl; have hcz48_1 : w46.cell? ⟨gb319, 1, none⟩ = some (.int .i64 0) := (blk_cell BK319.out 1).trans rfl; have hcz48_2 : w46.cell? ⟨gb319, 2, none⟩ = some (.int .i64 0) := (blk_cell BK319.out 2).trans rfl; have hcz48_3 : w46.cell? ⟨gb319, 3, none⟩ = some (.string (⟨#[]⟩ : ByteArray)) := (blk_cell BK319.out 3).trans rfl; have hfz48_0 := blk_frozen BK319.out 0; have hfz48_1 := blk_frozen BK319.out 1; have hfz48_2 := blk_frozen BK319.out 2; have hfz48_3 := blk_frozen BK319.out 3) | ((with_reducible refine gate_callee (f := 10) rfl ?_); refine goesL_ (some 63) rfl rfl Tryd.func10 (by kernel_rfl) rfl #[.string t312, .int .i64 t313] rfl gl_ ?_; (with_reducible refine (spec_PacketGet.calls kj9 t312 t313 t320 t321 t322 t323 t324 _ A40.out).mono ?_); rintro e w49 ⟨rfl, hb⟩; refine ⟨_, rfl, ?_⟩; have n0_ := m_ (blk_below (g := gb303) (o := .cells #[.bool t299, .int .i64 t300, .int .i64 t301, .string t302] 23 (0, 0)) (kF BK303.out NB303_319.out) hb); have n1_ := m_ (blk_below (g := gb319) (o := .cells #[.bool t314, .int .i64 t315, .int .i64 t316, .string t317] 23 (0, 0)) (by (with_reducible repeat (first | refine blk_drewN ?_ _ | refine blk_drew ?_ | refine blk_alloc ?_ _)); refine blk_put (cs := #[.bool t314, .int .i64 t315, .int .i64 t316, .string (⟨#[]⟩ : ByteArray)]) ?_ 3 _ rfl; (with_reducible repeat (first | refine blk_drewN ?_ _ | refine blk_drew ?_ | refine blk_alloc ?_ _)); refine blk_put (cs := #[.bool t314, .int .i64 t315, .int .i64 0, .string (⟨#[]⟩ : ByteArray)]) ?_ 2 _ rfl; (with_reducible repeat (first | refine blk_drewN ?_ _ | refine blk_drew ?_ | refine blk_alloc ?_ _)); refine blk_put (cs := #[.bool t314, .int .i64 0, .int .i64 0, .string (⟨#[]⟩ : ByteArray)]) ?_ 1 _ rfl; (with_reducible repeat (first | refine blk_drewN ?_ _ | refine blk_drew ?_ | refine blk_alloc ?_ _)); refine blk_put (cs := #[.bool false, .int .i64 0, .int .i64 0, .string (⟨#[]⟩ : ByteArray)]) ?_ 0 _ rfl; (with_reducible repeat (first | refine blk_drewN ?_ _ | refine blk_drew ?_ | refine blk_alloc ?_ _)); exact BK319.out) hb); have n2_ := m_ (below_step (bN HB.out) hb); clear BK303; clear BK319; clear HB; have BK303 := n0_; have BK319 := n1_; have HB := n2_; clear n0_ n1_ n2_; (try clear hb); (try clear hb2); (try clear hk); (try clear hi)) | ((with_reducible refine gate_dst (N := 13) rfl ?_); (try (refine gate_guard (by rfl) ?_; dsimp only)); refine box_event ?hg (N := 13) ?hd (cs := #[.bool false, .int .i64 0, .int .i64 0, .string (⟨#[]⟩ : ByteArray)]) (t := 23) ?hr ?_; (case hd => rfl); (case hg => rfl); (case hr => first | (go_simp; done) | (go_simp; rfl)); intro gb325 hg w50 hbox hb; have n0_ := m_ (blk_below (kN BK303.out) hb); have n1_ := m_ (blk_below (kN BK319.out) hb); have n2_ := m_ (below_step (bN HB.out) hb); have n3_ := m_ (hbox); have n4_ := m_ ((by rw [hg]; exact (below_size (bN HB.out)) : w.heap.size ≤ gb325)); have n5_ := m_ ((by rw [hg]; exact (below_size (bN HB.out)) : w.heap.size ≤ gb325)); have n6_ := m_ ((by rw [hg]; exact Nat.ne_of_lt (blk_lt (g := gb303) (o := .cells #[.bool t299, .int .i64 t300, .int .i64 t301, .string t302] 23 (0, 0)) (kN BK303.out)) : gb303 ≠ gb325)); have n7_ := m_ ((by rw [hg]; exact Nat.ne_of_gt (blk_lt (g := gb303) (o := .cells #[.bool t299, .int .i64 t300, .int .i64 t301, .string t302] 23 (0, 0)) (kN BK303.out)) : gb325 ≠ gb303)); have n8_ := m_ ((by rw [hg]; exact Nat.ne_of_lt (blk_lt (g := gb319) (o := .cells #[.bool t314, .int .i64 t315, .int .i64 t316, .string t317] 23 (0, 0)) (kN BK319.out)) : gb319 ≠ gb325)); have n9_ := m_ ((by rw [hg]; exact Nat.ne_of_gt (blk_lt (g := gb319) (o := .cells #[.bool t314, .int .i64 t315, .int .i64 t316, .string t317] 23 (0, 0)) (kN BK319.out)) : gb325 ≠ gb319)); clear BK303; clear BK319; clear HB; have BK303 := n0_; have BK319 := n1_; have HB := n2_; have BK325 := n3_; have GW325 := n4_; have GE325 := n5_; have NB303_325 := n6_; have NB325_303 := n7_; have NB319_325 := n8_; have NB325_319 := n9_; clear n0_ n1_ n2_ n3_ n4_ n5_ n6_ n7_ n8_ n9_; clear hb hbox hg; have hnb51 := NB325_303.out; have hnc51 := NB303_325.out; have hnb52 := NB325_319.out; have hnc52 := NB319_325.out; have hcz53_0 : w50.cell? ⟨gb325, 0, none⟩ = some (.bool false) := (blk_cell BK325.out 0).trans rfl; have hcz53_1 : w50.cell? ⟨gb325, 1, none⟩ = some (.int .i64 0) := (blk_cell BK325.out 1).trans rfl; have hcz53_2 : w50.cell? ⟨gb325, 2, none⟩ = some (.int .i64 0) := (blk_cell BK325.out 2).trans rfl; have hcz53_3 : w50.cell? ⟨gb325, 3, none⟩ = some (.string (⟨#[]⟩ : ByteArray)) := (blk_cell BK325.out 3).trans rfl; have hfz53_0 := blk_frozen BK325.out 0; have hfz53_1 := blk_frozen BK325.out 1; have hfz53_2 := blk_frozen BK325.out 2; have hfz53_3 := blk_frozen BK325.out 3))
          have n0_ : Aside0 (((((w50.setCell ⟨gb325, 0, none⟩ (.bool t320)).setCell ⟨gb325, 1, none⟩ (.int .i64 t321)).setCell ⟨gb325, 2, none⟩ (.int .i64 t322)).setCell ⟨gb325, 3, none⟩ (.string t323)).heap[gb303]? = some (.cells #[.bool t299, .int .i64 t300, .int .i64 t301, .string t302] 23 (0, 0))) := ⟨by (with_reducible repeat (first | refine blk_drewN ?_ _ | refine blk_drew ?_ | refine blk_alloc ?_ _)); refine blk_far ?_ NB303_325.out _; (with_reducible repeat (first | refine blk_drewN ?_ _ | refine blk_drew ?_ | refine blk_alloc ?_ _)); refine blk_far ?_ NB303_325.out _; (with_reducible repeat (first | refine blk_drewN ?_ _ | refine blk_drew ?_ | refine blk_alloc ?_ _)); refine blk_far ?_ NB303_325.out _; (with_reducible repeat (first | refine blk_drewN ?_ _ | refine blk_drew ?_ | refine blk_alloc ?_ _)); refine blk_far ?_ NB303_325.out _; (with_reducible repeat (first | refine blk_drewN ?_ _ | refine blk_drew ?_ | refine blk_alloc ?_ _)); exact BK303.out⟩
          have n1_ : Aside0 (((((w50.setCell ⟨gb325, 0, none⟩ (.bool t320)).setCell ⟨gb325, 1, none⟩ (.int .i64 t321)).setCell ⟨gb325, 2, none⟩ (.int .i64 t322)).setCell ⟨gb325, 3, none⟩ (.string t323)).heap[gb319]? = some (.cells #[.bool t314, .int .i64 t315, .int .i64 t316, .string t317] 23 (0, 0))) := ⟨by (with_reducible repeat (first | refine blk_drewN ?_ _ | refine blk_drew ?_ | refine blk_alloc ?_ _)); refine blk_far ?_ NB319_325.out _; (with_reducible repeat (first | refine blk_drewN ?_ _ | refine blk_drew ?_ | refine blk_alloc ?_ _)); refine blk_far ?_ NB319_325.out _; (with_reducible repeat (first | refine blk_drewN ?_ _ | refine blk_drew ?_ | refine blk_alloc ?_ _)); refine blk_far ?_ NB319_325.out _; (with_reducible repeat (first | refine blk_drewN ?_ _ | refine blk_drew ?_ | refine blk_alloc ?_ _)); refine blk_far ?_ NB319_325.out _; (with_reducible repeat (first | refine blk_drewN ?_ _ | refine blk_drew ?_ | refine blk_alloc ?_ _)); exact BK319.out⟩
          have n2_ : Aside0 (((((w50.setCell ⟨gb325, 0, none⟩ (.bool t320)).setCell ⟨gb325, 1, none⟩ (.int .i64 t321)).setCell ⟨gb325, 2, none⟩ (.int .i64 t322)).setCell ⟨gb325, 3, none⟩ (.string t323)).heap[gb325]? = some (.cells #[.bool t320, .int .i64 t321, .int .i64 t322, .string t323] 23 (0, 0))) := ⟨by (with_reducible repeat (first | refine blk_drewN ?_ _ | refine blk_drew ?_ | refine blk_alloc ?_ _)); refine blk_put (cs := #[.bool t320, .int .i64 t321, .int .i64 t322, .string (⟨#[]⟩ : ByteArray)]) ?_ 3 _ rfl; (with_reducible repeat (first | refine blk_drewN ?_ _ | refine blk_drew ?_ | refine blk_alloc ?_ _)); refine blk_put (cs := #[.bool t320, .int .i64 t321, .int .i64 0, .string (⟨#[]⟩ : ByteArray)]) ?_ 2 _ rfl; (with_reducible repeat (first | refine blk_drewN ?_ _ | refine blk_drew ?_ | refine blk_alloc ?_ _)); refine blk_put (cs := #[.bool t320, .int .i64 0, .int .i64 0, .string (⟨#[]⟩ : ByteArray)]) ?_ 1 _ rfl; (with_reducible repeat (first | refine blk_drewN ?_ _ | refine blk_drew ?_ | refine blk_alloc ?_ _)); refine blk_put (cs := #[.bool false, .int .i64 0, .int .i64 0, .string (⟨#[]⟩ : ByteArray)]) ?_ 0 _ rfl; (with_reducible repeat (first | refine blk_drewN ?_ _ | refine blk_drew ?_ | refine blk_alloc ?_ _)); exact BK325.out⟩
          have n3_ : Aside0 (Below w.heap.size w ((((w50.setCell ⟨gb325, 0, none⟩ (.bool t320)).setCell ⟨gb325, 1, none⟩ (.int .i64 t321)).setCell ⟨gb325, 2, none⟩ (.int .i64 t322)).setCell ⟨gb325, 3, none⟩ (.string t323))) := ⟨by repeat (first | (with_reducible first | exact HB.out | apply below_alloc | apply pw_below_drewN | apply below_drew1 | refine below_set ?_ GE303.out | refine below_set ?_ GE319.out | refine below_set ?_ GE325.out) | exact HB.out)⟩
          (try clear BK303)
          (try clear BK319)
          (try clear BK325)
          (try clear HB)
          generalize ((((w50.setCell ⟨gb325, 0, none⟩ (.bool t320)).setCell ⟨gb325, 1, none⟩ (.int .i64 t321)).setCell ⟨gb325, 2, none⟩ (.int .i64 t322)).setCell ⟨gb325, 3, none⟩ (.string t323)) = w54 at n0_ n1_ n2_ n3_ ⊢
          have BK303 := n0_
          have BK319 := n1_
          have BK325 := n2_
          have HB := n3_
          clear n0_ n1_ n2_ n3_
          have n0_ := m_ (blk_drew BK303.out)
          have n1_ := m_ (blk_drew BK319.out)
          have n2_ := m_ (blk_drew BK325.out)
          have n3_ := m_ (below_drew1 HB.out)
          clear BK303
          clear BK319
          clear BK325
          clear HB
          have BK303 := n0_
          have BK319 := n1_
          have BK325 := n2_
          have HB := n3_
          clear n0_ n1_ n2_ n3_
          refine start_ (n := 24) (S := fun w' => w'.cell? ⟨gb319, 0, none⟩ = some (.bool t314) ∧ w'.cell? ⟨gb319, 1, none⟩ = some (.int .i64 t315) ∧ w'.cell? ⟨gb319, 2, none⟩ = some (.int .i64 t316) ∧ w'.cell? ⟨gb319, 3, none⟩ = some (.string t317) ∧ w'.cell? ⟨gb325, 0, none⟩ = some (.bool t320) ∧ w'.cell? ⟨gb325, 1, none⟩ = some (.int .i64 t321) ∧ w'.cell? ⟨gb325, 2, none⟩ = some (.int .i64 t322) ∧ w'.cell? ⟨gb325, 3, none⟩ = some (.string t323)) (ds := []) #[false, false, false, false, false, false, false, false, false, false, false, false, false, false, false, false, false, false, false, false, false, false, false, false] (by kernel_rfl) rfl rfl ⟨(blk_cell BK319.out 0).trans rfl, (blk_cell BK319.out 1).trans rfl, (blk_cell BK319.out 2).trans rfl, (blk_cell BK319.out 3).trans rfl, (blk_cell BK325.out 0).trans rfl, (blk_cell BK325.out 1).trans rfl, (blk_cell BK325.out 2).trans rfl, (blk_cell BK325.out 3).trans rfl⟩ (fun hHeld => ?_); refine with_tabW laws_FnPacketBack.tab14 laws_FnPacketBack.bits14 (fun HT_ HW_ => ?_)
          generalize w54.drew = w55 at BK303 BK319 BK325 HB hHeld ⊢
          refine take_ (i := 0) (N := some 66) (v := ?_) (a' := ?_) #[true, false, false, false, false, false, false, false, false, false, false, false, false, false, false, false, false, false, false, false, false, false, false, false] rfl rfl (take_ofW HT_.out HW_.out (by kernel_rfl)) (fun _ _ _ h => h) (Or.inl ⟨by rfl, ?_⟩) hHeld ?_ ?_
          rotate_left
          ·rintro w' ⟨s0, s1, s2, s3, s4, s5, s6, s7⟩
           go_simp
           with_reducible rfl
          rotate_left
          ·simp only [Act.put, List.setIfInBounds_toArray, List.set_cons_zero, List.set_cons_succ, i64_w, i32_w]
           rfl
          refine take_ (i := 1) (N := some 67) (v := ?_) (a' := ?_) #[true, true, false, false, false, false, false, false, false, false, false, false, false, false, false, false, false, false, false, false, false, false, false, false] rfl rfl (take_ofW HT_.out HW_.out (by kernel_rfl)) (fun _ _ _ h => h) (Or.inl ⟨by rfl, ?_⟩) hHeld ?_ ?_
          rotate_left
          ·rintro w' ⟨s0, s1, s2, s3, s4, s5, s6, s7⟩
           go_simp
           with_reducible rfl
          rotate_left
          ·simp only [Act.put, List.setIfInBounds_toArray, List.set_cons_zero, List.set_cons_succ, i64_w, i32_w]
           rfl
          refine pu 2 68 HT_ (h := ?_)
          refine pu 3 69 HT_ (h := ?_)
          refine pu 4 70 HT_ (h := ?_)
          refine pu 5 71 HT_ (h := ?_)
          refine pu 6 72 HT_ (h := ?_)
          refine pu 7 73 HT_ (h := ?_)
          refine pu 8 74 HT_ (h := ?_)
          refine pu 9 75 HT_ (h := ?_)
          refine pu 10 76 HT_ (h := ?_)
          refine pu 11 77 HT_ (h := ?_)
          refine pv 12 78 HT_ (h := ?_)
          refine pv 13 79 HT_ (h := ?_)
          refine pv 14 80 HT_ (h := ?_)
          refine pv 15 81 HT_ (h := ?_)
          refine pv 16 82 HT_ (h := ?_)
          refine pv 17 83 HT_ (h := ?_)
          refine pv 18 84 HT_ (h := ?_)
          refine pv 19 85 HT_ (h := ?_)
          refine pv 20 86 HT_ (h := ?_)
          refine pu 21 87 HT_ (h := ?_)
          refine pu 22 88 HT_ (h := ?_)
          refine pu 23 4 HT_ (h := ?_)
          refine done_ (done_of HT_.out (by kernel_rfl)) ?_
          try go_wp2
          go_ret
          exact ⟨by first | rfl | (simp [errW_none, errW_some] <;> rfl) | (simp [*, errW_none, errW_some] <;> rfl), by repeat (first | (with_reducible first | exact HB.out | apply below_alloc | apply pw_below_drewN | apply below_drew1 | refine below_set ?_ GE303.out | refine below_set ?_ GE319.out | refine below_set ?_ GE325.out) | exact HB.out)⟩
         ·rw [if_neg c43] at H
          have c43b0 : (t318 == 0) = false := beq_eq_false_iff_ne.mpr c43
          have c43b1 : (t318 != 0) = true := bne_iff_ne.mpr c43
          replace H := Option.bind_eq_some_iff.mp H
          obtain ⟨t326, A560, H⟩ := H
          replace H : (if 0 ≤ t313 then (if t313 ≤ (wrap64 (t313 + t318)) then (if (wrap64 (t313 + t318)) ≤ (t312.size : Int) then (some (t326.toList == (t312.extract (t313 : Int).toNat ((wrap64 (t313 + t318)) : Int).toNat).toList)) else (none)) else (none)) else (none)) = some r := H
          have A56 := Aside0.mk A560
          clear A560
          by_cases c57 : 0 ≤ t313
          ·rw [if_pos c57] at H
           have c57b0 := eq_true c57
           have c57b1 : decide (0 ≤ t313) = true := decide_eq_true c57
           clear c57
           by_cases c58 : t313 ≤ (wrap64 (t313 + t318))
           ·rw [if_pos c58] at H
            have c58b0 := eq_true c58
            have c58b1 : decide (t313 ≤ (wrap64 (t313 + t318))) = true := decide_eq_true c58
            by_cases c59 : (wrap64 (t313 + t318)) ≤ (t312.size : Int)
            ·rw [if_pos c59] at H
             have c59b0 := eq_true c59
             have c59b1 : decide ((wrap64 (t313 + t318)) ≤ (t312.size : Int)) = true := decide_eq_true c59
             obtain rfl := Option.some.inj H
             try go_wp2_with (first | ((with_reducible refine gate_callee (f := 16) rfl ?_); refine goesL_ (some 51) rfl rfl Tryd.func16 (by kernel_rfl) rfl #[.slice A1 l1.length c1] rfl gl_ ?_; (with_reducible refine (spec_DrawPacketGet.calls kj9 _ _ l1 t312 t313 _ ?side1 ?side2 A38.out).mono ?_); (case side1 => exact cN (Kd.C_below HR1.out HB.out)); (case side2 => exact HC1.out); rintro e w60 ⟨rfl, hb⟩; refine ⟨_, rfl, ?_⟩; have n0_ := m_ (blk_below (kN BK303.out) hb); have n1_ := m_ (below_step (bN HB.out) hb); clear BK303; clear HB; have BK303 := n0_; have HB := n1_; clear n0_ n1_; (try clear hb); (try clear hb2); (try clear hk); (try clear hi)) | ((with_reducible refine gate_callee (f := 11) rfl ?_); refine goesL_ (some 57) rfl rfl Tryd.func11 (by kernel_rfl) rfl #[.string t312, .int .i64 t313] rfl gl_ ?_; (with_reducible refine (impl_PacketGet.calls kj9 t312 t313 t314 t315 t316 t317 t318 _ A39.out).mono ?_); rintro e w61 ⟨rfl, hb⟩; refine ⟨_, rfl, ?_⟩; have n0_ := m_ (blk_below (kN BK303.out) hb); have n1_ := m_ (below_step (bN HB.out) hb); clear BK303; clear HB; have BK303 := n0_; have HB := n1_; clear n0_ n1_; (try clear hb); (try clear hb2); (try clear hk); (try clear hi)) | ((with_reducible refine gate_dst (N := 11) rfl ?_); (try (refine gate_guard (by rfl) ?_; dsimp only)); refine box_event ?hg (N := 11) ?hd (cs := #[.bool false, .int .i64 0, .int .i64 0, .string (⟨#[]⟩ : ByteArray)]) (t := 23) ?hr ?_; (case hd => rfl); (case hg => rfl); (case hr => first | (go_simp; done) | (go_simp; rfl)); intro gb319 hg w62 hbox hb; have n0_ := m_ (blk_below (kN BK303.out) hb); have n1_ := m_ (below_step (bN HB.out) hb); have n2_ := m_ (hbox); have n3_ := m_ ((by rw [hg]; exact (below_size (bN HB.out)) : w.heap.size ≤ gb319)); have n4_ := m_ ((by rw [hg]; exact (below_size (bN HB.out)) : w.heap.size ≤ gb319)); have n5_ := m_ ((by rw [hg]; exact Nat.ne_of_lt (blk_lt (g := gb303) (o := .cells #[.bool t299, .int .i64 t300, .int .i64 t301, .string t302] 23 (0, 0)) (kN BK303.out)) : gb303 ≠ gb319)); have n6_ := m_ ((by rw [hg]; exact Nat.ne_of_gt (blk_lt (g := gb303) (o := .cells #[.bool t299, .int .i64 t300, .int .i64 t301, .string t302] 23 (0, 0)) (kN BK303.out)) : gb319 ≠ gb303)); clear BK303; clear HB; have BK303 := n0_; have HB := n1_; have BK319 := n2_; have GW319 := n3_; have GE319 := n4_; have NB303_319 := n5_; have NB319_303 := n6_; clear n0_ n1_ n2_ n3_ n4_ n5_ n6_; clear hb hbox hg; have hnb63 := NB319_303.out; have hnc63 := NB303_319.out; have hcz64_0 : w62.cell? ⟨gb319, 0, none⟩ = some (.bool false) := (blk_cell BK319.out 0).trans rfl; have hcz64_1 : w62.cell? ⟨gb319, 1, none⟩ = some (.int .i64 0) := (blk_cell BK319.out 1).trans rfl; have hcz64_2 : w62.cell? ⟨gb319, 2, none⟩ = some (.int .i64 0) := (blk_cell BK319.out 2).trans rfl; have hcz64_3 : w62.cell? ⟨gb319, 3, none⟩ = some (.string (⟨#[]⟩ : ByteArray)) := (blk_cell BK319.out 3).trans rfl; have hfz64_0 := blk_frozen BK319.out 0; have hfz64_1 := blk_frozen BK319.out 1; have hfz64_2 := blk_frozen BK319.out 2; have hfz64_3 := blk_frozen BK319.out 3) | ((with_reducible refine gate_callee (f := 10) rfl ?_); refine goesL_ (some 63) rfl rfl Tryd.func10 (by kernel_rfl) rfl #[.string t312, .int .i64 t313] rfl gl_ ?_; (with_reducible refine (spec_PacketGet.calls kj9 t312 t313 t320 t321 t322 t323 t324 _ A40.out).mono ?_); rintro e w65 ⟨rfl, hb⟩; refine ⟨_, rfl, ?_⟩; have n0_ := m_ (blk_below (g := gb303) (o := .cells #[.bool t299, .int .i64 t300, .int .i64 t301, .string t302] 23 (0, 0)) (kF BK303.out NB303_319.out) hb); have n1_ := m_ (blk_below (g := gb319) (o := .cells #[.bool t314, .int .i64 t315, .int .i64 t316, .string t317] 23 (0, 0)) (by (with_reducible repeat (first | refine blk_drewN ?_ _ | refine blk_drew ?_ | refine blk_alloc ?_ _)); refine blk_put (cs := #[.bool t314, .int .i64 t315, .int .i64 t316, .string (⟨#[]⟩ : ByteArray)]) ?_ 3 _ rfl; (with_reducible repeat (first | refine blk_drewN ?_ _ | refine blk_drew ?_ | refine blk_alloc ?_ _)); refine blk_put (cs := #[.bool t314, .int .i64 t315, .int .i64 0, .string (⟨#[]⟩ : ByteArray)]) ?_ 2 _ rfl; (with_reducible repeat (first | refine blk_drewN ?_ _ | refine blk_drew ?_ | refine blk_alloc ?_ _)); refine blk_put (cs := #[.bool t314, .int .i64 0, .int .i64 0, .string (⟨#[]⟩ : ByteArray)]) ?_ 1 _ rfl; (with_reducible repeat (first | refine blk_drewN ?_ _ | refine blk_drew ?_ | refine blk_alloc ?_ _)); refine blk_put (cs := #[.bool false, .int .i64 0, .int .i64 0, .string (⟨#[]⟩ : ByteArray)]) ?_ 0 _ rfl; (with_reducible repeat (first | refine blk_drewN ?_ _ | refine blk_drew ?_ | refine blk_alloc ?_ _)); exact BK319.out) hb); have n2_ := m_ (below_step (bN HB.out) hb); clear BK303; clear BK319; clear HB; have BK303 := n0_; have BK319 := n1_; have HB := n2_; clear n0_ n1_ n2_; (try clear hb); (try clear hb2); (try clear hk); (try clear hi)) | ((with_reducible refine gate_dst (N := 13) rfl ?_); (try (refine gate_guard (by rfl) ?_; dsimp only)); refine box_event ?hg (N := 13) ?hd (cs := #[.bool false, .int .i64 0, .int .i64 0, .string (⟨#[]⟩ : ByteArray)]) (t := 23) ?hr ?_; (case hd => rfl); (case hg => rfl); (case hr => first | (go_simp; done) | (go_simp; rfl)); intro gb325 hg w66 hbox hb; have n0_ := m_ (blk_below (kN BK303.out) hb); have n1_ := m_ (blk_below (kN BK319.out) hb); have n2_ := m_ (below_step (bN HB.out) hb); have n3_ := m_ (hbox); have n4_ := m_ ((by rw [hg]; exact (below_size (bN HB.out)) : w.heap.size ≤ gb325)); have n5_ := m_ ((by rw [hg]; exact (below_size (bN HB.out)) : w.heap.size ≤ gb325)); have n6_ := m_ ((by rw [hg]; exact Nat.ne_of_lt (blk_lt (g := gb303) (o := .cells #[.bool t299, .int .i64 t300, .int .i64 t301, .string t302] 23 (0, 0)) (kN BK303.out)) : gb303 ≠ gb325)); have n7_ := m_ ((by rw [hg]; exact Nat.ne_of_gt (blk_lt (g := gb303) (o := .cells #[.bool t299, .int .i64 t300, .int .i64 t301, .string t302] 23 (0, 0)) (kN BK303.out)) : gb325 ≠ gb303)); have n8_ := m_ ((by rw [hg]; exact Nat.ne_of_lt (blk_lt (g := gb319) (o := .cells #[.bool t314, .int .i64 t315, .int .i64 t316, .string t317] 23 (0, 0)) (kN BK319.out)) : gb319 ≠ gb325)); have n9_ := m_ ((by rw [hg]; exact Nat.ne_of_gt (blk_lt (g := gb319) (o := .cells #[.bool t314, .int .i64 t315, .int .i64 t316, .string t317] 23 (0, 0)) (kN BK319.out)) : gb325 ≠ gb319)); clear BK303; clear BK319; clear HB; have BK303 := n0_; have BK319 := n1_; have HB := n2_; have BK325 := n3_; have GW325 := n4_; have GE325 := n5_; have NB303_325 := n6_; have NB325_303 := n7_; have NB319_325 := n8_; have NB325_319 := n9_; clear n0_ n1_ n2_ n3_ n4_ n5_ n6_ n7_ n8_ n9_; clear hb hbox hg; have hnb67 := NB325_303.out; have hnc67 := NB303_325.out; have hnb68 := NB325_319.out; have hnc68 := NB319_325.out; have hcz69_0 : w66.cell? ⟨gb325, 0, none⟩ = some (.bool false) := (blk_cell BK325.out 0).trans rfl; have hcz69_1 : w66.cell? ⟨gb325, 1, none⟩ = some (.int .i64 0) := (blk_cell BK325.out 1).trans rfl; have hcz69_2 : w66.cell? ⟨gb325, 2, none⟩ = some (.int .i64 0) := (blk_cell BK325.out 2).trans rfl; have hcz69_3 : w66.cell? ⟨gb325, 3, none⟩ = some (.string (⟨#[]⟩ : ByteArray)) := (blk_cell BK325.out 3).trans rfl; have hfz69_0 := blk_frozen BK325.out 0; have hfz69_1 := blk_frozen BK325.out 1; have hfz69_2 := blk_frozen BK325.out 2; have hfz69_3 := blk_frozen BK325.out 3))
             have n0_ : Aside0 (((((w66.setCell ⟨gb325, 0, none⟩ (.bool t320)).setCell ⟨gb325, 1, none⟩ (.int .i64 t321)).setCell ⟨gb325, 2, none⟩ (.int .i64 t322)).setCell ⟨gb325, 3, none⟩ (.string t323)).heap[gb303]? = some (.cells #[.bool t299, .int .i64 t300, .int .i64 t301, .string t302] 23 (0, 0))) := ⟨by (with_reducible repeat (first | refine blk_drewN ?_ _ | refine blk_drew ?_ | refine blk_alloc ?_ _)); refine blk_far ?_ NB303_325.out _; (with_reducible repeat (first | refine blk_drewN ?_ _ | refine blk_drew ?_ | refine blk_alloc ?_ _)); refine blk_far ?_ NB303_325.out _; (with_reducible repeat (first | refine blk_drewN ?_ _ | refine blk_drew ?_ | refine blk_alloc ?_ _)); refine blk_far ?_ NB303_325.out _; (with_reducible repeat (first | refine blk_drewN ?_ _ | refine blk_drew ?_ | refine blk_alloc ?_ _)); refine blk_far ?_ NB303_325.out _; (with_reducible repeat (first | refine blk_drewN ?_ _ | refine blk_drew ?_ | refine blk_alloc ?_ _)); exact BK303.out⟩
             have n1_ : Aside0 (((((w66.setCell ⟨gb325, 0, none⟩ (.bool t320)).setCell ⟨gb325, 1, none⟩ (.int .i64 t321)).setCell ⟨gb325, 2, none⟩ (.int .i64 t322)).setCell ⟨gb325, 3, none⟩ (.string t323)).heap[gb319]? = some (.cells #[.bool t314, .int .i64 t315, .int .i64 t316, .string t317] 23 (0, 0))) := ⟨by (with_reducible repeat (first | refine blk_drewN ?_ _ | refine blk_drew ?_ | refine blk_alloc ?_ _)); refine blk_far ?_ NB319_325.out _; (with_reducible repeat (first | refine blk_drewN ?_ _ | refine blk_drew ?_ | refine blk_alloc ?_ _)); refine blk_far ?_ NB319_325.out _; (with_reducible repeat (first | refine blk_drewN ?_ _ | refine blk_drew ?_ | refine blk_alloc ?_ _)); refine blk_far ?_ NB319_325.out _; (with_reducible repeat (first | refine blk_drewN ?_ _ | refine blk_drew ?_ | refine blk_alloc ?_ _)); refine blk_far ?_ NB319_325.out _; (with_reducible repeat (first | refine blk_drewN ?_ _ | refine blk_drew ?_ | refine blk_alloc ?_ _)); exact BK319.out⟩
             have n2_ : Aside0 (((((w66.setCell ⟨gb325, 0, none⟩ (.bool t320)).setCell ⟨gb325, 1, none⟩ (.int .i64 t321)).setCell ⟨gb325, 2, none⟩ (.int .i64 t322)).setCell ⟨gb325, 3, none⟩ (.string t323)).heap[gb325]? = some (.cells #[.bool t320, .int .i64 t321, .int .i64 t322, .string t323] 23 (0, 0))) := ⟨by (with_reducible repeat (first | refine blk_drewN ?_ _ | refine blk_drew ?_ | refine blk_alloc ?_ _)); refine blk_put (cs := #[.bool t320, .int .i64 t321, .int .i64 t322, .string (⟨#[]⟩ : ByteArray)]) ?_ 3 _ rfl; (with_reducible repeat (first | refine blk_drewN ?_ _ | refine blk_drew ?_ | refine blk_alloc ?_ _)); refine blk_put (cs := #[.bool t320, .int .i64 t321, .int .i64 0, .string (⟨#[]⟩ : ByteArray)]) ?_ 2 _ rfl; (with_reducible repeat (first | refine blk_drewN ?_ _ | refine blk_drew ?_ | refine blk_alloc ?_ _)); refine blk_put (cs := #[.bool t320, .int .i64 0, .int .i64 0, .string (⟨#[]⟩ : ByteArray)]) ?_ 1 _ rfl; (with_reducible repeat (first | refine blk_drewN ?_ _ | refine blk_drew ?_ | refine blk_alloc ?_ _)); refine blk_put (cs := #[.bool false, .int .i64 0, .int .i64 0, .string (⟨#[]⟩ : ByteArray)]) ?_ 0 _ rfl; (with_reducible repeat (first | refine blk_drewN ?_ _ | refine blk_drew ?_ | refine blk_alloc ?_ _)); exact BK325.out⟩
             have n3_ : Aside0 (Below w.heap.size w ((((w66.setCell ⟨gb325, 0, none⟩ (.bool t320)).setCell ⟨gb325, 1, none⟩ (.int .i64 t321)).setCell ⟨gb325, 2, none⟩ (.int .i64 t322)).setCell ⟨gb325, 3, none⟩ (.string t323))) := ⟨by repeat (first | (with_reducible first | exact HB.out | apply below_alloc | apply pw_below_drewN | apply below_drew1 | refine below_set ?_ GE303.out | refine below_set ?_ GE319.out | refine below_set ?_ GE325.out) | exact HB.out)⟩
             (try clear BK303)
             (try clear BK319)
             (try clear BK325)
             (try clear HB)
             generalize ((((w66.setCell ⟨gb325, 0, none⟩ (.bool t320)).setCell ⟨gb325, 1, none⟩ (.int .i64 t321)).setCell ⟨gb325, 2, none⟩ (.int .i64 t322)).setCell ⟨gb325, 3, none⟩ (.string t323)) = w70 at n0_ n1_ n2_ n3_ ⊢
             have BK303 := n0_
             have BK319 := n1_
             have BK325 := n2_
             have HB := n3_
             clear n0_ n1_ n2_ n3_
             have n0_ := m_ (blk_drew BK303.out)
             have n1_ := m_ (blk_drew BK319.out)
             have n2_ := m_ (blk_drew BK325.out)
             have n3_ := m_ (below_drew1 HB.out)
             clear BK303
             clear BK319
             clear BK325
             clear HB
             have BK303 := n0_
             have BK319 := n1_
             have BK325 := n2_
             have HB := n3_
             clear n0_ n1_ n2_ n3_
             refine start_ (n := 24) (S := fun w' => w'.cell? ⟨gb319, 0, none⟩ = some (.bool t314) ∧ w'.cell? ⟨gb319, 1, none⟩ = some (.int .i64 t315) ∧ w'.cell? ⟨gb319, 2, none⟩ = some (.int .i64 t316) ∧ w'.cell? ⟨gb319, 3, none⟩ = some (.string t317) ∧ w'.cell? ⟨gb325, 0, none⟩ = some (.bool t320) ∧ w'.cell? ⟨gb325, 1, none⟩ = some (.int .i64 t321) ∧ w'.cell? ⟨gb325, 2, none⟩ = some (.int .i64 t322) ∧ w'.cell? ⟨gb325, 3, none⟩ = some (.string t323)) (ds := []) #[false, false, false, false, false, false, false, false, false, false, false, false, false, false, false, false, false, false, false, false, false, false, false, false] (by kernel_rfl) rfl rfl ⟨(blk_cell BK319.out 0).trans rfl, (blk_cell BK319.out 1).trans rfl, (blk_cell BK319.out 2).trans rfl, (blk_cell BK319.out 3).trans rfl, (blk_cell BK325.out 0).trans rfl, (blk_cell BK325.out 1).trans rfl, (blk_cell BK325.out 2).trans rfl, (blk_cell BK325.out 3).trans rfl⟩ (fun hHeld => ?_); refine with_tabW laws_FnPacketBack.tab14 laws_FnPacketBack.bits14 (fun HT_ HW_ => ?_)
             generalize w70.drew = w71 at BK303 BK319 BK325 HB hHeld ⊢
             refine take_ (i := 0) (N := some 66) (v := ?_) (a' := ?_) #[true, false, false, false, false, false, false, false, false, false, false, false, false, false, false, false, false, false, false, false, false, false, false, false] rfl rfl (take_ofW HT_.out HW_.out (by kernel_rfl)) (fun _ _ _ h => h) (Or.inl ⟨by rfl, ?_⟩) hHeld ?_ ?_
             rotate_left
             ·rintro w' ⟨s0, s1, s2, s3, s4, s5, s6, s7⟩
              go_simp
              with_reducible rfl
             rotate_left
             ·simp only [Act.put, List.setIfInBounds_toArray, List.set_cons_zero, List.set_cons_succ, i64_w, i32_w]
              rfl
             refine take_ (i := 1) (N := some 67) (v := ?_) (a' := ?_) #[true, true, false, false, false, false, false, false, false, false, false, false, false, false, false, false, false, false, false, false, false, false, false, false] rfl rfl (take_ofW HT_.out HW_.out (by kernel_rfl)) (fun _ _ _ h => h) (Or.inl ⟨by rfl, ?_⟩) hHeld ?_ ?_
             rotate_left
             ·rintro w' ⟨s0, s1, s2, s3, s4, s5, s6, s7⟩
              go_simp
              with_reducible rfl
             rotate_left
             ·simp only [Act.put, List.setIfInBounds_toArray, List.set_cons_zero, List.set_cons_succ, i64_w, i32_w]
              rfl
             refine pu 2 68 HT_ (h := ?_)
             refine pu 3 69 HT_ (h := ?_)
             refine pu 4 70 HT_ (h := ?_)
             refine pu 5 71 HT_ (h := ?_)
             refine pu 6 72 HT_ (h := ?_)
             refine pu 7 73 HT_ (h := ?_)
             refine pu 8 74 HT_ (h := ?_)
             refine pu 9 75 HT_ (h := ?_)
             refine pu 10 76 HT_ (h := ?_)
             refine pu 11 77 HT_ (h := ?_)
             refine pu 14 80 HT_ (h := ?_)
             refine pu 15 81 HT_ (h := ?_)
             refine pu 16 82 HT_ (h := ?_)
             refine pu 17 83 HT_ (h := ?_)
             refine pu 18 84 HT_ (h := ?_)
             refine pu 19 85 HT_ (h := ?_)
             refine take_ (i := 12) (N := some 78) (v := ?_) (a' := ?_) #[true, true, true, true, true, true, true, true, true, true, true, true, true, false, true, true, true, true, true, true, false, false, false, false] rfl rfl (take_ofW HT_.out HW_.out (by kernel_rfl)) (fun _ _ _ h => h) (Or.inl ⟨by rfl, ?_⟩) hHeld ?_ ?_
             rotate_left
             ·rintro w' ⟨s0, s1, s2, s3, s4, s5, s6, s7⟩
              go_simp
              with_reducible rfl
             rotate_left
             ·simp only [Act.put, List.setIfInBounds_toArray, List.set_cons_zero, List.set_cons_succ, i64_w, i32_w]
              rfl
             refine one_ (i := 13) (N := some 79) #[true, true, true, true, true, true, true, true, true, true, true, true, true, true, true, true, true, true, true, true, false, false, false, false] rfl rfl (one_of HT_.out (by kernel_rfl)) (by decide) (fun K hK => ?_)
             refine goes_ Tryd.func14 (by kernel_rfl) rfl #[.agg #[.bool t314, .int .i64 t315, .int .i64 t316, .string t317]] (by rfl) rfl rfl gl_ ?_
             with_reducible refine (impl_PacketPut.calls kj9 t314 t315 t316 t317 t326 _ A56.out).mono ?_
             rintro e w72 ⟨rfl, hb⟩
             refine ⟨_, rfl, ?_⟩
             have n0_ := m_ (blk_below (kN BK303.out) hb)
             have n1_ := m_ (blk_below (kN BK319.out) hb)
             have n2_ := m_ (blk_below (kN BK325.out) hb)
             have n3_ := m_ (below_step (bN HB.out) hb)
             clear BK303
             clear BK319
             clear BK325
             clear HB
             have BK303 := n0_
             have BK319 := n1_
             have BK325 := n2_
             have HB := n3_
             clear n0_ n1_ n2_ n3_
             (try clear hb)
             (try clear hb2)
             (try clear hk)
             (try clear hi)
             refine hK.out _ _ ⟨(blk_cell BK319.out 0).trans rfl, (blk_cell BK319.out 1).trans rfl, (blk_cell BK319.out 2).trans rfl, (blk_cell BK319.out 3).trans rfl, (blk_cell BK325.out 0).trans rfl, (blk_cell BK325.out 1).trans rfl, (blk_cell BK325.out 2).trans rfl, (blk_cell BK325.out 3).trans rfl⟩ (fun hHeld => ?_)
             clear hK K
             refine norm_ (a' := ?_) ?_ ?_
             rotate_left
             ·show Act.put _ (some 79) _ = _
              simp only [Act.put, List.setIfInBounds_toArray, List.set_cons_zero, List.set_cons_succ, i64_w, i32_w]
              rfl
             refine pu 20 86 HT_ (h := ?_)
             refine pu 21 87 HT_ (h := ?_)
             refine pu 22 88 HT_ (h := ?_)
             refine pu 23 4 HT_ (h := ?_)
             refine done_ (done_of HT_.out (by kernel_rfl)) ?_
             try go_wp2
             go_ret
             exact ⟨by first | rfl | (simp [errW_none, errW_some] <;> rfl) | (simp [*, errW_none, errW_some] <;> rfl), by repeat (first | (with_reducible first | exact HB.out | apply below_alloc | apply pw_below_drewN | apply below_drew1 | refine below_set ?_ GE303.out | refine below_set ?_ GE319.out | refine below_set ?_ GE325.out) | exact HB.out)⟩
            ·rw [if_neg c59] at H
             exact absurd H (by simp)
           ·rw [if_neg c58] at H
            exact absurd H (by simp)
          ·rw [if_neg c57] at H
           exact absurd H (by simp)
        ·rw [if_neg c42] at H
         have c42b0 : (t318 == t324) = false := beq_eq_false_iff_ne.mpr c42
         have c42b1 : (t318 != t324) = true := bne_iff_ne.mpr c42
         obtain rfl := Option.some.inj H
         try go_wp2_with (first | ((with_reducible refine gate_callee (f := 16) rfl ?_); refine goesL_ (some 51) rfl rfl Tryd.func16 (by kernel_rfl) rfl #[.slice A1 l1.length c1] rfl gl_ ?_; (with_reducible refine (spec_DrawPacketGet.calls kj9 _ _ l1 t312 t313 _ ?side1 ?side2 A38.out).mono ?_); (case side1 => exact cN (Kd.C_below HR1.out HB.out)); (case side2 => exact HC1.out); rintro e w73 ⟨rfl, hb⟩; refine ⟨_, rfl, ?_⟩; have n0_ := m_ (blk_below (kN BK303.out) hb); have n1_ := m_ (below_step (bN HB.out) hb); clear BK303; clear HB; have BK303 := n0_; have HB := n1_; clear n0_ n1_; (try clear hb); (try clear hb2); (try clear hk); (try clear hi)) | ((with_reducible refine gate_callee (f := 11) rfl ?_); refine goesL_ (some 57) rfl rfl Tryd.func11 (by kernel_rfl) rfl #[.string t312, .int .i64 t313] rfl gl_ ?_; (with_reducible refine (impl_PacketGet.calls kj9 t312 t313 t314 t315 t316 t317 t318 _ A39.out).mono ?_); rintro e w74 ⟨rfl, hb⟩; refine ⟨_, rfl, ?_⟩; have n0_ := m_ (blk_below (kN BK303.out) hb); have n1_ := m_ (below_step (bN HB.out) hb); clear BK303; clear HB; have BK303 := n0_; have HB := n1_; clear n0_ n1_; (try clear hb); (try clear hb2); (try clear hk); (try clear hi)) | ((with_reducible refine gate_dst (N := 11) rfl ?_); (try (refine gate_guard (by rfl) ?_; dsimp only)); refine box_event ?hg (N := 11) ?hd (cs := #[.bool false, .int .i64 0, .int .i64 0, .string (⟨#[]⟩ : ByteArray)]) (t := 23) ?hr ?_; (case hd => rfl); (case hg => rfl); (case hr => first | (go_simp; done) | (go_simp; rfl)); intro gb319 hg w75 hbox hb; have n0_ := m_ (blk_below (kN BK303.out) hb); have n1_ := m_ (below_step (bN HB.out) hb); have n2_ := m_ (hbox); have n3_ := m_ ((by rw [hg]; exact (below_size (bN HB.out)) : w.heap.size ≤ gb319)); have n4_ := m_ ((by rw [hg]; exact (below_size (bN HB.out)) : w.heap.size ≤ gb319)); have n5_ := m_ ((by rw [hg]; exact Nat.ne_of_lt (blk_lt (g := gb303) (o := .cells #[.bool t299, .int .i64 t300, .int .i64 t301, .string t302] 23 (0, 0)) (kN BK303.out)) : gb303 ≠ gb319)); have n6_ := m_ ((by rw [hg]; exact Nat.ne_of_gt (blk_lt (g := gb303) (o := .cells #[.bool t299, .int .i64 t300, .int .i64 t301, .string t302] 23 (0, 0)) (kN BK303.out)) : gb319 ≠ gb303)); clear BK303; clear HB; have BK303 := n0_; have HB := n1_; have BK319 := n2_; have GW319 := n3_; have GE319 := n4_; have NB303_319 := n5_; have NB319_303 := n6_; clear n0_ n1_ n2_ n3_ n4_ n5_ n6_; clear hb hbox hg; have hnb76 := NB319_303.out; have hnc76 := NB303_319.out; have hcz77_0 : w75.cell? ⟨gb319, 0, none⟩ = some (.bool false) := (blk_cell BK319.out 0).trans rfl; have hcz77_1 : w75.cell? ⟨gb319, 1, none⟩ = some (.int .i64 0) := (blk_cell BK319.out 1).trans rfl; have hcz77_2 : w75.cell? ⟨gb319, 2, none⟩ = some (.int .i64 0) := (blk_cell BK319.out 2).trans rfl; have hcz77_3 : w75.cell? ⟨gb319, 3, none⟩ = some (.string (⟨#[]⟩ : ByteArray)) := (blk_cell BK319.out 3).trans rfl; have hfz77_0 := blk_frozen BK319.out 0; have hfz77_1 := blk_frozen BK319.out 1; have hfz77_2 := blk_frozen BK319.out 2; have hfz77_3 := blk_frozen BK319.out 3) | ((with_reducible refine gate_callee (f := 10) rfl ?_); refine goesL_ (some 63) rfl rfl Tryd.func10 (by kernel_rfl) rfl #[.string t312, .int .i64 t313] rfl gl_ ?_; (with_reducible refine (spec_PacketGet.calls kj9 t312 t313 t320 t321 t322 t323 t324 _ A40.out).mono ?_); rintro e w78 ⟨rfl, hb⟩; refine ⟨_, rfl, ?_⟩; have n0_ := m_ (blk_below (g := gb303) (o := .cells #[.bool t299, .int .i64 t300, .int .i64 t301, .string t302] 23 (0, 0)) (kF BK303.out NB303_319.out) hb); have n1_ := m_ (blk_below (g := gb319) (o := .cells #[.bool t314, .int .i64 t315, .int .i64 t316, .string t317] 23 (0, 0)) (by (with_reducible repeat (first | refine blk_drewN ?_ _ | refine blk_drew ?_ | refine blk_alloc ?_ _)); refine blk_put (cs := #[.bool t314, .int .i64 t315, .int .i64 t316, .string (⟨#[]⟩ : ByteArray)]) ?_ 3 _ rfl; (with_reducible repeat (first | refine blk_drewN ?_ _ | refine blk_drew ?_ | refine blk_alloc ?_ _)); refine blk_put (cs := #[.bool t314, .int .i64 t315, .int .i64 0, .string (⟨#[]⟩ : ByteArray)]) ?_ 2 _ rfl; (with_reducible repeat (first | refine blk_drewN ?_ _ | refine blk_drew ?_ | refine blk_alloc ?_ _)); refine blk_put (cs := #[.bool t314, .int .i64 0, .int .i64 0, .string (⟨#[]⟩ : ByteArray)]) ?_ 1 _ rfl; (with_reducible repeat (first | refine blk_drewN ?_ _ | refine blk_drew ?_ | refine blk_alloc ?_ _)); refine blk_put (cs := #[.bool false, .int .i64 0, .int .i64 0, .string (⟨#[]⟩ : ByteArray)]) ?_ 0 _ rfl; (with_reducible repeat (first | refine blk_drewN ?_ _ | refine blk_drew ?_ | refine blk_alloc ?_ _)); exact BK319.out) hb); have n2_ := m_ (below_step (bN HB.out) hb); clear BK303; clear BK319; clear HB; have BK303 := n0_; have BK319 := n1_; have HB := n2_; clear n0_ n1_ n2_; (try clear hb); (try clear hb2); (try clear hk); (try clear hi)) | ((with_reducible refine gate_dst (N := 13) rfl ?_); (try (refine gate_guard (by rfl) ?_; dsimp only)); refine box_event ?hg (N := 13) ?hd (cs := #[.bool false, .int .i64 0, .int .i64 0, .string (⟨#[]⟩ : ByteArray)]) (t := 23) ?hr ?_; (case hd => rfl); (case hg => rfl); (case hr => first | (go_simp; done) | (go_simp; rfl)); intro gb325 hg w79 hbox hb; have n0_ := m_ (blk_below (kN BK303.out) hb); have n1_ := m_ (blk_below (kN BK319.out) hb); have n2_ := m_ (below_step (bN HB.out) hb); have n3_ := m_ (hbox); have n4_ := m_ ((by rw [hg]; exact (below_size (bN HB.out)) : w.heap.size ≤ gb325)); have n5_ := m_ ((by rw [hg]; exact (below_size (bN HB.out)) : w.heap.size ≤ gb325)); have n6_ := m_ ((by rw [hg]; exact Nat.ne_of_lt (blk_lt (g := gb303) (o := .cells #[.bool t299, .int .i64 t300, .int .i64 t301, .string t302] 23 (0, 0)) (kN BK303.out)) : gb303 ≠ gb325)); have n7_ := m_ ((by rw [hg]; exact Nat.ne_of_gt (blk_lt (g := gb303) (o := .cells #[.bool t299, .int .i64 t300, .int .i64 t301, .string t302] 23 (0, 0)) (kN BK303.out)) : gb325 ≠ gb303)); have n8_ := m_ ((by rw [hg]; exact Nat.ne_of_lt (blk_lt (g := gb319) (o := .cells #[.bool t314, .int .i64 t315, .int .i64 t316, .string t317] 23 (0, 0)) (kN BK319.out)) : gb319 ≠ gb325)); have n9_ := m_ ((by rw [hg]; exact Nat.ne_of_gt (blk_lt (g := gb319) (o := .cells #[.bool t314, .int .i64 t315, .int .i64 t316, .string t317] 23 (0, 0)) (kN BK319.out)) : gb325 ≠ gb319)); clear BK303; clear BK319; clear HB; have BK303 := n0_; have BK319 := n1_; have HB := n2_; have BK325 := n3_; have GW325 := n4_; have GE325 := n5_; have NB303_325 := n6_; have NB325_303 := n7_; have NB319_325 := n8_; have NB325_319 := n9_; clear n0_ n1_ n2_ n3_ n4_ n5_ n6_ n7_ n8_ n9_; clear hb hbox hg; have hnb80 := NB325_303.out; have hnc80 := NB303_325.out; have hnb81 := NB325_319.out; have hnc81 := NB319_325.out; have hcz82_0 : w79.cell? ⟨gb325, 0, none⟩ = some (.bool false) := (blk_cell BK325.out 0).trans rfl; have hcz82_1 : w79.cell? ⟨gb325, 1, none⟩ = some (.int .i64 0) := (blk_cell BK325.out 1).trans rfl; have hcz82_2 : w79.cell? ⟨gb325, 2, none⟩ = some (.int .i64 0) := (blk_cell BK325.out 2).trans rfl; have hcz82_3 : w79.cell? ⟨gb325, 3, none⟩ = some (.string (⟨#[]⟩ : ByteArray)) := (blk_cell BK325.out 3).trans rfl; have hfz82_0 := blk_frozen BK325.out 0; have hfz82_1 := blk_frozen BK325.out 1; have hfz82_2 := blk_frozen BK325.out 2; have hfz82_3 := blk_frozen BK325.out 3))
         have n0_ : Aside0 (((((w79.setCell ⟨gb325, 0, none⟩ (.bool t320)).setCell ⟨gb325, 1, none⟩ (.int .i64 t321)).setCell ⟨gb325, 2, none⟩ (.int .i64 t322)).setCell ⟨gb325, 3, none⟩ (.string t323)).heap[gb303]? = some (.cells #[.bool t299, .int .i64 t300, .int .i64 t301, .string t302] 23 (0, 0))) := ⟨by (with_reducible repeat (first | refine blk_drewN ?_ _ | refine blk_drew ?_ | refine blk_alloc ?_ _)); refine blk_far ?_ NB303_325.out _; (with_reducible repeat (first | refine blk_drewN ?_ _ | refine blk_drew ?_ | refine blk_alloc ?_ _)); refine blk_far ?_ NB303_325.out _; (with_reducible repeat (first | refine blk_drewN ?_ _ | refine blk_drew ?_ | refine blk_alloc ?_ _)); refine blk_far ?_ NB303_325.out _; (with_reducible repeat (first | refine blk_drewN ?_ _ | refine blk_drew ?_ | refine blk_alloc ?_ _)); refine blk_far ?_ NB303_325.out _; (with_reducible repeat (first | refine blk_drewN ?_ _ | refine blk_drew ?_ | refine blk_alloc ?_ _)); exact BK303.out⟩
         have n1_ : Aside0 (((((w79.setCell ⟨gb325, 0, none⟩ (.bool t320)).setCell ⟨gb325, 1, none⟩ (.int .i64 t321)).setCell ⟨gb325, 2, none⟩ (.int .i64 t322)).setCell ⟨gb325, 3, none⟩ (.string t323)).heap[gb319]? = some (.cells #[.bool t314, .int .i64 t315, .int .i64 t316, .string t317] 23 (0, 0))) := ⟨by (with_reducible repeat (first | refine blk_drewN ?_ _ | refine blk_drew ?_ | refine blk_alloc ?_ _)); refine blk_far ?_ NB319_325.out _; (with_reducible repeat (first | refine blk_drewN ?_ _ | refine blk_drew ?_ | refine blk_alloc ?_ _)); refine blk_far ?_ NB319_325.out _; (with_reducible repeat (first | refine blk_drewN ?_ _ | refine blk_drew ?_ | refine blk_alloc ?_ _)); refine blk_far ?_ NB319_325.out _; (with_reducible repeat (first | refine blk_drewN ?_ _ | refine blk_drew ?_ | refine blk_alloc ?_ _)); refine blk_far ?_ NB319_325.out _; (with_reducible repeat (first | refine blk_drewN ?_ _ | refine blk_drew ?_ | refine blk_alloc ?_ _)); exact BK319.out⟩
         have n2_ : Aside0 (((((w79.setCell ⟨gb325, 0, none⟩ (.bool t320)).setCell ⟨gb325, 1, none⟩ (.int .i64 t321)).setCell ⟨gb325, 2, none⟩ (.int .i64 t322)).setCell ⟨gb325, 3, none⟩ (.string t323)).heap[gb325]? = some (.cells #[.bool t320, .int .i64 t321, .int .i64 t322, .string t323] 23 (0, 0))) := ⟨by (with_reducible repeat (first | refine blk_drewN ?_ _ | refine blk_drew ?_ | refine blk_alloc ?_ _)); refine blk_put (cs := #[.bool t320, .int .i64 t321, .int .i64 t322, .string (⟨#[]⟩ : ByteArray)]) ?_ 3 _ rfl; (with_reducible repeat (first | refine blk_drewN ?_ _ | refine blk_drew ?_ | refine blk_alloc ?_ _)); refine blk_put (cs := #[.bool t320, .int .i64 t321, .int .i64 0, .string (⟨#[]⟩ : ByteArray)]) ?_ 2 _ rfl; (with_reducible repeat (first | refine blk_drewN ?_ _ | refine blk_drew ?_ | refine blk_alloc ?_ _)); refine blk_put (cs := #[.bool t320, .int .i64 0, .int .i64 0, .string (⟨#[]⟩ : ByteArray)]) ?_ 1 _ rfl; (with_reducible repeat (first | refine blk_drewN ?_ _ | refine blk_drew ?_ | refine blk_alloc ?_ _)); refine blk_put (cs := #[.bool false, .int .i64 0, .int .i64 0, .string (⟨#[]⟩ : ByteArray)]) ?_ 0 _ rfl; (with_reducible repeat (first | refine blk_drewN ?_ _ | refine blk_drew ?_ | refine blk_alloc ?_ _)); exact BK325.out⟩
         have n3_ : Aside0 (Below w.heap.size w ((((w79.setCell ⟨gb325, 0, none⟩ (.bool t320)).setCell ⟨gb325, 1, none⟩ (.int .i64 t321)).setCell ⟨gb325, 2, none⟩ (.int .i64 t322)).setCell ⟨gb325, 3, none⟩ (.string t323))) := ⟨by repeat (first | (with_reducible first | exact HB.out | apply below_alloc | apply pw_below_drewN | apply below_drew1 | refine below_set ?_ GE303.out | refine below_set ?_ GE319.out | refine below_set ?_ GE325.out) | exact HB.out)⟩
         (try clear BK303)
         (try clear BK319)
         (try clear BK325)
         (try clear HB)
         generalize ((((w79.setCell ⟨gb325, 0, none⟩ (.bool t320)).setCell ⟨gb325, 1, none⟩ (.int .i64 t321)).setCell ⟨gb325, 2, none⟩ (.int .i64 t322)).setCell ⟨gb325, 3, none⟩ (.string t323)) = w83 at n0_ n1_ n2_ n3_ ⊢
         have BK303 := n0_
         have BK319 := n1_
         have BK325 := n2_
         have HB := n3_
         clear n0_ n1_ n2_ n3_
         have n0_ := m_ (blk_drew BK303.out)
         have n1_ := m_ (blk_drew BK319.out)
         have n2_ := m_ (blk_drew BK325.out)
         have n3_ := m_ (below_drew1 HB.out)
         clear BK303
         clear BK319
         clear BK325
         clear HB
         have BK303 := n0_
         have BK319 := n1_
         have BK325 := n2_
         have HB := n3_
         clear n0_ n1_ n2_ n3_
         refine start_ (n := 24) (S := fun w' => w'.cell? ⟨gb319, 0, none⟩ = some (.bool t314) ∧ w'.cell? ⟨gb319, 1, none⟩ = some (.int .i64 t315) ∧ w'.cell? ⟨gb319, 2, none⟩ = some (.int .i64 t316) ∧ w'.cell? ⟨gb319, 3, none⟩ = some (.string t317) ∧ w'.cell? ⟨gb325, 0, none⟩ = some (.bool t320) ∧ w'.cell? ⟨gb325, 1, none⟩ = some (.int .i64 t321) ∧ w'.cell? ⟨gb325, 2, none⟩ = some (.int .i64 t322) ∧ w'.cell? ⟨gb325, 3, none⟩ = some (.string t323)) (ds := []) #[false, false, false, false, false, false, false, false, false, false, false, false, false, false, false, false, false, false, false, false, false, false, false, false] (by kernel_rfl) rfl rfl ⟨(blk_cell BK319.out 0).trans rfl, (blk_cell BK319.out 1).trans rfl, (blk_cell BK319.out 2).trans rfl, (blk_cell BK319.out 3).trans rfl, (blk_cell BK325.out 0).trans rfl, (blk_cell BK325.out 1).trans rfl, (blk_cell BK325.out 2).trans rfl, (blk_cell BK325.out 3).trans rfl⟩ (fun hHeld => ?_); refine with_tabW laws_FnPacketBack.tab14 laws_FnPacketBack.bits14 (fun HT_ HW_ => ?_)
         generalize w83.drew = w84 at BK303 BK319 BK325 HB hHeld ⊢
         refine take_ (i := 0) (N := some 66) (v := ?_) (a' := ?_) #[true, false, false, false, false, false, false, false, false, false, false, false, false, false, false, false, false, false, false, false, false, false, false, false] rfl rfl (take_ofW HT_.out HW_.out (by kernel_rfl)) (fun _ _ _ h => h) (Or.inl ⟨by rfl, ?_⟩) hHeld ?_ ?_
         rotate_left
         ·rintro w' ⟨s0, s1, s2, s3, s4, s5, s6, s7⟩
          go_simp
          with_reducible rfl
         rotate_left
         ·simp only [Act.put, List.setIfInBounds_toArray, List.set_cons_zero, List.set_cons_succ, i64_w, i32_w]
          rfl
         refine take_ (i := 1) (N := some 67) (v := ?_) (a' := ?_) #[true, true, false, false, false, false, false, false, false, false, false, false, false, false, false, false, false, false, false, false, false, false, false, false] rfl rfl (take_ofW HT_.out HW_.out (by kernel_rfl)) (fun _ _ _ h => h) (Or.inl ⟨by rfl, ?_⟩) hHeld ?_ ?_
         rotate_left
         ·rintro w' ⟨s0, s1, s2, s3, s4, s5, s6, s7⟩
          go_simp
          with_reducible rfl
         rotate_left
         ·simp only [Act.put, List.setIfInBounds_toArray, List.set_cons_zero, List.set_cons_succ, i64_w, i32_w]
          rfl
         refine pu 2 68 HT_ (h := ?_)
         refine pu 3 69 HT_ (h := ?_)
         refine pu 4 70 HT_ (h := ?_)
         refine pu 5 71 HT_ (h := ?_)
         refine pu 6 72 HT_ (h := ?_)
         refine pu 7 73 HT_ (h := ?_)
         refine pu 8 74 HT_ (h := ?_)
         refine pv 9 75 HT_ (h := ?_)
         refine pv 10 76 HT_ (h := ?_)
         refine pv 11 77 HT_ (h := ?_)
         refine pv 12 78 HT_ (h := ?_)
         refine pv 13 79 HT_ (h := ?_)
         refine pv 14 80 HT_ (h := ?_)
         refine pv 15 81 HT_ (h := ?_)
         refine pv 16 82 HT_ (h := ?_)
         refine pv 17 83 HT_ (h := ?_)
         refine pv 18 84 HT_ (h := ?_)
         refine pv 19 85 HT_ (h := ?_)
         refine pv 20 86 HT_ (h := ?_)
         refine pv 21 87 HT_ (h := ?_)
         refine pu 22 88 HT_ (h := ?_)
         refine pu 23 4 HT_ (h := ?_)
         refine done_ (done_of HT_.out (by kernel_rfl)) ?_
         try go_wp2
         go_ret
         exact ⟨by first | rfl | (simp [errW_none, errW_some] <;> rfl) | (simp [*, errW_none, errW_some] <;> rfl), by repeat (first | (with_reducible first | exact HB.out | apply below_alloc | apply pw_below_drewN | apply below_drew1 | refine below_set ?_ GE303.out | refine below_set ?_ GE319.out | refine below_set ?_ GE325.out) | exact HB.out)⟩
       ·rw [if_neg c41] at H
        have c41b0 : (t314 == t320 && (t315 == t321 && (t316 == t322 && (t317.toList == t323.toList)))) = false := by simpa using c41
        (try (have c41b1 : decide (t314 = t320 && (t315 == t321 && (t316 == t322 && (t317.toList == t323.toList)))) = false := by simpa using c41))
        (try (have c41b2 : (t314 == t320 && (t315 == t321 && (t316 == t322 && (t317.toList == t323.toList)))) = false := by simpa using c41))
        (try (have c41b3 : ¬ (t314 = t320 && (t315 == t321 && (t316 == t322 && (t317.toList == t323.toList)))) := by simpa using c41))
        clear c41
        obtain rfl := Option.some.inj H
        try go_wp2_with (first | ((with_reducible refine gate_callee (f := 16) rfl ?_); refine goesL_ (some 51) rfl rfl Tryd.func16 (by kernel_rfl) rfl #[.slice A1 l1.length c1] rfl gl_ ?_; (with_reducible refine (spec_DrawPacketGet.calls kj9 _ _ l1 t312 t313 _ ?side1 ?side2 A38.out).mono ?_); (case side1 => exact cN (Kd.C_below HR1.out HB.out)); (case side2 => exact HC1.out); rintro e w85 ⟨rfl, hb⟩; refine ⟨_, rfl, ?_⟩; have n0_ := m_ (blk_below (kN BK303.out) hb); have n1_ := m_ (below_step (bN HB.out) hb); clear BK303; clear HB; have BK303 := n0_; have HB := n1_; clear n0_ n1_; (try clear hb); (try clear hb2); (try clear hk); (try clear hi)) | ((with_reducible refine gate_callee (f := 11) rfl ?_); refine goesL_ (some 57) rfl rfl Tryd.func11 (by kernel_rfl) rfl #[.string t312, .int .i64 t313] rfl gl_ ?_; (with_reducible refine (impl_PacketGet.calls kj9 t312 t313 t314 t315 t316 t317 t318 _ A39.out).mono ?_); rintro e w86 ⟨rfl, hb⟩; refine ⟨_, rfl, ?_⟩; have n0_ := m_ (blk_below (kN BK303.out) hb); have n1_ := m_ (below_step (bN HB.out) hb); clear BK303; clear HB; have BK303 := n0_; have HB := n1_; clear n0_ n1_; (try clear hb); (try clear hb2); (try clear hk); (try clear hi)) | ((with_reducible refine gate_dst (N := 11) rfl ?_); (try (refine gate_guard (by rfl) ?_; dsimp only)); refine box_event ?hg (N := 11) ?hd (cs := #[.bool false, .int .i64 0, .int .i64 0, .string (⟨#[]⟩ : ByteArray)]) (t := 23) ?hr ?_; (case hd => rfl); (case hg => rfl); (case hr => first | (go_simp; done) | (go_simp; rfl)); intro gb319 hg w87 hbox hb; have n0_ := m_ (blk_below (kN BK303.out) hb); have n1_ := m_ (below_step (bN HB.out) hb); have n2_ := m_ (hbox); have n3_ := m_ ((by rw [hg]; exact (below_size (bN HB.out)) : w.heap.size ≤ gb319)); have n4_ := m_ ((by rw [hg]; exact (below_size (bN HB.out)) : w.heap.size ≤ gb319)); have n5_ := m_ ((by rw [hg]; exact Nat.ne_of_lt (blk_lt (g := gb303) (o := .cells #[.bool t299, .int .i64 t300, .int .i64 t301, .string t302] 23 (0, 0)) (kN BK303.out)) : gb303 ≠ gb319)); have n6_ := m_ ((by rw [hg]; exact Nat.ne_of_gt (blk_lt (g := gb303) (o := .cells #[.bool t299, .int .i64 t300, .int .i64 t301, .string t302] 23 (0, 0)) (kN BK303.out)) : gb319 ≠ gb303)); clear BK303; clear HB; have BK303 := n0_; have HB := n1_; have BK319 := n2_; have GW319 := n3_; have GE319 := n4_; have NB303_319 := n5_; have NB319_303 := n6_; clear n0_ n1_ n2_ n3_ n4_ n5_ n6_; clear hb hbox hg; have hnb88 := NB319_303.out; have hnc88 := NB303_319.out; have hcz89_0 : w87.cell? ⟨gb319, 0, none⟩ = some (.bool false) := (blk_cell BK319.out 0).trans rfl; have hcz89_1 : w87.cell? ⟨gb319, 1, none⟩ = some (.int .i64 0) := (blk_cell BK319.out 1).trans rfl; have hcz89_2 : w87.cell? ⟨gb319, 2, none⟩ = some (.int .i64 0) := (blk_cell BK319.out 2).trans rfl; have hcz89_3 : w87.cell? ⟨gb319, 3, none⟩ = some (.string (⟨#[]⟩ : ByteArray)) := (blk_cell BK319.out 3).trans rfl; have hfz89_0 := blk_frozen BK319.out 0; have hfz89_1 := blk_frozen BK319.out 1; have hfz89_2 := blk_frozen BK319.out 2; have hfz89_3 := blk_frozen BK319.out 3) | ((with_reducible refine gate_callee (f := 10) rfl ?_); refine goesL_ (some 63) rfl rfl Tryd.func10 (by kernel_rfl) rfl #[.string t312, .int .i64 t313] rfl gl_ ?_; (with_reducible refine (spec_PacketGet.calls kj9 t312 t313 t320 t321 t322 t323 t324 _ A40.out).mono ?_); rintro e w90 ⟨rfl, hb⟩; refine ⟨_, rfl, ?_⟩; have n0_ := m_ (blk_below (g := gb303) (o := .cells #[.bool t299, .int .i64 t300, .int .i64 t301, .string t302] 23 (0, 0)) (kF BK303.out NB303_319.out) hb); have n1_ := m_ (blk_below (g := gb319) (o := .cells #[.bool t314, .int .i64 t315, .int .i64 t316, .string t317] 23 (0, 0)) (by (with_reducible repeat (first | refine blk_drewN ?_ _ | refine blk_drew ?_ | refine blk_alloc ?_ _)); refine blk_put (cs := #[.bool t314, .int .i64 t315, .int .i64 t316, .string (⟨#[]⟩ : ByteArray)]) ?_ 3 _ rfl; (with_reducible repeat (first | refine blk_drewN ?_ _ | refine blk_drew ?_ | refine blk_alloc ?_ _)); refine blk_put (cs := #[.bool t314, .int .i64 t315, .int .i64 0, .string (⟨#[]⟩ : ByteArray)]) ?_ 2 _ rfl; (with_reducible repeat (first | refine blk_drewN ?_ _ | refine blk_drew ?_ | refine blk_alloc ?_ _)); refine blk_put (cs := #[.bool t314, .int .i64 0, .int .i64 0, .string (⟨#[]⟩ : ByteArray)]) ?_ 1 _ rfl; (with_reducible repeat (first | refine blk_drewN ?_ _ | refine blk_drew ?_ | refine blk_alloc ?_ _)); refine blk_put (cs := #[.bool false, .int .i64 0, .int .i64 0, .string (⟨#[]⟩ : ByteArray)]) ?_ 0 _ rfl; (with_reducible repeat (first | refine blk_drewN ?_ _ | refine blk_drew ?_ | refine blk_alloc ?_ _)); exact BK319.out) hb); have n2_ := m_ (below_step (bN HB.out) hb); clear BK303; clear BK319; clear HB; have BK303 := n0_; have BK319 := n1_; have HB := n2_; clear n0_ n1_ n2_; (try clear hb); (try clear hb2); (try clear hk); (try clear hi)) | ((with_reducible refine gate_dst (N := 13) rfl ?_); (try (refine gate_guard (by rfl) ?_; dsimp only)); refine box_event ?hg (N := 13) ?hd (cs := #[.bool false, .int .i64 0, .int .i64 0, .string (⟨#[]⟩ : ByteArray)]) (t := 23) ?hr ?_; (case hd => rfl); (case hg => rfl); (case hr => first | (go_simp; done) | (go_simp; rfl)); intro gb325 hg w91 hbox hb; have n0_ := m_ (blk_below (kN BK303.out) hb); have n1_ := m_ (blk_below (kN BK319.out) hb); have n2_ := m_ (below_step (bN HB.out) hb); have n3_ := m_ (hbox); have n4_ := m_ ((by rw [hg]; exact (below_size (bN HB.out)) : w.heap.size ≤ gb325)); have n5_ := m_ ((by rw [hg]; exact (below_size (bN HB.out)) : w.heap.size ≤ gb325)); have n6_ := m_ ((by rw [hg]; exact Nat.ne_of_lt (blk_lt (g := gb303) (o := .cells #[.bool t299, .int .i64 t300, .int .i64 t301, .string t302] 23 (0, 0)) (kN BK303.out)) : gb303 ≠ gb325)); have n7_ := m_ ((by rw [hg]; exact Nat.ne_of_gt (blk_lt (g := gb303) (o := .cells #[.bool t299, .int .i64 t300, .int .i64 t301, .string t302] 23 (0, 0)) (kN BK303.out)) : gb325 ≠ gb303)); have n8_ := m_ ((by rw [hg]; exact Nat.ne_of_lt (blk_lt (g := gb319) (o := .cells #[.bool t314, .int .i64 t315, .int .i64 t316, .string t317] 23 (0, 0)) (kN BK319.out)) : gb319 ≠ gb325)); have n9_ := m_ ((by rw [hg]; exact Nat.ne_of_gt (blk_lt (g := gb319) (o := .cells #[.bool t314, .int .i64 t315, .int .i64 t316, .string t317] 23 (0, 0)) (kN BK319.out)) : gb325 ≠ gb319)); clear BK303; clear BK319; clear HB; have BK303 := n0_; have BK319 := n1_; have HB := n2_; have BK325 := n3_; have GW325 := n4_; have GE325 := n5_; have NB303_325 := n6_; have NB325_303 := n7_; have NB319_325 := n8_; have NB325_319 := n9_; clear n0_ n1_ n2_ n3_ n4_ n5_ n6_ n7_ n8_ n9_; clear hb hbox hg; have hnb92 := NB325_303.out; have hnc92 := NB303_325.out; have hnb93 := NB325_319.out; have hnc93 := NB319_325.out; have hcz94_0 : w91.cell? ⟨gb325, 0, none⟩ = some (.bool false) := (blk_cell BK325.out 0).trans rfl; have hcz94_1 : w91.cell? ⟨gb325, 1, none⟩ = some (.int .i64 0) := (blk_cell BK325.out 1).trans rfl; have hcz94_2 : w91.cell? ⟨gb325, 2, none⟩ = some (.int .i64 0) := (blk_cell BK325.out 2).trans rfl; have hcz94_3 : w91.cell? ⟨gb325, 3, none⟩ = some (.string (⟨#[]⟩ : ByteArray)) := (blk_cell BK325.out 3).trans rfl; have hfz94_0 := blk_frozen BK325.out 0; have hfz94_1 := blk_frozen BK325.out 1; have hfz94_2 := blk_frozen BK325.out 2; have hfz94_3 := blk_frozen BK325.out 3))
        have n0_ : Aside0 (((((w91.setCell ⟨gb325, 0, none⟩ (.bool t320)).setCell ⟨gb325, 1, none⟩ (.int .i64 t321)).setCell ⟨gb325, 2, none⟩ (.int .i64 t322)).setCell ⟨gb325, 3, none⟩ (.string t323)).heap[gb303]? = some (.cells #[.bool t299, .int .i64 t300, .int .i64 t301, .string t302] 23 (0, 0))) := ⟨by (with_reducible repeat (first | refine blk_drewN ?_ _ | refine blk_drew ?_ | refine blk_alloc ?_ _)); refine blk_far ?_ NB303_325.out _; (with_reducible repeat (first | refine blk_drewN ?_ _ | refine blk_drew ?_ | refine blk_alloc ?_ _)); refine blk_far ?_ NB303_325.out _; (with_reducible repeat (first | refine blk_drewN ?_ _ | refine blk_drew ?_ | refine blk_alloc ?_ _)); refine blk_far ?_ NB303_325.out _; (with_reducible repeat (first | refine blk_drewN ?_ _ | refine blk_drew ?_ | refine blk_alloc ?_ _)); refine blk_far ?_ NB303_325.out _; (with_reducible repeat (first | refine blk_drewN ?_ _ | refine blk_drew ?_ | refine blk_alloc ?_ _)); exact BK303.out⟩
        have n1_ : Aside0 (((((w91.setCell ⟨gb325, 0, none⟩ (.bool t320)).setCell ⟨gb325, 1, none⟩ (.int .i64 t321)).setCell ⟨gb325, 2, none⟩ (.int .i64 t322)).setCell ⟨gb325, 3, none⟩ (.string t323)).heap[gb319]? = some (.cells #[.bool t314, .int .i64 t315, .int .i64 t316, .string t317] 23 (0, 0))) := ⟨by (with_reducible repeat (first | refine blk_drewN ?_ _ | refine blk_drew ?_ | refine blk_alloc ?_ _)); refine blk_far ?_ NB319_325.out _; (with_reducible repeat (first | refine blk_drewN ?_ _ | refine blk_drew ?_ | refine blk_alloc ?_ _)); refine blk_far ?_ NB319_325.out _; (with_reducible repeat (first | refine blk_drewN ?_ _ | refine blk_drew ?_ | refine blk_alloc ?_ _)); refine blk_far ?_ NB319_325.out _; (with_reducible repeat (first | refine blk_drewN ?_ _ | refine blk_drew ?_ | refine blk_alloc ?_ _)); refine blk_far ?_ NB319_325.out _; (with_reducible repeat (first | refine blk_drewN ?_ _ | refine blk_drew ?_ | refine blk_alloc ?_ _)); exact BK319.out⟩
        have n2_ : Aside0 (((((w91.setCell ⟨gb325, 0, none⟩ (.bool t320)).setCell ⟨gb325, 1, none⟩ (.int .i64 t321)).setCell ⟨gb325, 2, none⟩ (.int .i64 t322)).setCell ⟨gb325, 3, none⟩ (.string t323)).heap[gb325]? = some (.cells #[.bool t320, .int .i64 t321, .int .i64 t322, .string t323] 23 (0, 0))) := ⟨by (with_reducible repeat (first | refine blk_drewN ?_ _ | refine blk_drew ?_ | refine blk_alloc ?_ _)); refine blk_put (cs := #[.bool t320, .int .i64 t321, .int .i64 t322, .string (⟨#[]⟩ : ByteArray)]) ?_ 3 _ rfl; (with_reducible repeat (first | refine blk_drewN ?_ _ | refine blk_drew ?_ | refine blk_alloc ?_ _)); refine blk_put (cs := #[.bool t320, .int .i64 t321, .int .i64 0, .string (⟨#[]⟩ : ByteArray)]) ?_ 2 _ rfl; (with_reducible repeat (first | refine blk_drewN ?_ _ | refine blk_drew ?_ | refine blk_alloc ?_ _)); refine blk_put (cs := #[.bool t320, .int .i64 0, .int .i64 0, .string (⟨#[]⟩ : ByteArray)]) ?_ 1 _ rfl; (with_reducible repeat (first | refine blk_drewN ?_ _ | refine blk_drew ?_ | refine blk_alloc ?_ _)); refine blk_put (cs := #[.bool false, .int .i64 0, .int .i64 0, .string (⟨#[]⟩ : ByteArray)]) ?_ 0 _ rfl; (with_reducible repeat (first | refine blk_drewN ?_ _ | refine blk_drew ?_ | refine blk_alloc ?_ _)); exact BK325.out⟩
        have n3_ : Aside0 (Below w.heap.size w ((((w91.setCell ⟨gb325, 0, none⟩ (.bool t320)).setCell ⟨gb325, 1, none⟩ (.int .i64 t321)).setCell ⟨gb325, 2, none⟩ (.int .i64 t322)).setCell ⟨gb325, 3, none⟩ (.string t323))) := ⟨by repeat (first | (with_reducible first | exact HB.out | apply below_alloc | apply pw_below_drewN | apply below_drew1 | refine below_set ?_ GE303.out | refine below_set ?_ GE319.out | refine below_set ?_ GE325.out) | exact HB.out)⟩
        (try clear BK303)
        (try clear BK319)
        (try clear BK325)
        (try clear HB)
        generalize ((((w91.setCell ⟨gb325, 0, none⟩ (.bool t320)).setCell ⟨gb325, 1, none⟩ (.int .i64 t321)).setCell ⟨gb325, 2, none⟩ (.int .i64 t322)).setCell ⟨gb325, 3, none⟩ (.string t323)) = w95 at n0_ n1_ n2_ n3_ ⊢
        have BK303 := n0_
        have BK319 := n1_
        have BK325 := n2_
        have HB := n3_
        clear n0_ n1_ n2_ n3_
        have n0_ := m_ (blk_drew BK303.out)
        have n1_ := m_ (blk_drew BK319.out)
        have n2_ := m_ (blk_drew BK325.out)
        have n3_ := m_ (below_drew1 HB.out)
        clear BK303
        clear BK319
        clear BK325
        clear HB
        have BK303 := n0_
        have BK319 := n1_
        have BK325 := n2_
        have HB := n3_
        clear n0_ n1_ n2_ n3_
        refine start_ (n := 24) (S := fun w' => w'.cell? ⟨gb319, 0, none⟩ = some (.bool t314) ∧ w'.cell? ⟨gb319, 1, none⟩ = some (.int .i64 t315) ∧ w'.cell? ⟨gb319, 2, none⟩ = some (.int .i64 t316) ∧ w'.cell? ⟨gb319, 3, none⟩ = some (.string t317) ∧ w'.cell? ⟨gb325, 0, none⟩ = some (.bool t320) ∧ w'.cell? ⟨gb325, 1, none⟩ = some (.int .i64 t321) ∧ w'.cell? ⟨gb325, 2, none⟩ = some (.int .i64 t322) ∧ w'.cell? ⟨gb325, 3, none⟩ = some (.string t323)) (ds := []) #[false, false, false, false, false, false, false, false, false, false, false, false, false, false, false, false, false, false, false, false, false, false, false, false] (by kernel_rfl) rfl rfl ⟨(blk_cell BK319.out 0).trans rfl, (blk_cell BK319.out 1).trans rfl, (blk_cell BK319.out 2).trans rfl, (blk_cell BK319.out 3).trans rfl, (blk_cell BK325.out 0).trans rfl, (blk_cell BK325.out 1).trans rfl, (blk_cell BK325.out 2).trans rfl, (blk_cell BK325.out 3).trans rfl⟩ (fun hHeld => ?_); refine with_tabW laws_FnPacketBack.tab14 laws_FnPacketBack.bits14 (fun HT_ HW_ => ?_)
        generalize w95.drew = w96 at BK303 BK319 BK325 HB hHeld ⊢
        refine take_ (i := 0) (N := some 66) (v := ?_) (a' := ?_) #[true, false, false, false, false, false, false, false, false, false, false, false, false, false, false, false, false, false, false, false, false, false, false, false] rfl rfl (take_ofW HT_.out HW_.out (by kernel_rfl)) (fun _ _ _ h => h) (Or.inl ⟨by rfl, ?_⟩) hHeld ?_ ?_
        rotate_left
        ·rintro w' ⟨s0, s1, s2, s3, s4, s5, s6, s7⟩
         go_simp
         with_reducible rfl
        rotate_left
        ·simp only [Act.put, List.setIfInBounds_toArray, List.set_cons_zero, List.set_cons_succ, i64_w, i32_w]
         rfl
        refine take_ (i := 1) (N := some 67) (v := ?_) (a' := ?_) #[true, true, false, false, false, false, false, false, false, false, false, false, false, false, false, false, false, false, false, false, false, false, false, false] rfl rfl (take_ofW HT_.out HW_.out (by kernel_rfl)) (fun _ _ _ h => h) (Or.inl ⟨by rfl, ?_⟩) hHeld ?_ ?_
        rotate_left
        ·rintro w' ⟨s0, s1, s2, s3, s4, s5, s6, s7⟩
         go_simp
         with_reducible rfl
        rotate_left
        ·simp only [Act.put, List.setIfInBounds_toArray, List.set_cons_zero, List.set_cons_succ, i64_w, i32_w]
         rfl
        refine pu 2 68 HT_ (h := ?_)
        refine pu 3 69 HT_ (h := ?_)
        refine pv 4 70 HT_ (h := ?_)
        refine pv 5 71 HT_ (h := ?_)
        refine pv 6 72 HT_ (h := ?_)
        refine pu 7 73 HT_ (h := ?_)
        refine pu 8 74 HT_ (h := ?_)
        refine pv 9 75 HT_ (h := ?_)
        refine pv 10 76 HT_ (h := ?_)
        refine pv 11 77 HT_ (h := ?_)
        refine pv 12 78 HT_ (h := ?_)
        refine pv 13 79 HT_ (h := ?_)
        refine pv 14 80 HT_ (h := ?_)
        refine pv 15 81 HT_ (h := ?_)
        refine pv 16 82 HT_ (h := ?_)
        refine pv 17 83 HT_ (h := ?_)
        refine pv 18 84 HT_ (h := ?_)
        refine pv 19 85 HT_ (h := ?_)
        refine pv 20 86 HT_ (h := ?_)
        refine pv 21 87 HT_ (h := ?_)
        refine pu 22 88 HT_ (h := ?_)
        refine pu 23 4 HT_ (h := ?_)
        refine done_ (done_of HT_.out (by kernel_rfl)) ?_
        try go_wp2
        go_ret
        exact ⟨by first | rfl | (simp [errW_none, errW_some] <;> rfl) | (simp [*, errW_none, errW_some] <;> rfl), by repeat (first | (with_reducible first | exact HB.out | apply below_alloc | apply pw_below_drewN | apply below_drew1 | refine below_set ?_ GE303.out | refine below_set ?_ GE319.out | refine below_set ?_ GE325.out) | exact HB.out)⟩
    ·rw [if_neg c9] at H
     have c9b0 : (t304.toList == t305.toList) = false := beq_eq_false_iff_ne.mpr c9
     have c9b1 : (t304.toList != t305.toList) = true := bne_iff_ne.mpr c9
     obtain rfl := Option.some.inj H
     go_wp2_with (first | ((with_reducible refine gate_callee (f := 13) rfl ?_); refine goesL_ (some 24) rfl rfl Tryd.func13 (by kernel_rfl) rfl #[.slice A0 l0.length c0] rfl gl_ ?_; (with_reducible refine (spec_DrawPacketPut.calls kj2 _ _ l0 t299 t300 t301 t302 _ ?side1 ?side2 A6.out).mono ?_); (case side1 => exact cN (Kd.C_below HR0.out HB.out)); (case side2 => exact HC0.out); rintro e w97 ⟨rfl, hb⟩; refine ⟨_, rfl, ?_⟩; have n0_ := m_ (below_step (bN HB.out) hb); clear HB; have HB := n0_; clear n0_; (try clear hb); (try clear hb2); (try clear hk); (try clear hi)) | ((with_reducible refine gate_dst (N := 5) rfl ?_); (try (refine gate_guard (by rfl) ?_; dsimp only)); refine box_event ?hg (N := 5) ?hd (cs := #[.bool false, .int .i64 0, .int .i64 0, .string (⟨#[]⟩ : ByteArray)]) (t := 23) ?hr ?_; (case hd => rfl); (case hg => rfl); (case hr => first | (go_simp; done) | (go_simp; rfl)); intro gb303 hg w98 hbox hb; have n0_ := m_ (below_step (bN HB.out) hb); have n1_ := m_ (hbox); have n2_ := m_ ((by rw [hg]; exact (below_size (bN HB.out)) : w.heap.size ≤ gb303)); have n3_ := m_ ((by rw [hg]; exact (below_size (bN HB.out)) : w.heap.size ≤ gb303)); clear HB; have HB := n0_; have BK303 := n1_; have GW303 := n2_; have GE303 := n3_; clear n0_ n1_ n2_ n3_; clear hb hbox hg; have hcz99_0 : w98.cell? ⟨gb303, 0, none⟩ = some (.bool false) := (blk_cell BK303.out 0).trans rfl; have hcz99_1 : w98.cell? ⟨gb303, 1, none⟩ = some (.int .i64 0) := (blk_cell BK303.out 1).trans rfl; have hcz99_2 : w98.cell? ⟨gb303, 2, none⟩ = some (.int .i64 0) := (blk_cell BK303.out 2).trans rfl; have hcz99_3 : w98.cell? ⟨gb303, 3, none⟩ = some (.string (⟨#[]⟩ : ByteArray)) := (blk_cell BK303.out 3).trans rfl; have hfz99_0 := blk_frozen BK303.out 0; have hfz99_1 := blk_frozen BK303.out 1; have hfz99_2 := blk_frozen BK303.out 2; have hfz99_3 := blk_frozen BK303.out 3) | ((with_reducible refine gate_callee (f := 14) rfl ?_); refine goesL_ (some 26) rfl rfl Tryd.func14 (by kernel_rfl) rfl #[.agg #[.bool t299, .int .i64 t300, .int .i64 t301, .string t302]] rfl gl_ ?_; (with_reducible refine (impl_PacketPut.calls kj2 t299 t300 t301 t302 t304 _ A7.out).mono ?_); rintro e w100 ⟨rfl, hb⟩; refine ⟨_, rfl, ?_⟩; have n0_ := m_ (blk_below (g := gb303) (o := .cells #[.bool t299, .int .i64 t300, .int .i64 t301, .string t302] 23 (0, 0)) (by (with_reducible repeat (first | refine blk_drewN ?_ _ | refine blk_drew ?_ | refine blk_alloc ?_ _)); refine blk_put (cs := #[.bool t299, .int .i64 t300, .int .i64 t301, .string (⟨#[]⟩ : ByteArray)]) ?_ 3 _ rfl; (with_reducible repeat (first | refine blk_drewN ?_ _ | refine blk_drew ?_ | refine blk_alloc ?_ _)); refine blk_put (cs := #[.bool t299, .int .i64 t300, .int .i64 0, .string (⟨#[]⟩ : ByteArray)]) ?_ 2 _ rfl; (with_reducible repeat (first | refine blk_drewN ?_ _ | refine blk_drew ?_ | refine blk_alloc ?_ _)); refine blk_put (cs := #[.bool t299, .int .i64 0, .int .i64 0, .string (⟨#[]⟩ : ByteArray)]) ?_ 1 _ rfl; (with_reducible repeat (first | refine blk_drewN ?_ _ | refine blk_drew ?_ | refine blk_alloc ?_ _)); refine blk_put (cs := #[.bool false, .int .i64 0, .int .i64 0, .string (⟨#[]⟩ : ByteArray)]) ?_ 0 _ rfl; (with_reducible repeat (first | refine blk_drewN ?_ _ | refine blk_drew ?_ | refine blk_alloc ?_ _)); exact BK303.out) hb); have n1_ := m_ (below_step (bN HB.out) hb); clear BK303; clear HB; have BK303 := n0_; have HB := n1_; clear n0_ n1_; (try clear hb); (try clear hb2); (try clear hk); (try clear hi); have hcz101_0 : w100.cell? ⟨gb303, 0, none⟩ = some (.bool t299) := (blk_cell BK303.out 0).trans rfl; have hcz101_1 : w100.cell? ⟨gb303, 1, none⟩ = some (.int .i64 t300) := (blk_cell BK303.out 1).trans rfl; have hcz101_2 : w100.cell? ⟨gb303, 2, none⟩ = some (.int .i64 t301) := (blk_cell BK303.out 2).trans rfl; have hcz101_3 : w100.cell? ⟨gb303, 3, none⟩ = some (.string t302) := (blk_cell BK303.out 3).trans rfl; have hfz101_0 := blk_frozen BK303.out 0; have hfz101_1 := blk_frozen BK303.out 1; have hfz101_2 := blk_frozen BK303.out 2; have hfz101_3 := blk_frozen BK303.out 3) | ((with_reducible refine gate_callee (f := 15) rfl ?_); refine goesL_ (some 29) rfl rfl Tryd.func15 (by kernel_rfl) rfl #[.agg #[.bool t299, .int .i64 t300, .int .i64 t301, .string t302]] rfl gl_ ?_; (with_reducible refine (spec_PacketPut.calls kj2 t299 t300 t301 t302 t305 _ A8.out).mono ?_); rintro e w102 ⟨rfl, hb⟩; refine ⟨_, rfl, ?_⟩; have n0_ := m_ (blk_below (kN BK303.out) hb); have n1_ := m_ (below_step (bN HB.out) hb); clear BK303; clear HB; have BK303 := n0_; have HB := n1_; clear n0_ n1_; (try clear hb); (try clear hb2); (try clear hk); (try clear hi)))
     go_ret
     exact ⟨by first | rfl | (simp [errW_none, errW_some] <;> rfl) | (simp [*, errW_none, errW_some] <;> rfl), by repeat (first | (with_reducible first | exact HB.out | apply below_alloc | apply pw_below_drewN | apply below_drew1 | refine below_set ?_ GE303.out) | exact HB.out)⟩

/-- THE ONE PURE STATEMENT of laws_FnPacketBack: yours. -/
def laws_FnPacketBack.Pure : Prop := ∀ (l0 : List Int) (l1 : List Int), l0.length ≤ maxLen → l0.length * 1 ≤ 140737488351232 → (∀ x ∈ l0, (Lit.int .u8 x).wf = true) → l1.length ≤ maxLen → l1.length * 1 ≤ 140737488351232 → (∀ x ∈ l1, (Lit.int .u8 x).wf = true) → ∃ k, laws_FnPacketBack.f k l0 l1 = some true
theorem laws_FnPacketBack.walk (P : laws_FnPacketBack.Pure) (a0 : Option Addr) (len0 cap0 : Nat) (z0 : List Int) (a1 : Option Addr) (len1 cap1 : Nat) (z1 : List Int) (w : World) (w0 : (a0 = none ∧ len0 = 0 ∧ cap0 = 0 ∧ z0 = []) ∨ ∃ x, a0 = some x ∧ len0 ≤ cap0 ∧ cap0 ≤ maxLen ∧ z0.length = cap0 ∧ (∀ i, i < z0.length → w.cell? (x.add i) = some (.int .u8 (z0.getD i 0))) ∧ ∀ n ∈ z0, (Lit.int .u8 n).wf = true) (y0 : len0 * 1 ≤ 140737488351232) (w1 : (a1 = none ∧ len1 = 0 ∧ cap1 = 0 ∧ z1 = []) ∨ ∃ x, a1 = some x ∧ len1 ≤ cap1 ∧ cap1 ≤ maxLen ∧ z1.length = cap1 ∧ (∀ i, i < z1.length → w.cell? (x.add i) = some (.int .u8 (z1.getD i 0))) ∧ ∀ n ∈ z1, (Lit.int .u8 n).wf = true) (y1 : len1 * 1 ≤ 140737488351232) :
  Calls Tryd.prog 4 #[.slice a0 len0 cap0, .slice a1 len1 cap1] w fun e w' => e = .returned (.bool true) ∧ Below w.heap.size w w' := by
 obtain ⟨l0, rfl, hr0, hm0, hw0, hc0⟩ := ReadsInt.ofRowC w0
 obtain ⟨l1, rfl, hr1, hm1, hw1, hc1⟩ := ReadsInt.ofRowC w1
 obtain ⟨k, h⟩ := P l0 l1 hm0 y0 hw0 hm1 y1 hw1
 refine (laws_FnPacketBack.calls k _ _ l0 _ _ l1 true w (Kd.C_of_reads (d := (0 : Int)) (h1 := fun _ => rfl) hr0) hc0 (Kd.C_of_reads (d := (0 : Int)) (h1 := fun _ => rfl) hr1) hc1 h).mono ?_
 rintro e w' ⟨rfl, hd⟩
 exact ⟨rfl, hd⟩

end Go.Proofs.YtllchgipnfdneaaDoor.P
