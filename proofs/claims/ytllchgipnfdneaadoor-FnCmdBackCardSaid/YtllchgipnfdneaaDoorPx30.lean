/- The machine side of these statements, function by function: what each Go function answers (as a Lean function), and that it does. Written by a program (mp.py) for this claim. -/
import Derived.Test.YtllchgipnfdneaaDoorPx0
import Derived.Test.YtllchgipnfdneaaDoorPx3
import Derived.Test.YtllchgipnfdneaaDoorPx4
import Derived.Test.YtllchgipnfdneaaDoorPx5
import Derived.Test.YtllchgipnfdneaaDoorPx8
import Derived.Test.YtllchgipnfdneaaDoorPx10
import Derived.Test.YtllchgipnfdneaaDoorPx12
import Derived.Test.YtllchgipnfdneaaDoorPx13
import Derived.Test.YtllchgipnfdneaaDoorPx14
import Derived.Test.YtllchgipnfdneaaDoorPx15
import Derived.Test.YtllchgipnfdneaaDoorPx20
import Derived.Test.YtllchgipnfdneaaDoorPx21
import Derived.Test.YtllchgipnfdneaaDoorPx22
namespace Go.Proofs.YtllchgipnfdneaaDoor.P
open Go.RowKit Go.Proofs.YtllchgipnfdneaaDoorW.PrintWords Go.Proofs.YtllchgipnfdneaaDoorW.PrintLast Go.Proofs.YtllchgipnfdneaaDoorW.PrintMore
attribute [local go_sem] max2_int min2_int max_two min_two max_three min_three max_four min_four   -- for this text's walks alone
set_option linter.unusedVariables false
set_option linter.unusedSimpArgs false

attribute [local go_sem high] eqA43
/-! ### spec_DrawCmdGet: function 30 -/
def spec_DrawCmdGet.f (k : Nat) (l0 : List Int) : Option (ByteArray) := (spec_l1Open.f l0).bind fun bt667 => ((spec_l15Cmd.f k bt667.1 bt667.2).bind fun bt670 => ((spec_l6Cmd.f k bt670.1 bt670.2.1 bt670.2.2.1 bt670.2.2.2.1 bt670.2.2.2.2.1 bt670.2.2.2.2.2.1).bind fun t677 => ((spec_l1Rd_pick.f k bt667.1 bt670.2.2.2.2.2.2 6).bind fun bt678 => (if bt678.1 = 0 then ((spec_l15Turn.f k bt667.1 bt678.2 t677).bind fun bt680 => (some bt680.1)) else (if bt678.1 = 1 then ((spec_l1Rd_pick.f k bt667.1 bt678.2 (wrap64 ((t677.size : Int) + 1))).bind fun bt682 => (if 0 ≤ bt682.1 then (if bt682.1 ≤ (t677.size : Int) then (some (t677.extract 0 (bt682.1 : Int).toNat)) else (none)) else (none))) else (if bt678.1 = 2 then ((spec_l15AnyPacket.f k bt667.1 bt678.2).bind fun bt684 => ((spec_PacketPut.f k bt684.1 bt684.2.1 bt684.2.2.1 bt684.2.2.2.1).bind fun t689 => (some t689))) else (if bt678.1 = 3 then ((spec_l1Rd_of.f k bt667.1 bt678.2 (([(⟨#[]⟩ : ByteArray), (⟨#[97]⟩ : ByteArray), (⟨#[46, 49, 50, 51]⟩ : ByteArray), (⟨#[47, 49, 50]⟩ : ByteArray)] : List ByteArray))).bind fun bt693 => (if bt693.1.size + 2 ≤ 9223372036854775807 then ((spec_l6Put.f k true 1 0 (bt693.1 ++ (⟨#[0, 0]⟩ : ByteArray))).bind fun t695 => (if 0 ≤ (wrap64 ((t695.size : Int) - 2)) then (if (wrap64 ((t695.size : Int) - 2)) ≤ (t695.size : Int) then ((spec_Crc16.f k (t695.extract 0 ((wrap64 ((t695.size : Int) - 2)) : Int).toNat)).bind fun t696 => ((spec_l1Put.f k t696 2).bind fun t697 => (if (t695.extract 0 ((wrap64 ((t695.size : Int) - 2)) : Int).toNat).size + t697.size ≤ 9223372036854775807 then (some ((t695.extract 0 ((wrap64 ((t695.size : Int) - 2)) : Int).toNat) ++ t697)) else (none)))) else (none)) else (none))) else (none))) else (some t677))))))))
theorem spec_DrawCmdGet.mono : ∀ a0 k, LeO (spec_DrawCmdGet.f k a0) (spec_DrawCmdGet.f (k + 1) a0) := by
 intro a0 k
 unfold spec_DrawCmdGet.f
 repeat' first
   | (with_reducible exact spec_Crc16.mono _ _)
   | (with_reducible exact spec_PacketPut.mono _ _ _ _ _)
   | (with_reducible exact spec_l15AnyPacket.mono _ _ _)
   | (with_reducible exact spec_l15Cmd.mono _ _ _)
   | (with_reducible exact spec_l15Turn.mono _ _ _ _)
   | (with_reducible exact spec_l1Put.mono _ _ _)
   | (with_reducible exact spec_l1Rd_of.mono _ _ _ _)
   | (with_reducible exact spec_l1Rd_pick.mono _ _ _ _)
   | (with_reducible exact spec_l6Cmd.mono _ _ _ _ _ _ _)
   | (with_reducible exact spec_l6Put.mono _ _ _ _ _)
   | (with_reducible exact LeO.refl _)
   | (with_reducible exact LeO.none _)
   | (with_reducible refine LeO.ite ?_ ?_)
   | (with_reducible refine LeO.bind ?_ (fun _ => ?_))
   | exact spec_Crc16.mono _ _
   | exact spec_PacketPut.mono _ _ _ _ _
   | exact spec_l15AnyPacket.mono _ _ _
   | exact spec_l15Cmd.mono _ _ _
   | exact spec_l15Turn.mono _ _ _ _
   | exact spec_l1Put.mono _ _ _
   | exact spec_l1Rd_of.mono _ _ _ _
   | exact spec_l1Rd_pick.mono _ _ _ _
   | exact spec_l6Cmd.mono _ _ _ _ _ _ _
   | exact spec_l6Put.mono _ _ _ _ _
   | exact LeO.none _
   | refine LeO.ite ?_ ?_
   | refine LeO.bind ?_ (fun _ => ?_)
def spec_DrawCmdGet.T12 : Bool × List (List Nat × List Nat) := (true, [([], []), ([], []), ([1], [1]), ([2], [2]), ([0, 3], [0, 3]), ([], []), ([], []), ([6], [6]), ([7], [7]), ([5, 8], [5, 8]), ([9], [9]), ([10, 10], [10]), ([4, 11], [4, 11]), ([12, 11, 0, 1, 2, 3, 4, 5, 6, 7, 8, 9, 10, 11, 12], [12])])
def spec_DrawCmdGet.B12 : List Nat := [0, 0, 2, 6, 15, 0, 0, 64, 192, 480, 992, 2016, 4095, 8191]
theorem spec_DrawCmdGet.tab12 : rtab .any (opsOf Tryd.f30 12) = spec_DrawCmdGet.T12 := by kernel_rfl
theorem spec_DrawCmdGet.bits12 : waitsOk spec_DrawCmdGet.T12.2 spec_DrawCmdGet.B12 = true := by kernel_rfl
set_option maxHeartbeats 8000000 in
set_option maxRecDepth 100000 in
theorem spec_DrawCmdGet.calls (k : Nat) (A0 : Option Addr) (c0 : Nat) (l0 : List Int) (r : ByteArray) (w : World) (hr0 : Kd.C (Kd.int .u8) w A0 l0.length l0) (hc0 : l0.length ≤ c0) (h : spec_DrawCmdGet.f k l0 = some r) :
  Calls Tryd.prog 30 #[.slice A0 l0.length c0] w fun e w' => e = .returned (.string r) ∧ Below w.heap.size w w' := by
 have hu23 := Tryd.underlying23
 have HR0 := Aside0.mk hr0
 have HC0 := Aside0.mk hc0
 clear hr0 hc0
 have HB := m_ (Below.refl w.heap.size w)
 have H : ((spec_l1Open.f l0).bind fun bt667 => ((spec_l15Cmd.f k bt667.1 bt667.2).bind fun bt670 => ((spec_l6Cmd.f k bt670.1 bt670.2.1 bt670.2.2.1 bt670.2.2.2.1 bt670.2.2.2.2.1 bt670.2.2.2.2.2.1).bind fun t677 => ((spec_l1Rd_pick.f k bt667.1 bt670.2.2.2.2.2.2 6).bind fun bt678 => (if bt678.1 = 0 then ((spec_l15Turn.f k bt667.1 bt678.2 t677).bind fun bt680 => (some bt680.1)) else (if bt678.1 = 1 then ((spec_l1Rd_pick.f k bt667.1 bt678.2 (wrap64 ((t677.size : Int) + 1))).bind fun bt682 => (if 0 ≤ bt682.1 then (if bt682.1 ≤ (t677.size : Int) then (some (t677.extract 0 (bt682.1 : Int).toNat)) else (none)) else (none))) else (if bt678.1 = 2 then ((spec_l15AnyPacket.f k bt667.1 bt678.2).bind fun bt684 => ((spec_PacketPut.f k bt684.1 bt684.2.1 bt684.2.2.1 bt684.2.2.2.1).bind fun t689 => (some t689))) else (if bt678.1 = 3 then ((spec_l1Rd_of.f k bt667.1 bt678.2 (([(⟨#[]⟩ : ByteArray), (⟨#[97]⟩ : ByteArray), (⟨#[46, 49, 50, 51]⟩ : ByteArray), (⟨#[47, 49, 50]⟩ : ByteArray)] : List ByteArray))).bind fun bt693 => (if bt693.1.size + 2 ≤ 9223372036854775807 then ((spec_l6Put.f k true 1 0 (bt693.1 ++ (⟨#[0, 0]⟩ : ByteArray))).bind fun t695 => (if 0 ≤ (wrap64 ((t695.size : Int) - 2)) then (if (wrap64 ((t695.size : Int) - 2)) ≤ (t695.size : Int) then ((spec_Crc16.f k (t695.extract 0 ((wrap64 ((t695.size : Int) - 2)) : Int).toNat)).bind fun t696 => ((spec_l1Put.f k t696 2).bind fun t697 => (if (t695.extract 0 ((wrap64 ((t695.size : Int) - 2)) : Int).toNat).size + t697.size ≤ 9223372036854775807 then (some ((t695.extract 0 ((wrap64 ((t695.size : Int) - 2)) : Int).toNat) ++ t697)) else (none)))) else (none)) else (none))) else (none))) else (some t677))))))))) = some r := h
 clear h
 replace H := Option.bind_eq_some_iff.mp H
 obtain ⟨⟨t667, t668⟩, A20, H⟩ := H
 replace H : ((spec_l15Cmd.f k t667 t668).bind fun bt670 => ((spec_l6Cmd.f k bt670.1 bt670.2.1 bt670.2.2.1 bt670.2.2.2.1 bt670.2.2.2.2.1 bt670.2.2.2.2.2.1).bind fun t677 => ((spec_l1Rd_pick.f k t667 bt670.2.2.2.2.2.2 6).bind fun bt678 => (if bt678.1 = 0 then ((spec_l15Turn.f k t667 bt678.2 t677).bind fun bt680 => (some bt680.1)) else (if bt678.1 = 1 then ((spec_l1Rd_pick.f k t667 bt678.2 (wrap64 ((t677.size : Int) + 1))).bind fun bt682 => (if 0 ≤ bt682.1 then (if bt682.1 ≤ (t677.size : Int) then (some (t677.extract 0 (bt682.1 : Int).toNat)) else (none)) else (none))) else (if bt678.1 = 2 then ((spec_l15AnyPacket.f k t667 bt678.2).bind fun bt684 => ((spec_PacketPut.f k bt684.1 bt684.2.1 bt684.2.2.1 bt684.2.2.2.1).bind fun t689 => (some t689))) else (if bt678.1 = 3 then ((spec_l1Rd_of.f k t667 bt678.2 (([(⟨#[]⟩ : ByteArray), (⟨#[97]⟩ : ByteArray), (⟨#[46, 49, 50, 51]⟩ : ByteArray), (⟨#[47, 49, 50]⟩ : ByteArray)] : List ByteArray))).bind fun bt693 => (if bt693.1.size + 2 ≤ 9223372036854775807 then ((spec_l6Put.f k true 1 0 (bt693.1 ++ (⟨#[0, 0]⟩ : ByteArray))).bind fun t695 => (if 0 ≤ (wrap64 ((t695.size : Int) - 2)) then (if (wrap64 ((t695.size : Int) - 2)) ≤ (t695.size : Int) then ((spec_Crc16.f k (t695.extract 0 ((wrap64 ((t695.size : Int) - 2)) : Int).toNat)).bind fun t696 => ((spec_l1Put.f k t696 2).bind fun t697 => (if (t695.extract 0 ((wrap64 ((t695.size : Int) - 2)) : Int).toNat).size + t697.size ≤ 9223372036854775807 then (some ((t695.extract 0 ((wrap64 ((t695.size : Int) - 2)) : Int).toNat) ++ t697)) else (none)))) else (none)) else (none))) else (none))) else (some t677)))))))) = some r := H
 have A2 := Aside0.mk A20
 clear A20
 replace H := Option.bind_eq_some_iff.mp H
 obtain ⟨⟨t670, t671, t672, t673, t674, t675, t676⟩, A30, H⟩ := H
 replace H : ((spec_l6Cmd.f k t670 t671 t672 t673 t674 t675).bind fun t677 => ((spec_l1Rd_pick.f k t667 t676 6).bind fun bt678 => (if bt678.1 = 0 then ((spec_l15Turn.f k t667 bt678.2 t677).bind fun bt680 => (some bt680.1)) else (if bt678.1 = 1 then ((spec_l1Rd_pick.f k t667 bt678.2 (wrap64 ((t677.size : Int) + 1))).bind fun bt682 => (if 0 ≤ bt682.1 then (if bt682.1 ≤ (t677.size : Int) then (some (t677.extract 0 (bt682.1 : Int).toNat)) else (none)) else (none))) else (if bt678.1 = 2 then ((spec_l15AnyPacket.f k t667 bt678.2).bind fun bt684 => ((spec_PacketPut.f k bt684.1 bt684.2.1 bt684.2.2.1 bt684.2.2.2.1).bind fun t689 => (some t689))) else (if bt678.1 = 3 then ((spec_l1Rd_of.f k t667 bt678.2 (([(⟨#[]⟩ : ByteArray), (⟨#[97]⟩ : ByteArray), (⟨#[46, 49, 50, 51]⟩ : ByteArray), (⟨#[47, 49, 50]⟩ : ByteArray)] : List ByteArray))).bind fun bt693 => (if bt693.1.size + 2 ≤ 9223372036854775807 then ((spec_l6Put.f k true 1 0 (bt693.1 ++ (⟨#[0, 0]⟩ : ByteArray))).bind fun t695 => (if 0 ≤ (wrap64 ((t695.size : Int) - 2)) then (if (wrap64 ((t695.size : Int) - 2)) ≤ (t695.size : Int) then ((spec_Crc16.f k (t695.extract 0 ((wrap64 ((t695.size : Int) - 2)) : Int).toNat)).bind fun t696 => ((spec_l1Put.f k t696 2).bind fun t697 => (if (t695.extract 0 ((wrap64 ((t695.size : Int) - 2)) : Int).toNat).size + t697.size ≤ 9223372036854775807 then (some ((t695.extract 0 ((wrap64 ((t695.size : Int) - 2)) : Int).toNat) ++ t697)) else (none)))) else (none)) else (none))) else (none))) else (some t677))))))) = some r := H
 have A3 := Aside0.mk A30
 clear A30
 replace H := Option.bind_eq_some_iff.mp H
 obtain ⟨t677, A40, H⟩ := H
 replace H : ((spec_l1Rd_pick.f k t667 t676 6).bind fun bt678 => (if bt678.1 = 0 then ((spec_l15Turn.f k t667 bt678.2 t677).bind fun bt680 => (some bt680.1)) else (if bt678.1 = 1 then ((spec_l1Rd_pick.f k t667 bt678.2 (wrap64 ((t677.size : Int) + 1))).bind fun bt682 => (if 0 ≤ bt682.1 then (if bt682.1 ≤ (t677.size : Int) then (some (t677.extract 0 (bt682.1 : Int).toNat)) else (none)) else (none))) else (if bt678.1 = 2 then ((spec_l15AnyPacket.f k t667 bt678.2).bind fun bt684 => ((spec_PacketPut.f k bt684.1 bt684.2.1 bt684.2.2.1 bt684.2.2.2.1).bind fun t689 => (some t689))) else (if bt678.1 = 3 then ((spec_l1Rd_of.f k t667 bt678.2 (([(⟨#[]⟩ : ByteArray), (⟨#[97]⟩ : ByteArray), (⟨#[46, 49, 50, 51]⟩ : ByteArray), (⟨#[47, 49, 50]⟩ : ByteArray)] : List ByteArray))).bind fun bt693 => (if bt693.1.size + 2 ≤ 9223372036854775807 then ((spec_l6Put.f k true 1 0 (bt693.1 ++ (⟨#[0, 0]⟩ : ByteArray))).bind fun t695 => (if 0 ≤ (wrap64 ((t695.size : Int) - 2)) then (if (wrap64 ((t695.size : Int) - 2)) ≤ (t695.size : Int) then ((spec_Crc16.f k (t695.extract 0 ((wrap64 ((t695.size : Int) - 2)) : Int).toNat)).bind fun t696 => ((spec_l1Put.f k t696 2).bind fun t697 => (if (t695.extract 0 ((wrap64 ((t695.size : Int) - 2)) : Int).toNat).size + t697.size ≤ 9223372036854775807 then (some ((t695.extract 0 ((wrap64 ((t695.size : Int) - 2)) : Int).toNat) ++ t697)) else (none)))) else (none)) else (none))) else (none))) else (some t677)))))) = some r := H
 have A4 := Aside0.mk A40
 clear A40
 replace H := Option.bind_eq_some_iff.mp H
 obtain ⟨⟨t678, t679⟩, A50, H⟩ := H
 replace H : (if t678 = 0 then ((spec_l15Turn.f k t667 t679 t677).bind fun bt680 => (some bt680.1)) else (if t678 = 1 then ((spec_l1Rd_pick.f k t667 t679 (wrap64 ((t677.size : Int) + 1))).bind fun bt682 => (if 0 ≤ bt682.1 then (if bt682.1 ≤ (t677.size : Int) then (some (t677.extract 0 (bt682.1 : Int).toNat)) else (none)) else (none))) else (if t678 = 2 then ((spec_l15AnyPacket.f k t667 t679).bind fun bt684 => ((spec_PacketPut.f k bt684.1 bt684.2.1 bt684.2.2.1 bt684.2.2.2.1).bind fun t689 => (some t689))) else (if t678 = 3 then ((spec_l1Rd_of.f k t667 t679 (([(⟨#[]⟩ : ByteArray), (⟨#[97]⟩ : ByteArray), (⟨#[46, 49, 50, 51]⟩ : ByteArray), (⟨#[47, 49, 50]⟩ : ByteArray)] : List ByteArray))).bind fun bt693 => (if bt693.1.size + 2 ≤ 9223372036854775807 then ((spec_l6Put.f k true 1 0 (bt693.1 ++ (⟨#[0, 0]⟩ : ByteArray))).bind fun t695 => (if 0 ≤ (wrap64 ((t695.size : Int) - 2)) then (if (wrap64 ((t695.size : Int) - 2)) ≤ (t695.size : Int) then ((spec_Crc16.f k (t695.extract 0 ((wrap64 ((t695.size : Int) - 2)) : Int).toNat)).bind fun t696 => ((spec_l1Put.f k t696 2).bind fun t697 => (if (t695.extract 0 ((wrap64 ((t695.size : Int) - 2)) : Int).toNat).size + t697.size ≤ 9223372036854775807 then (some ((t695.extract 0 ((wrap64 ((t695.size : Int) - 2)) : Int).toNat) ++ t697)) else (none)))) else (none)) else (none))) else (none))) else (some t677))))) = some r := H
 have A5 := Aside0.mk A50
 clear A50
 by_cases c6 : t678 = 0
 ·rw [if_pos c6] at H
  have c6b0 : (t678 == 0) = true := beq_iff_eq.mpr c6
  have c6b1 : (t678 != 0) = false := bne_eq_false_iff_eq.mpr c6
  clear c6
  replace H := Option.bind_eq_some_iff.mp H
  obtain ⟨⟨t680, t681⟩, A70, H⟩ := H
  replace H : (some t680) = some r := H
  have A7 := Aside0.mk A70
  clear A70
  obtain rfl := Option.some.inj H
  go_enter Tryd.func30, Tryd.ntmps30
  go_wp2_with (first | ((with_reducible refine gate_callee (f := 38) rfl ?_); refine goesL_ (some 7) rfl rfl Tryd.func38 (by kernel_rfl) rfl #[.slice A0 l0.length c0] rfl gl_ ?_; (with_reducible refine (spec_l1Open.calls _ _ l0 t667 t668 w _ ?side1 ?side2 ?side3 A2.out).mono ?_); (case side1 => repeat (first | (with_reducible first | exact HB.out | apply below_alloc | apply pw_below_drewN | apply below_drew1) | exact HB.out)); (case side2 => exact HR0.out); (case side3 => exact HC0.out); rintro e w8 ⟨g669, rfl, hi, hb, hb2⟩; refine ⟨_, rfl, ?_⟩; have n0_ := m_ (hb); have n1_ := m_ (hi); clear HB; have HB := n0_; have HI669 := n1_; clear n0_ n1_; (try clear hb); (try clear hb2); (try clear hk); (try clear hi)) | ((with_reducible refine gate_callee (f := 62) rfl ?_); refine goesL_ (some 9) rfl rfl Tryd.func62 (by kernel_rfl) rfl #[.pointer (some ⟨g669, 0, none⟩)] rfl gl_ ?_; (with_reducible refine (spec_l15Cmd.calls k g669 t667 t668 t670 t671 t672 t673 t674 t675 t676 w _ ?side1 ?side2 A3.out).mono ?_); (case side1 => repeat (first | (with_reducible first | exact HI669.out | apply IsS91.alloc | apply IsS91.drewN | apply IsS91.drew | apply IsS91.set_1) | exact HI669.out)); (case side2 => repeat (first | (with_reducible first | exact HB.out | apply below_alloc | apply pw_below_drewN | apply below_drew1 | refine below_set ?_ (IsS91.ge HI669.out)) | exact HB.out)); rintro e w9 ⟨rfl, hi, hb, hk⟩; refine ⟨_, rfl, ?_⟩; have n0_ := m_ (hb); have n1_ := m_ (hi); clear HB; clear HI669; have HB := n0_; have HI669 := n1_; clear n0_ n1_; (try clear hb); (try clear hb2); (try clear hk); (try clear hi)) | ((with_reducible refine gate_callee (f := 61) rfl ?_); refine goesL_ (some 10) rfl rfl Tryd.func61 (by kernel_rfl) rfl #[.agg #[.int .i64 t670, .int .i64 t671, .int .i64 t672, .int .i64 t673, .int .i64 t674, .string t675]] rfl gl_ ?_; (with_reducible refine (spec_l6Cmd.calls k t670 t671 t672 t673 t674 t675 t677 _ A4.out).mono ?_); rintro e w10 ⟨rfl, hb⟩; refine ⟨_, rfl, ?_⟩; have n0_ := m_ (IsS91.below (by repeat (first | (with_reducible first | exact HI669.out | apply IsS91.alloc | apply IsS91.drewN | apply IsS91.drew | apply IsS91.set_1) | exact HI669.out)) hb); have n1_ := m_ (below_step (by repeat (first | (with_reducible first | exact HB.out | apply below_alloc | apply pw_below_drewN | apply below_drew1 | refine below_set ?_ (IsS91.ge HI669.out)) | exact HB.out)) hb); clear HI669; clear HB; have HI669 := n0_; have HB := n1_; clear n0_ n1_; (try clear hb); (try clear hb2); (try clear hk); (try clear hi)) | ((with_reducible refine gate_callee (f := 46) rfl ?_); refine goesL_ (some 12) rfl rfl Tryd.func46 (by kernel_rfl) rfl #[.pointer (some ⟨g669, 0, none⟩), .int .i64 6] rfl gl_ ?_; (with_reducible refine (spec_l1Rd_pick.calls k g669 t667 t676 6 t678 t679 w _ ?side1 ?side2 A5.out).mono ?_); (case side1 => repeat (first | (with_reducible first | exact HI669.out | apply IsS91.alloc | apply IsS91.drewN | apply IsS91.drew | apply IsS91.set_1) | exact HI669.out)); (case side2 => repeat (first | (with_reducible first | exact HB.out | apply below_alloc | apply pw_below_drewN | apply below_drew1 | refine below_set ?_ (IsS91.ge HI669.out)) | exact HB.out)); rintro e w11 ⟨rfl, hi, hb, hk⟩; refine ⟨_, rfl, ?_⟩; have n0_ := m_ (hb); have n1_ := m_ (hi); clear HB; clear HI669; have HB := n0_; have HI669 := n1_; clear n0_ n1_; (try clear hb); (try clear hb2); (try clear hk); (try clear hi)) | ((with_reducible refine gate_callee (f := 47) rfl ?_); refine goesL_ (some 17) rfl rfl Tryd.func47 (by kernel_rfl) rfl #[.pointer (some ⟨g669, 0, none⟩), .string t677] rfl gl_ ?_; (with_reducible refine (spec_l15Turn.calls k g669 t667 t679 t677 t680 t681 w _ ?side1 ?side2 A7.out).mono ?_); (case side1 => repeat (first | (with_reducible first | exact HI669.out | apply IsS91.alloc | apply IsS91.drewN | apply IsS91.drew | apply IsS91.set_1) | exact HI669.out)); (case side2 => repeat (first | (with_reducible first | exact HB.out | apply below_alloc | apply pw_below_drewN | apply below_drew1 | refine below_set ?_ (IsS91.ge HI669.out)) | exact HB.out)); rintro e w12 ⟨rfl, hi, hb, hk⟩; refine ⟨_, rfl, ?_⟩; have n0_ := m_ (hb); have n1_ := m_ (hi); clear HB; clear HI669; have HB := n0_; have HI669 := n1_; clear n0_ n1_; (try clear hb); (try clear hb2); (try clear hk); (try clear hi)))
  go_ret
  exact ⟨by first | rfl | (simp [errW_none, errW_some] <;> rfl) | (simp [*, errW_none, errW_some] <;> rfl), by repeat (first | (with_reducible first | exact HB.out | apply below_alloc | apply pw_below_drewN | apply below_drew1 | refine below_set ?_ (IsS91.ge HI669.out)) | exact HB.out)⟩
 ·rw [if_neg c6] at H
  have c6b0 : (t678 == 0) = false := beq_eq_false_iff_ne.mpr c6
  have c6b1 : (t678 != 0) = true := bne_iff_ne.mpr c6
  by_cases c13 : t678 = 1
  ·rw [if_pos c13] at H
   have c13b0 : (t678 == 1) = true := beq_iff_eq.mpr c13
   have c13b1 : (t678 != 1) = false := bne_eq_false_iff_eq.mpr c13
   clear c13
   replace H := Option.bind_eq_some_iff.mp H
   obtain ⟨⟨t682, t683⟩, A140, H⟩ := H
   replace H : (if 0 ≤ t682 then (if t682 ≤ (t677.size : Int) then (some (t677.extract 0 (t682 : Int).toNat)) else (none)) else (none)) = some r := H
   have A14 := Aside0.mk A140
   clear A140
   by_cases c15 : 0 ≤ t682
   ·rw [if_pos c15] at H
    have c15b0 := eq_true c15
    have c15b1 : decide (0 ≤ t682) = true := decide_eq_true c15
    clear c15
    by_cases c16 : t682 ≤ (t677.size : Int)
    ·rw [if_pos c16] at H
     have c16b0 := eq_true c16
     have c16b1 : decide (t682 ≤ (t677.size : Int)) = true := decide_eq_true c16
     clear c16
     obtain rfl := Option.some.inj H
     go_enter Tryd.func30, Tryd.ntmps30
     go_wp2_with (first | ((with_reducible refine gate_callee (f := 38) rfl ?_); refine goesL_ (some 7) rfl rfl Tryd.func38 (by kernel_rfl) rfl #[.slice A0 l0.length c0] rfl gl_ ?_; (with_reducible refine (spec_l1Open.calls _ _ l0 t667 t668 w _ ?side1 ?side2 ?side3 A2.out).mono ?_); (case side1 => repeat (first | (with_reducible first | exact HB.out | apply below_alloc | apply pw_below_drewN | apply below_drew1) | exact HB.out)); (case side2 => exact HR0.out); (case side3 => exact HC0.out); rintro e w17 ⟨g669, rfl, hi, hb, hb2⟩; refine ⟨_, rfl, ?_⟩; have n0_ := m_ (hb); have n1_ := m_ (hi); clear HB; have HB := n0_; have HI669 := n1_; clear n0_ n1_; (try clear hb); (try clear hb2); (try clear hk); (try clear hi)) | ((with_reducible refine gate_callee (f := 62) rfl ?_); refine goesL_ (some 9) rfl rfl Tryd.func62 (by kernel_rfl) rfl #[.pointer (some ⟨g669, 0, none⟩)] rfl gl_ ?_; (with_reducible refine (spec_l15Cmd.calls k g669 t667 t668 t670 t671 t672 t673 t674 t675 t676 w _ ?side1 ?side2 A3.out).mono ?_); (case side1 => repeat (first | (with_reducible first | exact HI669.out | apply IsS91.alloc | apply IsS91.drewN | apply IsS91.drew | apply IsS91.set_1) | exact HI669.out)); (case side2 => repeat (first | (with_reducible first | exact HB.out | apply below_alloc | apply pw_below_drewN | apply below_drew1 | refine below_set ?_ (IsS91.ge HI669.out)) | exact HB.out)); rintro e w18 ⟨rfl, hi, hb, hk⟩; refine ⟨_, rfl, ?_⟩; have n0_ := m_ (hb); have n1_ := m_ (hi); clear HB; clear HI669; have HB := n0_; have HI669 := n1_; clear n0_ n1_; (try clear hb); (try clear hb2); (try clear hk); (try clear hi)) | ((with_reducible refine gate_callee (f := 61) rfl ?_); refine goesL_ (some 10) rfl rfl Tryd.func61 (by kernel_rfl) rfl #[.agg #[.int .i64 t670, .int .i64 t671, .int .i64 t672, .int .i64 t673, .int .i64 t674, .string t675]] rfl gl_ ?_; (with_reducible refine (spec_l6Cmd.calls k t670 t671 t672 t673 t674 t675 t677 _ A4.out).mono ?_); rintro e w19 ⟨rfl, hb⟩; refine ⟨_, rfl, ?_⟩; have n0_ := m_ (IsS91.below (by repeat (first | (with_reducible first | exact HI669.out | apply IsS91.alloc | apply IsS91.drewN | apply IsS91.drew | apply IsS91.set_1) | exact HI669.out)) hb); have n1_ := m_ (below_step (by repeat (first | (with_reducible first | exact HB.out | apply below_alloc | apply pw_below_drewN | apply below_drew1 | refine below_set ?_ (IsS91.ge HI669.out)) | exact HB.out)) hb); clear HI669; clear HB; have HI669 := n0_; have HB := n1_; clear n0_ n1_; (try clear hb); (try clear hb2); (try clear hk); (try clear hi)) | ((with_reducible refine gate_callee (f := 46) rfl ?_); refine goesL_ (some 12) rfl rfl Tryd.func46 (by kernel_rfl) rfl #[.pointer (some ⟨g669, 0, none⟩), .int .i64 6] rfl gl_ ?_; (with_reducible refine (spec_l1Rd_pick.calls k g669 t667 t676 6 t678 t679 w _ ?side1 ?side2 A5.out).mono ?_); (case side1 => repeat (first | (with_reducible first | exact HI669.out | apply IsS91.alloc | apply IsS91.drewN | apply IsS91.drew | apply IsS91.set_1) | exact HI669.out)); (case side2 => repeat (first | (with_reducible first | exact HB.out | apply below_alloc | apply pw_below_drewN | apply below_drew1 | refine below_set ?_ (IsS91.ge HI669.out)) | exact HB.out)); rintro e w20 ⟨rfl, hi, hb, hk⟩; refine ⟨_, rfl, ?_⟩; have n0_ := m_ (hb); have n1_ := m_ (hi); clear HB; clear HI669; have HB := n0_; have HI669 := n1_; clear n0_ n1_; (try clear hb); (try clear hb2); (try clear hk); (try clear hi)) | ((with_reducible refine gate_callee (f := 46) rfl ?_); refine goesL_ (some 25) rfl rfl Tryd.func46 (by kernel_rfl) rfl #[.pointer (some ⟨g669, 0, none⟩), .int .i64 (wrap64 ((t677.size : Int) + 1))] rfl gl_ ?_; (with_reducible refine (spec_l1Rd_pick.calls k g669 t667 t679 (wrap64 ((t677.size : Int) + 1)) t682 t683 w _ ?side1 ?side2 A14.out).mono ?_); (case side1 => repeat (first | (with_reducible first | exact HI669.out | apply IsS91.alloc | apply IsS91.drewN | apply IsS91.drew | apply IsS91.set_1) | exact HI669.out)); (case side2 => repeat (first | (with_reducible first | exact HB.out | apply below_alloc | apply pw_below_drewN | apply below_drew1 | refine below_set ?_ (IsS91.ge HI669.out)) | exact HB.out)); rintro e w21 ⟨rfl, hi, hb, hk⟩; refine ⟨_, rfl, ?_⟩; have n0_ := m_ (hb); have n1_ := m_ (hi); clear HB; clear HI669; have HB := n0_; have HI669 := n1_; clear n0_ n1_; (try clear hb); (try clear hb2); (try clear hk); (try clear hi)))
     go_ret
     exact ⟨by first | rfl | (simp [errW_none, errW_some] <;> rfl) | (simp [*, errW_none, errW_some] <;> rfl), by repeat (first | (with_reducible first | exact HB.out | apply below_alloc | apply pw_below_drewN | apply below_drew1 | refine below_set ?_ (IsS91.ge HI669.out)) | exact HB.out)⟩
    ·rw [if_neg c16] at H
     exact absurd H (by simp)
   ·rw [if_neg c15] at H
    exact absurd H (by simp)
  ·rw [if_neg c13] at H
   have c13b0 : (t678 == 1) = false := beq_eq_false_iff_ne.mpr c13
   have c13b1 : (t678 != 1) = true := bne_iff_ne.mpr c13
   by_cases c22 : t678 = 2
   ·rw [if_pos c22] at H
    have c22b0 : (t678 == 2) = true := beq_iff_eq.mpr c22
    have c22b1 : (t678 != 2) = false := bne_eq_false_iff_eq.mpr c22
    clear c22
    replace H := Option.bind_eq_some_iff.mp H
    obtain ⟨⟨t684, t685, t686, t687, t688⟩, A230, H⟩ := H
    replace H : ((spec_PacketPut.f k t684 t685 t686 t687).bind fun t689 => (some t689)) = some r := H
    have A23 := Aside0.mk A230
    clear A230
    replace H := Option.bind_eq_some_iff.mp H
    obtain ⟨t689, A240, H⟩ := H
    replace H : (some t689) = some r := H
    have A24 := Aside0.mk A240
    clear A240
    obtain rfl := Option.some.inj H
    go_enter Tryd.func30, Tryd.ntmps30
    go_wp2_with (first | ((with_reducible refine gate_callee (f := 38) rfl ?_); refine goesL_ (some 7) rfl rfl Tryd.func38 (by kernel_rfl) rfl #[.slice A0 l0.length c0] rfl gl_ ?_; (with_reducible refine (spec_l1Open.calls _ _ l0 t667 t668 w _ ?side1 ?side2 ?side3 A2.out).mono ?_); (case side1 => repeat (first | (with_reducible first | exact HB.out | apply below_alloc | apply pw_below_drewN | apply below_drew1) | exact HB.out)); (case side2 => exact HR0.out); (case side3 => exact HC0.out); rintro e w25 ⟨g669, rfl, hi, hb, hb2⟩; refine ⟨_, rfl, ?_⟩; have n0_ := m_ (hb); have n1_ := m_ (hi); clear HB; have HB := n0_; have HI669 := n1_; clear n0_ n1_; (try clear hb); (try clear hb2); (try clear hk); (try clear hi)) | ((with_reducible refine gate_callee (f := 62) rfl ?_); refine goesL_ (some 9) rfl rfl Tryd.func62 (by kernel_rfl) rfl #[.pointer (some ⟨g669, 0, none⟩)] rfl gl_ ?_; (with_reducible refine (spec_l15Cmd.calls k g669 t667 t668 t670 t671 t672 t673 t674 t675 t676 w _ ?side1 ?side2 A3.out).mono ?_); (case side1 => repeat (first | (with_reducible first | exact HI669.out | apply IsS91.alloc | apply IsS91.drewN | apply IsS91.drew | apply IsS91.set_1) | exact HI669.out)); (case side2 => repeat (first | (with_reducible first | exact HB.out | apply below_alloc | apply pw_below_drewN | apply below_drew1 | refine below_set ?_ (IsS91.ge HI669.out)) | exact HB.out)); rintro e w26 ⟨rfl, hi, hb, hk⟩; refine ⟨_, rfl, ?_⟩; have n0_ := m_ (hb); have n1_ := m_ (hi); clear HB; clear HI669; have HB := n0_; have HI669 := n1_; clear n0_ n1_; (try clear hb); (try clear hb2); (try clear hk); (try clear hi)) | ((with_reducible refine gate_callee (f := 61) rfl ?_); refine goesL_ (some 10) rfl rfl Tryd.func61 (by kernel_rfl) rfl #[.agg #[.int .i64 t670, .int .i64 t671, .int .i64 t672, .int .i64 t673, .int .i64 t674, .string t675]] rfl gl_ ?_; (with_reducible refine (spec_l6Cmd.calls k t670 t671 t672 t673 t674 t675 t677 _ A4.out).mono ?_); rintro e w27 ⟨rfl, hb⟩; refine ⟨_, rfl, ?_⟩; have n0_ := m_ (IsS91.below (by repeat (first | (with_reducible first | exact HI669.out | apply IsS91.alloc | apply IsS91.drewN | apply IsS91.drew | apply IsS91.set_1) | exact HI669.out)) hb); have n1_ := m_ (below_step (by repeat (first | (with_reducible first | exact HB.out | apply below_alloc | apply pw_below_drewN | apply below_drew1 | refine below_set ?_ (IsS91.ge HI669.out)) | exact HB.out)) hb); clear HI669; clear HB; have HI669 := n0_; have HB := n1_; clear n0_ n1_; (try clear hb); (try clear hb2); (try clear hk); (try clear hi)) | ((with_reducible refine gate_callee (f := 46) rfl ?_); refine goesL_ (some 12) rfl rfl Tryd.func46 (by kernel_rfl) rfl #[.pointer (some ⟨g669, 0, none⟩), .int .i64 6] rfl gl_ ?_; (with_reducible refine (spec_l1Rd_pick.calls k g669 t667 t676 6 t678 t679 w _ ?side1 ?side2 A5.out).mono ?_); (case side1 => repeat (first | (with_reducible first | exact HI669.out | apply IsS91.alloc | apply IsS91.drewN | apply IsS91.drew | apply IsS91.set_1) | exact HI669.out)); (case side2 => repeat (first | (with_reducible first | exact HB.out | apply below_alloc | apply pw_below_drewN | apply below_drew1 | refine below_set ?_ (IsS91.ge HI669.out)) | exact HB.out)); rintro e w28 ⟨rfl, hi, hb, hk⟩; refine ⟨_, rfl, ?_⟩; have n0_ := m_ (hb); have n1_ := m_ (hi); clear HB; clear HI669; have HB := n0_; have HI669 := n1_; clear n0_ n1_; (try clear hb); (try clear hb2); (try clear hk); (try clear hi)) | ((with_reducible refine gate_callee (f := 37) rfl ?_); refine goesL_ (some 30) rfl rfl Tryd.func37 (by kernel_rfl) rfl #[.pointer (some ⟨g669, 0, none⟩)] rfl gl_ ?_; (with_reducible refine (spec_l15AnyPacket.calls k g669 t667 t679 t684 t685 t686 t687 t688 w _ ?side1 ?side2 A23.out).mono ?_); (case side1 => repeat (first | (with_reducible first | exact HI669.out | apply IsS91.alloc | apply IsS91.drewN | apply IsS91.drew | apply IsS91.set_1) | exact HI669.out)); (case side2 => repeat (first | (with_reducible first | exact HB.out | apply below_alloc | apply pw_below_drewN | apply below_drew1 | refine below_set ?_ (IsS91.ge HI669.out)) | exact HB.out)); rintro e w29 ⟨rfl, hi, hb, hk⟩; refine ⟨_, rfl, ?_⟩; have n0_ := m_ (hb); have n1_ := m_ (hi); clear HB; clear HI669; have HB := n0_; have HI669 := n1_; clear n0_ n1_; (try clear hb); (try clear hb2); (try clear hk); (try clear hi)) | ((with_reducible refine gate_callee (f := 15) rfl ?_); refine goesL_ (some 31) rfl rfl Tryd.func15 (by kernel_rfl) rfl #[.agg #[.bool t684, .int .i64 t685, .int .i64 t686, .string t687]] rfl gl_ ?_; (with_reducible refine (spec_PacketPut.calls k t684 t685 t686 t687 t689 _ A24.out).mono ?_); rintro e w30 ⟨rfl, hb⟩; refine ⟨_, rfl, ?_⟩; have n0_ := m_ (IsS91.below (by repeat (first | (with_reducible first | exact HI669.out | apply IsS91.alloc | apply IsS91.drewN | apply IsS91.drew | apply IsS91.set_1) | exact HI669.out)) hb); have n1_ := m_ (below_step (by repeat (first | (with_reducible first | exact HB.out | apply below_alloc | apply pw_below_drewN | apply below_drew1 | refine below_set ?_ (IsS91.ge HI669.out)) | exact HB.out)) hb); clear HI669; clear HB; have HI669 := n0_; have HB := n1_; clear n0_ n1_; (try clear hb); (try clear hb2); (try clear hk); (try clear hi)))
    go_ret
    exact ⟨by first | rfl | (simp [errW_none, errW_some] <;> rfl) | (simp [*, errW_none, errW_some] <;> rfl), by repeat (first | (with_reducible first | exact HB.out | apply below_alloc | apply pw_below_drewN | apply below_drew1 | refine below_set ?_ (IsS91.ge HI669.out)) | exact HB.out)⟩
   ·rw [if_neg c22] at H
    have c22b0 : (t678 == 2) = false := beq_eq_false_iff_ne.mpr c22
    have c22b1 : (t678 != 2) = true := bne_iff_ne.mpr c22
    by_cases c31 : t678 = 3
    ·rw [if_pos c31] at H
     have c31b0 : (t678 == 3) = true := beq_iff_eq.mpr c31
     have c31b1 : (t678 != 3) = false := bne_eq_false_iff_eq.mpr c31
     clear c31
     obtain ⟨y690, hy690⟩ : ∃ y_ : List ByteArray, y_ = (([(⟨#[]⟩ : ByteArray), (⟨#[97]⟩ : ByteArray), (⟨#[46, 49, 50, 51]⟩ : ByteArray), (⟨#[47, 49, 50]⟩ : ByteArray)] : List ByteArray)) := ⟨_, rfl⟩
     replace H : ((spec_l1Rd_of.f k t667 t679 y690).bind fun bt693 => (if bt693.1.size + 2 ≤ 9223372036854775807 then ((spec_l6Put.f k true 1 0 (bt693.1 ++ (⟨#[0, 0]⟩ : ByteArray))).bind fun t695 => (if 0 ≤ (wrap64 ((t695.size : Int) - 2)) then (if (wrap64 ((t695.size : Int) - 2)) ≤ (t695.size : Int) then ((spec_Crc16.f k (t695.extract 0 ((wrap64 ((t695.size : Int) - 2)) : Int).toNat)).bind fun t696 => ((spec_l1Put.f k t696 2).bind fun t697 => (if (t695.extract 0 ((wrap64 ((t695.size : Int) - 2)) : Int).toNat).size + t697.size ≤ 9223372036854775807 then (some ((t695.extract 0 ((wrap64 ((t695.size : Int) - 2)) : Int).toNat) ++ t697)) else (none)))) else (none)) else (none))) else (none))) = some r := by first | (rw [hy690]; with_reducible exact H) | (have H2_ := (Option.bind_some _ _).symm.trans H; rw [hy690]; with_reducible exact H2_) | (have H2_ := (Option.bind_some _ _).symm.trans H; with_reducible exact H2_) | with_reducible exact H | (rw [hy690]; exact H) | exact H
     have Ny690 := Aside0.mk hy690
     clear hy690
     replace H := Option.bind_eq_some_iff.mp H
     obtain ⟨⟨t693, t694⟩, A320, H⟩ := H
     replace H : (if t693.size + 2 ≤ 9223372036854775807 then ((spec_l6Put.f k true 1 0 (t693 ++ (⟨#[0, 0]⟩ : ByteArray))).bind fun t695 => (if 0 ≤ (wrap64 ((t695.size : Int) - 2)) then (if (wrap64 ((t695.size : Int) - 2)) ≤ (t695.size : Int) then ((spec_Crc16.f k (t695.extract 0 ((wrap64 ((t695.size : Int) - 2)) : Int).toNat)).bind fun t696 => ((spec_l1Put.f k t696 2).bind fun t697 => (if (t695.extract 0 ((wrap64 ((t695.size : Int) - 2)) : Int).toNat).size + t697.size ≤ 9223372036854775807 then (some ((t695.extract 0 ((wrap64 ((t695.size : Int) - 2)) : Int).toNat) ++ t697)) else (none)))) else (none)) else (none))) else (none)) = some r := H
     have A32 := Aside0.mk A320
     clear A320
     by_cases c33 : t693.size + 2 ≤ 9223372036854775807
     ·rw [if_pos c33] at H
      have c33b0 := eq_true c33
      have c33b1 : decide (t693.size + 2 ≤ 9223372036854775807) = true := decide_eq_true c33
      try have c33b2 : (9223372036854775807 < t693.size + 2) = False := eq_false (Nat.not_lt.2 c33)
      replace H := Option.bind_eq_some_iff.mp H
      obtain ⟨t695, A340, H⟩ := H
      replace H : (if 0 ≤ (wrap64 ((t695.size : Int) - 2)) then (if (wrap64 ((t695.size : Int) - 2)) ≤ (t695.size : Int) then ((spec_Crc16.f k (t695.extract 0 ((wrap64 ((t695.size : Int) - 2)) : Int).toNat)).bind fun t696 => ((spec_l1Put.f k t696 2).bind fun t697 => (if (t695.extract 0 ((wrap64 ((t695.size : Int) - 2)) : Int).toNat).size + t697.size ≤ 9223372036854775807 then (some ((t695.extract 0 ((wrap64 ((t695.size : Int) - 2)) : Int).toNat) ++ t697)) else (none)))) else (none)) else (none)) = some r := H
      have A34 := Aside0.mk A340
      clear A340
      obtain ⟨ji35, hji35⟩ : ∃ j_ : Int, (wrap64 ((t695.size : Int) - 2)) = j_ := ⟨_, rfl⟩
      replace H : (if 0 ≤ (ji35) then (if (ji35) ≤ (t695.size : Int) then ((spec_Crc16.f k (t695.extract 0 ((ji35) : Int).toNat)).bind fun t696 => ((spec_l1Put.f k t696 2).bind fun t697 => (if (t695.extract 0 ((ji35) : Int).toNat).size + t697.size ≤ 9223372036854775807 then (some ((t695.extract 0 ((ji35) : Int).toNat) ++ t697)) else (none)))) else (none)) else (none)) = some r := by first | (rw [hji35] at H; exact H) | (simp only [hji35] at H ⊢; exact H)
      (try rw [hji35] at A2)
      (try rw [hji35] at A3)
      (try rw [hji35] at A4)
      (try rw [hji35] at A5)
      (try rw [hji35] at A32)
      (try rw [hji35] at A34)
      have hji35w : (IntKind.i64.wrap ((t695.size : Int) - 2)) = ji35 := (i64_w _).trans hji35
      by_cases c36 : 0 ≤ (ji35)
      ·rw [if_pos c36] at H
       have c36b0 := eq_true c36
       have c36b1 : decide (0 ≤ (ji35)) = true := decide_eq_true c36
       clear c36
       by_cases c37 : (ji35) ≤ (t695.size : Int)
       ·rw [if_pos c37] at H
        have c37b0 := eq_true c37
        have c37b1 : decide ((ji35) ≤ (t695.size : Int)) = true := decide_eq_true c37
        clear c37
        have c38b0 := eq_true (of_decide_eq_true (by first | (with_reducible assumption) | assumption) : 0 ≤ (ji35))
        have c39b0 := eq_true (of_decide_eq_true (by first | (with_reducible assumption) | assumption) : (ji35) ≤ (t695.size : Int))
        replace H := Option.bind_eq_some_iff.mp H
        obtain ⟨t696, A400, H⟩ := H
        replace H : ((spec_l1Put.f k t696 2).bind fun t697 => (if (t695.extract 0 ((ji35) : Int).toNat).size + t697.size ≤ 9223372036854775807 then (some ((t695.extract 0 ((ji35) : Int).toNat) ++ t697)) else (none))) = some r := H
        have A40 := Aside0.mk A400
        clear A400
        replace H := Option.bind_eq_some_iff.mp H
        obtain ⟨t697, A410, H⟩ := H
        replace H : (if (t695.extract 0 ((ji35) : Int).toNat).size + t697.size ≤ 9223372036854775807 then (some ((t695.extract 0 ((ji35) : Int).toNat) ++ t697)) else (none)) = some r := H
        have A41 := Aside0.mk A410
        clear A410
        by_cases c42 : (t695.extract 0 ((ji35) : Int).toNat).size + t697.size ≤ 9223372036854775807
        ·rw [if_pos c42] at H
         have c42b0 := eq_true c42
         have c42b1 : decide ((t695.extract 0 ((ji35) : Int).toNat).size + t697.size ≤ 9223372036854775807) = true := decide_eq_true c42
         try have c42b2 : (9223372036854775807 < (t695.extract 0 ((ji35) : Int).toNat).size + t697.size) = False := eq_false (Nat.not_lt.2 c42)
         try (have h_ := c42; have g_ := (of_decide_eq_true (by first | (with_reducible assumption) | assumption) : (ji35) ≤ (t695.size : Int)); rw [ByteArray.size_extract] at h_; have c42b3 : (9223372036854775807 < ji35.toNat + t697.size) = False := eq_false (by omega); clear h_ g_)
         obtain rfl := Option.some.inj H
         go_enter Tryd.func30, Tryd.ntmps30
         try go_wp2_with (first | ((with_reducible refine gate_callee (f := 38) rfl ?_); refine goesL_ (some 7) rfl rfl Tryd.func38 (by kernel_rfl) rfl #[.slice A0 l0.length c0] rfl gl_ ?_; (with_reducible refine (spec_l1Open.calls _ _ l0 t667 t668 w _ ?side1 ?side2 ?side3 A2.out).mono ?_); (case side1 => repeat (first | (with_reducible first | exact HB.out | apply below_alloc | apply pw_below_drewN | apply below_drew1) | exact HB.out)); (case side2 => exact HR0.out); (case side3 => exact HC0.out); rintro e w43 ⟨g669, rfl, hi, hb, hb2⟩; refine ⟨_, rfl, ?_⟩; have n0_ := m_ (hb); have n1_ := m_ (hi); clear HB; have HB := n0_; have HI669 := n1_; clear n0_ n1_; (try clear hb); (try clear hb2); (try clear hk); (try clear hi)) | ((with_reducible refine gate_callee (f := 62) rfl ?_); refine goesL_ (some 9) rfl rfl Tryd.func62 (by kernel_rfl) rfl #[.pointer (some ⟨g669, 0, none⟩)] rfl gl_ ?_; (with_reducible refine (spec_l15Cmd.calls k g669 t667 t668 t670 t671 t672 t673 t674 t675 t676 w _ ?side1 ?side2 A3.out).mono ?_); (case side1 => repeat (first | (with_reducible first | exact HI669.out | apply IsS91.alloc | apply IsS91.drewN | apply IsS91.drew | apply IsS91.set_1) | exact HI669.out)); (case side2 => repeat (first | (with_reducible first | exact HB.out | apply below_alloc | apply pw_below_drewN | apply below_drew1 | refine below_set ?_ (IsS91.ge HI669.out)) | exact HB.out)); rintro e w44 ⟨rfl, hi, hb, hk⟩; refine ⟨_, rfl, ?_⟩; have n0_ := m_ (hb); have n1_ := m_ (hi); clear HB; clear HI669; have HB := n0_; have HI669 := n1_; clear n0_ n1_; (try clear hb); (try clear hb2); (try clear hk); (try clear hi)) | ((with_reducible refine gate_callee (f := 61) rfl ?_); refine goesL_ (some 10) rfl rfl Tryd.func61 (by kernel_rfl) rfl #[.agg #[.int .i64 t670, .int .i64 t671, .int .i64 t672, .int .i64 t673, .int .i64 t674, .string t675]] rfl gl_ ?_; (with_reducible refine (spec_l6Cmd.calls k t670 t671 t672 t673 t674 t675 t677 _ A4.out).mono ?_); rintro e w45 ⟨rfl, hb⟩; refine ⟨_, rfl, ?_⟩; have n0_ := m_ (IsS91.below (by repeat (first | (with_reducible first | exact HI669.out | apply IsS91.alloc | apply IsS91.drewN | apply IsS91.drew | apply IsS91.set_1) | exact HI669.out)) hb); have n1_ := m_ (below_step (by repeat (first | (with_reducible first | exact HB.out | apply below_alloc | apply pw_below_drewN | apply below_drew1 | refine below_set ?_ (IsS91.ge HI669.out)) | exact HB.out)) hb); clear HI669; clear HB; have HI669 := n0_; have HB := n1_; clear n0_ n1_; (try clear hb); (try clear hb2); (try clear hk); (try clear hi)) | ((with_reducible refine gate_callee (f := 46) rfl ?_); refine goesL_ (some 12) rfl rfl Tryd.func46 (by kernel_rfl) rfl #[.pointer (some ⟨g669, 0, none⟩), .int .i64 6] rfl gl_ ?_; (with_reducible refine (spec_l1Rd_pick.calls k g669 t667 t676 6 t678 t679 w _ ?side1 ?side2 A5.out).mono ?_); (case side1 => repeat (first | (with_reducible first | exact HI669.out | apply IsS91.alloc | apply IsS91.drewN | apply IsS91.drew | apply IsS91.set_1) | exact HI669.out)); (case side2 => repeat (first | (with_reducible first | exact HB.out | apply below_alloc | apply pw_below_drewN | apply below_drew1 | refine below_set ?_ (IsS91.ge HI669.out)) | exact HB.out)); rintro e w46 ⟨rfl, hi, hb, hk⟩; refine ⟨_, rfl, ?_⟩; have n0_ := m_ (hb); have n1_ := m_ (hi); clear HB; clear HI669; have HB := n0_; have HI669 := n1_; clear n0_ n1_; (try clear hb); (try clear hb2); (try clear hk); (try clear hi)) | ((with_reducible refine gate_dst (N := 35) rfl ?_); refine Kd.R_lit Kd.string _ 9 ?hg (N := 35) ?hd (xs := ([(⟨#[]⟩ : ByteArray), (⟨#[97]⟩ : ByteArray), (⟨#[46, 49, 50, 51]⟩ : ByteArray), (⟨#[47, 49, 50]⟩ : ByteArray)] : List ByteArray)) (inner := [.string (⟨#[]⟩ : ByteArray), .string (⟨#[97]⟩ : ByteArray), .string (⟨#[46, 49, 50, 51]⟩ : ByteArray), .string (⟨#[47, 49, 50]⟩ : ByteArray)]) (ok := fun _ => True) (okp := fun _ => True) ?hr ?hp (fun _ hk => hk) trivial (Below.refl _ _) (Nat.le_refl _) (by simp) ?_; (case hd => rfl); (case hg => rfl); (case hr => first | (go_simp; done) | (go_simp; rfl)); (case hp => exact (Reps.one (show Kd.M Kd.string _ _ _ (⟨#[]⟩ : ByteArray) [.string (⟨#[]⟩ : ByteArray)] from rfl) (Reps.one (show Kd.M Kd.string _ _ _ (⟨#[97]⟩ : ByteArray) [.string (⟨#[97]⟩ : ByteArray)] from rfl) (Reps.one (show Kd.M Kd.string _ _ _ (⟨#[46, 49, 50, 51]⟩ : ByteArray) [.string (⟨#[46, 49, 50, 51]⟩ : ByteArray)] from rfl) (Reps.one (show Kd.M Kd.string _ _ _ (⟨#[47, 49, 50]⟩ : ByteArray) [.string (⟨#[47, 49, 50]⟩ : ByteArray)] from rfl) (Reps.none _ _)))))); intro v691 w47 ho48 hb hg_ hnew_; clear hg_ hnew_; (first | rw [← Ny690.out] at ho48 | (simp only [Int.reduceToNat] at ho48; rw [← Ny690.out] at ho48)); have n0_ := m_ (Kd.R_lower ho48 (below_size (by repeat (first | (with_reducible first | exact HB.out | apply below_alloc | apply pw_below_drewN | apply below_drew1 | refine below_set ?_ (IsS91.ge HI669.out)) | exact HB.out)))); have n1_ := m_ (IsS91.below (by repeat (first | (with_reducible first | exact HI669.out | apply IsS91.alloc | apply IsS91.drewN | apply IsS91.drew | apply IsS91.set_1) | exact HI669.out)) hb); have n2_ := m_ (below_step (by repeat (first | (with_reducible first | exact HB.out | apply below_alloc | apply pw_below_drewN | apply below_drew1 | refine below_set ?_ (IsS91.ge HI669.out)) | exact HB.out)) hb); clear HI669; clear HB; have HO692 := n0_; have HI669 := n1_; have HB := n2_; clear n0_ n1_ n2_; clear hb ho48; obtain ⟨Ao49, co49, eo49⟩ := Kd.R_slice HO692.out; subst eo49) | ((with_reducible refine gate_callee (f := 63) rfl ?_); refine goesL_ (some 36) rfl rfl Tryd.func63 (by kernel_rfl) rfl #[.pointer (some ⟨g669, 0, none⟩), .slice Ao49 y690.length co49] rfl gl_ ?_; (with_reducible refine (spec_l1Rd_of.calls k g669 t667 t679 _ _ y690 t693 t694 w _ ?side1 ?side2 ?side3 ?side4 ?side5 A32.out).mono ?_); (case side1 => repeat (first | (with_reducible first | exact HI669.out | apply IsS91.alloc | apply IsS91.drewN | apply IsS91.drew | apply IsS91.set_1) | exact HI669.out)); (case side2 => repeat (first | (with_reducible first | exact HB.out | apply below_alloc | apply pw_below_drewN | apply below_drew1 | refine below_set ?_ (IsS91.ge HI669.out)) | exact HB.out)); (case side3 => exact cN (Kd.R_reads' HO692.out).2.2); (case side4 => exact (Kd.R_reads' HO692.out).2.1); (case side5 => exact far_slice (IsS91.own_ne HI669.out HO692.out (by decide))); rintro e w50 ⟨rfl, hi, hb, hk⟩; refine ⟨_, rfl, ?_⟩; have n0_ := m_ (Kd.R_mono (Kd.R_keep (IsS91.apart (show IsS91 w _ g669 t667 t679 from by repeat (first | (with_reducible first | exact HI669.out | apply IsS91.alloc | apply IsS91.drewN | apply IsS91.drew | apply IsS91.set_1) | exact HI669.out)) (rN HO692.out) (by decide)) hk (fun _ h => h.2)) (fun _ h => h.1)); have n1_ := m_ (hb); have n2_ := m_ (hi); clear HO692; clear HB; clear HI669; have HO692 := n0_; have HB := n1_; have HI669 := n2_; clear n0_ n1_ n2_; (try clear hb); (try clear hb2); (try clear hk); (try clear hi)) | ((with_reducible refine gate_callee (f := 43) rfl ?_); refine goesL_ (some 39) rfl rfl Tryd.func43 (by kernel_rfl) rfl #[.agg #[.bool true, .int .i64 1, .int .i64 0, .string (t693 ++ (⟨#[0, 0]⟩ : ByteArray))]] rfl gl_ ?_; (with_reducible refine (spec_l6Put.calls k true 1 0 (t693 ++ (⟨#[0, 0]⟩ : ByteArray)) t695 _ A34.out).mono ?_); rintro e w51 ⟨rfl, hb⟩; refine ⟨_, rfl, ?_⟩; have n0_ := m_ (Kd.R_below (rN HO692.out) hb); have n1_ := m_ (IsS91.below (by repeat (first | (with_reducible first | exact HI669.out | apply IsS91.alloc | apply IsS91.drewN | apply IsS91.drew | apply IsS91.set_1) | exact HI669.out)) hb); have n2_ := m_ (below_step (by repeat (first | (with_reducible first | exact HB.out | apply below_alloc | apply pw_below_drewN | apply below_drew1 | refine below_set ?_ (IsS91.ge HI669.out)) | exact HB.out)) hb); clear HO692; clear HI669; clear HB; have HO692 := n0_; have HI669 := n1_; have HB := n2_; clear n0_ n1_ n2_; (try clear hb); (try clear hb2); (try clear hk); (try clear hi)))
         have n0_ := m_ (Kd.R_drew HO692.out)
         have n1_ := m_ (IsS91.drew HI669.out)
         have n2_ := m_ (below_drew1 HB.out)
         clear HO692
         clear HI669
         clear HB
         have HO692 := n0_
         have HI669 := n1_
         have HB := n2_
         clear n0_ n1_ n2_
         refine start_ (n := 14) (S := fun w' => True) (ds := []) #[false, false, false, false, false, false, false, false, false, false, false, false, false, false] (by kernel_rfl) rfl rfl trivial (fun hHeld => ?_); refine with_tabW spec_DrawCmdGet.tab12 spec_DrawCmdGet.bits12 (fun HT_ HW_ => ?_)
         generalize w51.drew = w52 at HO692 HI669 HB hHeld ⊢
         refine pu 0 40 HT_ (h := ?_)
         refine pu 1 41 HT_ (h := ?_)
         refine pu 2 42 HT_ (h := ?_)
         refine pu 3 43 HT_ (h := ?_)
         refine pu 4 44 HT_ (h := ?_)
         refine pu 5 45 HT_ (h := ?_)
         refine pu 6 46 HT_ (h := ?_)
         refine pu 7 47 HT_ (h := ?_)
         refine pu 8 48 HT_ (h := ?_)
         refine pu 9 49 HT_ (h := ?_)
         refine one_ (i := 10) (N := some 50) #[true, true, true, true, true, true, true, true, true, true, true, false, false, false] rfl rfl (one_of HT_.out (by kernel_rfl)) (by decide) (fun K hK => ?_)
         refine goes_ Tryd.func57 (by kernel_rfl) rfl #[.string (t695.extract 0 ((ji35) : Int).toNat)] (by rfl) rfl rfl (by (try simp only [List.map_toArray, List.map_cons, List.map_nil]); first | done | (simp only [hji35]; rfl) | rfl | (simp only [List.length_drop, List.length_take]; rfl)) ?_
         with_reducible refine (spec_Crc16.calls k (t695.extract 0 ((ji35) : Int).toNat) t696 _ A40.out).mono ?_
         rintro e w' ⟨rfl, ⟨nd, rfl⟩⟩
         refine ⟨_, rfl, ?_⟩
         refine hK.out _ _ trivial (fun hHeld => ?_)
         clear hK K
         refine norm_ (a' := ?_) ?_ ?_
         rotate_left
         ·show Act.put _ (some 50) _ = _
          simp only [Act.put, List.setIfInBounds_toArray, List.set_cons_zero, List.set_cons_succ, i64_w, i32_w]
          rfl
         refine one_ (i := 11) (N := some 51) #[true, true, true, true, true, true, true, true, true, true, true, true, false, false] rfl rfl (one_of HT_.out (by kernel_rfl)) (by decide) (fun K hK => ?_)
         refine goes_ Tryd.func64 (by kernel_rfl) rfl #[.int .i64 t696, .int .i64 2] (by rfl) rfl rfl gl_ ?_
         with_reducible refine (spec_l1Put.calls k t696 2 t697 _ A41.out).mono ?_
         rintro e w53 ⟨rfl, hb⟩
         refine ⟨_, rfl, ?_⟩
         have n0_ := m_ (Kd.R_below (rN HO692.out) hb)
         have n1_ := m_ (IsS91.below (by repeat (first | (with_reducible first | exact HI669.out | apply IsS91.alloc | apply IsS91.drewN | apply IsS91.drew | apply IsS91.set_1) | exact HI669.out)) hb)
         have n2_ := m_ (below_step (by repeat (first | (with_reducible first | exact HB.out | apply below_alloc | apply pw_below_drewN | apply below_drew1 | refine below_set ?_ (IsS91.ge HI669.out)) | exact HB.out)) hb)
         clear HO692
         clear HI669
         clear HB
         have HO692 := n0_
         have HI669 := n1_
         have HB := n2_
         clear n0_ n1_ n2_
         (try clear hb)
         (try clear hb2)
         (try clear hk)
         (try clear hi)
         refine hK.out _ _ trivial (fun hHeld => ?_)
         clear hK K
         refine norm_ (a' := ?_) ?_ ?_
         rotate_left
         ·show Act.put _ (some 51) _ = _
          simp only [Act.put, List.setIfInBounds_toArray, List.set_cons_zero, List.set_cons_succ, i64_w, i32_w]
          rfl
         refine pu 12 52 HT_ (h := ?_)
         refine pu 13 2 HT_ (h := ?_)
         refine done_ (done_of HT_.out (by kernel_rfl)) ?_
         try go_wp2
         go_ret
         exact ⟨by first | rfl | (simp [errW_none, errW_some] <;> rfl) | (simp only [← hji35]; first | rfl | (simp [errW_none, errW_some] <;> rfl)) | (simp [*, errW_none, errW_some] <;> rfl), by repeat (first | (with_reducible first | exact HB.out | apply below_alloc | apply pw_below_drewN | apply below_drew1 | refine below_set ?_ (IsS91.ge HI669.out)) | exact HB.out)⟩
        ·rw [if_neg c42] at H
         exact absurd H (by simp)
       ·rw [if_neg c37] at H
        exact absurd H (by simp)
      ·rw [if_neg c36] at H
       exact absurd H (by simp)
     ·rw [if_neg c33] at H
      exact absurd H (by simp)
    ·rw [if_neg c31] at H
     have c31b0 : (t678 == 3) = false := beq_eq_false_iff_ne.mpr c31
     have c31b1 : (t678 != 3) = true := bne_iff_ne.mpr c31
     obtain rfl := Option.some.inj H
     go_enter Tryd.func30, Tryd.ntmps30
     go_wp2_with (first | ((with_reducible refine gate_callee (f := 38) rfl ?_); refine goesL_ (some 7) rfl rfl Tryd.func38 (by kernel_rfl) rfl #[.slice A0 l0.length c0] rfl gl_ ?_; (with_reducible refine (spec_l1Open.calls _ _ l0 t667 t668 w _ ?side1 ?side2 ?side3 A2.out).mono ?_); (case side1 => repeat (first | (with_reducible first | exact HB.out | apply below_alloc | apply pw_below_drewN | apply below_drew1) | exact HB.out)); (case side2 => exact HR0.out); (case side3 => exact HC0.out); rintro e w54 ⟨g669, rfl, hi, hb, hb2⟩; refine ⟨_, rfl, ?_⟩; have n0_ := m_ (hb); have n1_ := m_ (hi); clear HB; have HB := n0_; have HI669 := n1_; clear n0_ n1_; (try clear hb); (try clear hb2); (try clear hk); (try clear hi)) | ((with_reducible refine gate_callee (f := 62) rfl ?_); refine goesL_ (some 9) rfl rfl Tryd.func62 (by kernel_rfl) rfl #[.pointer (some ⟨g669, 0, none⟩)] rfl gl_ ?_; (with_reducible refine (spec_l15Cmd.calls k g669 t667 t668 t670 t671 t672 t673 t674 t675 t676 w _ ?side1 ?side2 A3.out).mono ?_); (case side1 => repeat (first | (with_reducible first | exact HI669.out | apply IsS91.alloc | apply IsS91.drewN | apply IsS91.drew | apply IsS91.set_1) | exact HI669.out)); (case side2 => repeat (first | (with_reducible first | exact HB.out | apply below_alloc | apply pw_below_drewN | apply below_drew1 | refine below_set ?_ (IsS91.ge HI669.out)) | exact HB.out)); rintro e w55 ⟨rfl, hi, hb, hk⟩; refine ⟨_, rfl, ?_⟩; have n0_ := m_ (hb); have n1_ := m_ (hi); clear HB; clear HI669; have HB := n0_; have HI669 := n1_; clear n0_ n1_; (try clear hb); (try clear hb2); (try clear hk); (try clear hi)) | ((with_reducible refine gate_callee (f := 61) rfl ?_); refine goesL_ (some 10) rfl rfl Tryd.func61 (by kernel_rfl) rfl #[.agg #[.int .i64 t670, .int .i64 t671, .int .i64 t672, .int .i64 t673, .int .i64 t674, .string t675]] rfl gl_ ?_; (with_reducible refine (spec_l6Cmd.calls k t670 t671 t672 t673 t674 t675 t677 _ A4.out).mono ?_); rintro e w56 ⟨rfl, hb⟩; refine ⟨_, rfl, ?_⟩; have n0_ := m_ (IsS91.below (by repeat (first | (with_reducible first | exact HI669.out | apply IsS91.alloc | apply IsS91.drewN | apply IsS91.drew | apply IsS91.set_1) | exact HI669.out)) hb); have n1_ := m_ (below_step (by repeat (first | (with_reducible first | exact HB.out | apply below_alloc | apply pw_below_drewN | apply below_drew1 | refine below_set ?_ (IsS91.ge HI669.out)) | exact HB.out)) hb); clear HI669; clear HB; have HI669 := n0_; have HB := n1_; clear n0_ n1_; (try clear hb); (try clear hb2); (try clear hk); (try clear hi)) | ((with_reducible refine gate_callee (f := 46) rfl ?_); refine goesL_ (some 12) rfl rfl Tryd.func46 (by kernel_rfl) rfl #[.pointer (some ⟨g669, 0, none⟩), .int .i64 6] rfl gl_ ?_; (with_reducible refine (spec_l1Rd_pick.calls k g669 t667 t676 6 t678 t679 w _ ?side1 ?side2 A5.out).mono ?_); (case side1 => repeat (first | (with_reducible first | exact HI669.out | apply IsS91.alloc | apply IsS91.drewN | apply IsS91.drew | apply IsS91.set_1) | exact HI669.out)); (case side2 => repeat (first | (with_reducible first | exact HB.out | apply below_alloc | apply pw_below_drewN | apply below_drew1 | refine below_set ?_ (IsS91.ge HI669.out)) | exact HB.out)); rintro e w57 ⟨rfl, hi, hb, hk⟩; refine ⟨_, rfl, ?_⟩; have n0_ := m_ (hb); have n1_ := m_ (hi); clear HB; clear HI669; have HB := n0_; have HI669 := n1_; clear n0_ n1_; (try clear hb); (try clear hb2); (try clear hk); (try clear hi)))
     go_ret
     exact ⟨by first | rfl | (simp [errW_none, errW_some] <;> rfl) | (simp [*, errW_none, errW_some] <;> rfl), by repeat (first | (with_reducible first | exact HB.out | apply below_alloc | apply pw_below_drewN | apply below_drew1 | refine below_set ?_ (IsS91.ge HI669.out)) | exact HB.out)⟩

/-! ### laws_FnCmdBack: function 9 -/
mutual
def laws_FnCmdBack.j0 : Nat → List Int → List Int → Bool → Option (Bool)
 | 0, _, _, _ => none
 | k + 1, x0, x1, x21 => if x21 = true then (some true) else ((spec_DrawCmdPut.f k x0).bind fun bt698 => ((impl_CmdPut.f k bt698.1 bt698.2.1 bt698.2.2.1 bt698.2.2.2.1 bt698.2.2.2.2.1 bt698.2.2.2.2.2).bind fun t705 => ((spec_CmdPut.f k bt698.1 bt698.2.1 bt698.2.2.1 bt698.2.2.2.1 bt698.2.2.2.2.1 bt698.2.2.2.2.2).bind fun t706 => (if t705.toList = t706.toList then (if t705.toList = ([] : List UInt8) then (laws_FnCmdBack.j1 k x1) else ((impl_CmdGet.f k t705).bind fun bt707 => (if (!(bt707.1 == bt698.1) || (!(bt707.2.1 == bt698.2.1) || (!(bt707.2.2.1 == bt698.2.2.1) || (!(bt707.2.2.2.1 == bt698.2.2.2.1) || (!(bt707.2.2.2.2.1 == bt698.2.2.2.2.1) || (!(bt707.2.2.2.2.2.1.toList == bt698.2.2.2.2.2.toList))))))) = true then (some false) else (if bt707.2.2.2.2.2.2 = 0 then (laws_FnCmdBack.j1 k x1) else (some false))))) else (some false)))))
def laws_FnCmdBack.j1 : Nat → List Int → Option (Bool)
 | 0, _ => none
 | k + 1, x1 => (spec_DrawCmdGet.f k x1).bind fun t715 => ((impl_CmdGet.f k t715).bind fun bt716 => ((spec_CmdGet.f k t715).bind fun bt724 => (if (bt716.1 == bt724.1 && (bt716.2.1 == bt724.2.1 && (bt716.2.2.1 == bt724.2.2.1 && (bt716.2.2.2.1 == bt724.2.2.2.1 && (bt716.2.2.2.2.1 == bt724.2.2.2.2.1 && (bt716.2.2.2.2.2.1.toList == bt724.2.2.2.2.2.1.toList)))))) = true then (if bt716.2.2.2.2.2.2 = bt724.2.2.2.2.2.2 then (if bt716.2.2.2.2.2.2 = 0 then ((impl_CmdPut.f k bt716.1 bt716.2.1 bt716.2.2.1 bt716.2.2.2.1 bt716.2.2.2.2.1 bt716.2.2.2.2.2.1).bind fun t732 => (some (t732.toList == t715.toList))) else (some true)) else (some false)) else (some false))))
end
def laws_FnCmdBack.f (k : Nat) (l0 : List Int) (l1 : List Int) : Option (Bool) := if (l0.length : Int) > 1048576 then (laws_FnCmdBack.j0 k l0 l1 true) else (laws_FnCmdBack.j0 k l0 l1 (decide ((l1.length : Int) > 1048576)))
theorem laws_FnCmdBack.mono_l : ∀ k, (∀ y0 y1 y2, LeO (laws_FnCmdBack.j0 k y0 y1 y2) (laws_FnCmdBack.j0 (k + 1) y0 y1 y2)) ∧ (∀ y0, LeO (laws_FnCmdBack.j1 k y0) (laws_FnCmdBack.j1 (k + 1) y0))
 | 0 => ⟨fun _ _ _ r h => by simp [laws_FnCmdBack.j0] at h, fun _ r h => by simp [laws_FnCmdBack.j1] at h⟩
 | k + 1 => by
  obtain ⟨ih0, ih1⟩ := laws_FnCmdBack.mono_l k
  refine ⟨?_, ?_⟩
  ·intro y0 y1 y2
   unfold laws_FnCmdBack.j0
   repeat' first
   | (with_reducible exact ih0 _ _ _)
   | (with_reducible exact ih1 _)
   | (with_reducible exact impl_CmdGet.mono _ _)
   | (with_reducible exact impl_CmdPut.mono _ _ _ _ _ _ _)
   | (with_reducible exact spec_CmdGet.mono _ _)
   | (with_reducible exact spec_CmdPut.mono _ _ _ _ _ _ _)
   | (with_reducible exact spec_DrawCmdGet.mono _ _)
   | (with_reducible exact spec_DrawCmdPut.mono _ _)
   | (with_reducible exact LeO.refl _)
   | (with_reducible exact LeO.none _)
   | (with_reducible refine LeO.ite ?_ ?_)
   | (with_reducible refine LeO.bind ?_ (fun _ => ?_))
   | exact ih0 _ _ _
   | exact ih1 _
   | exact impl_CmdGet.mono _ _
   | exact impl_CmdPut.mono _ _ _ _ _ _ _
   | exact spec_CmdGet.mono _ _
   | exact spec_CmdPut.mono _ _ _ _ _ _ _
   | exact spec_DrawCmdGet.mono _ _
   | exact spec_DrawCmdPut.mono _ _
   | exact LeO.none _
   | refine LeO.ite ?_ ?_
   | refine LeO.bind ?_ (fun _ => ?_)
  ·intro y0
   unfold laws_FnCmdBack.j1
   repeat' first
   | (with_reducible exact ih0 _ _ _)
   | (with_reducible exact ih1 _)
   | (with_reducible exact impl_CmdGet.mono _ _)
   | (with_reducible exact impl_CmdPut.mono _ _ _ _ _ _ _)
   | (with_reducible exact spec_CmdGet.mono _ _)
   | (with_reducible exact spec_CmdPut.mono _ _ _ _ _ _ _)
   | (with_reducible exact spec_DrawCmdGet.mono _ _)
   | (with_reducible exact spec_DrawCmdPut.mono _ _)
   | (with_reducible exact LeO.refl _)
   | (with_reducible exact LeO.none _)
   | (with_reducible refine LeO.ite ?_ ?_)
   | (with_reducible refine LeO.bind ?_ (fun _ => ?_))
   | exact ih0 _ _ _
   | exact ih1 _
   | exact impl_CmdGet.mono _ _
   | exact impl_CmdPut.mono _ _ _ _ _ _ _
   | exact spec_CmdGet.mono _ _
   | exact spec_CmdPut.mono _ _ _ _ _ _ _
   | exact spec_DrawCmdGet.mono _ _
   | exact spec_DrawCmdPut.mono _ _
   | exact LeO.none _
   | refine LeO.ite ?_ ?_
   | refine LeO.bind ?_ (fun _ => ?_)
theorem laws_FnCmdBack.mono : ∀ a0 a1 k, LeO (laws_FnCmdBack.f k a0 a1) (laws_FnCmdBack.f (k + 1) a0 a1) := by
 intro a0 a1 k
 obtain ⟨ih0, ih1⟩ := laws_FnCmdBack.mono_l k
 unfold laws_FnCmdBack.f
 repeat' first
   | (with_reducible exact ih0 _ _ _)
   | (with_reducible exact ih1 _)
   | (with_reducible exact impl_CmdGet.mono _ _)
   | (with_reducible exact impl_CmdPut.mono _ _ _ _ _ _ _)
   | (with_reducible exact spec_CmdGet.mono _ _)
   | (with_reducible exact spec_CmdPut.mono _ _ _ _ _ _ _)
   | (with_reducible exact spec_DrawCmdGet.mono _ _)
   | (with_reducible exact spec_DrawCmdPut.mono _ _)
   | (with_reducible exact LeO.refl _)
   | (with_reducible exact LeO.none _)
   | (with_reducible refine LeO.ite ?_ ?_)
   | (with_reducible refine LeO.bind ?_ (fun _ => ?_))
   | exact ih0 _ _ _
   | exact ih1 _
   | exact impl_CmdGet.mono _ _
   | exact impl_CmdPut.mono _ _ _ _ _ _ _
   | exact spec_CmdGet.mono _ _
   | exact spec_CmdPut.mono _ _ _ _ _ _ _
   | exact spec_DrawCmdGet.mono _ _
   | exact spec_DrawCmdPut.mono _ _
   | exact LeO.none _
   | refine LeO.ite ?_ ?_
   | refine LeO.bind ?_ (fun _ => ?_)
set_option maxHeartbeats 8000000 in
set_option maxRecDepth 100000 in
theorem laws_FnCmdBack.calls (k : Nat) (A0 : Option Addr) (c0 : Nat) (l0 : List Int) (A1 : Option Addr) (c1 : Nat) (l1 : List Int) (r : Bool) (w : World) (hr0 : Kd.C (Kd.int .u8) w A0 l0.length l0) (hc0 : l0.length ≤ c0) (hr1 : Kd.C (Kd.int .u8) w A1 l1.length l1) (hc1 : l1.length ≤ c1) (h : laws_FnCmdBack.f k l0 l1 = some r) :
  Calls Tryd.prog 9 #[.slice A0 l0.length c0, .slice A1 l1.length c1] w fun e w' => e = .returned (.bool r) ∧ Below w.heap.size w w' := by
 have hu43 := Tryd.underlying43
 have HR0 := Aside0.mk hr0
 have HC0 := Aside0.mk hc0
 clear hr0 hc0
 have HR1 := Aside0.mk hr1
 have HC1 := Aside0.mk hc1
 clear hr1 hc1
 have HB := m_ (Below.refl w.heap.size w)
 have H : (if (l0.length : Int) > 1048576 then (laws_FnCmdBack.j0 k l0 l1 true) else (laws_FnCmdBack.j0 k l0 l1 (decide ((l1.length : Int) > 1048576)))) = some r := h
 clear h
 have HC3 := Aside0.mk H
 clear H
 go_enter Tryd.func9, Tryd.ntmps9
 go_upto_region 1 with (fail)
 go_cut [21] (fun v21 wc => ∃ (kq : Nat) (x21_2 : Bool), v21 = .bool x21_2 ∧ Aside0 (laws_FnCmdBack.j0 kq l0 l1 x21_2 = some r) ∧ Aside0 (kq ≤ k) ∧ Aside0 (Below w.heap.size w wc))
 case first =>
  have H := HC3.out
  clear HC3
  by_cases c4 : (l0.length : Int) > 1048576
  ·rw [if_pos c4] at H
   have c4b0 : decide (1048576 < (l0.length : Int)) = true := decide_eq_true c4
   have c4b1 : decide (1048576 < l0.length) = true := decide_eq_true (by omega)
   clear c4
   (first | rw [c4b0] | (simp only [i64_w, i32_w]; rw [c4b0]) | skip)
   have H' := Aside0.mk H
   clear H
   go_wp2
   go_meet
   case rel => exact ⟨_, (true), (by first | rfl | (simp; done) | (simp [*]; done)), H', ⟨by first | omega | exact Nat.le_refl _⟩, ⟨by repeat (first | (with_reducible first | exact HB.out | apply below_alloc | apply pw_below_drewN | apply below_drew1) | exact HB.out)⟩⟩
  ·rw [if_neg c4] at H
   have c4b0 : decide (1048576 < (l0.length : Int)) = false := decide_eq_false c4
   have c4b1 : decide (1048576 < l0.length) = false := decide_eq_false (by omega)
   clear c4
   (first | rw [c4b0] | (simp only [i64_w, i32_w]; rw [c4b0]) | skip)
   have H' := Aside0.mk H
   clear H
   go_wp2
   go_meet
   case rel => exact ⟨_, (decide ((l1.length : Int) > 1048576)), (by first | rfl | (simp; done) | (simp [*]; done)), H', ⟨by first | omega | exact Nat.le_refl _⟩, ⟨by repeat (first | (with_reducible first | exact HB.out | apply below_alloc | apply pw_below_drewN | apply below_drew1) | exact HB.out)⟩⟩
 case rest =>
  clear HC3
  try clear c1
  try clear p2
  try clear c4
  try clear c4b0
  try clear c4b1
  obtain ⟨kq, x21_2, rfl, HA, HJ2, HB⟩ := hcut
  cases kq with
  | zero => exact absurd HA.out (by simp [laws_FnCmdBack.j0])
  | succ kj2 =>
   have H := HA.out
   clear HA
   simp only [laws_FnCmdBack.j0] at H
   by_cases c5 : x21_2 = true
   ·subst c5
    have H1 : (some true) = some r := by rw [if_pos rfl] at H; exact H
    clear H
    have H := H1
    clear H1
    obtain rfl := Option.some.inj H
    go_wp2
    go_ret
    exact ⟨by first | rfl | (simp [errW_none, errW_some] <;> rfl) | (simp [*, errW_none, errW_some] <;> rfl), by repeat (first | (with_reducible first | exact HB.out | apply below_alloc | apply pw_below_drewN | apply below_drew1) | exact HB.out)⟩
   ·replace c5 := Bool.eq_false_iff.mpr c5
    subst c5
    have H1 : ((spec_DrawCmdPut.f kj2 l0).bind fun bt698 => ((impl_CmdPut.f kj2 bt698.1 bt698.2.1 bt698.2.2.1 bt698.2.2.2.1 bt698.2.2.2.2.1 bt698.2.2.2.2.2).bind fun t705 => ((spec_CmdPut.f kj2 bt698.1 bt698.2.1 bt698.2.2.1 bt698.2.2.2.1 bt698.2.2.2.2.1 bt698.2.2.2.2.2).bind fun t706 => (if t705.toList = t706.toList then (if t705.toList = ([] : List UInt8) then (laws_FnCmdBack.j1 kj2 l1) else ((impl_CmdGet.f kj2 t705).bind fun bt707 => (if (!(bt707.1 == bt698.1) || (!(bt707.2.1 == bt698.2.1) || (!(bt707.2.2.1 == bt698.2.2.1) || (!(bt707.2.2.2.1 == bt698.2.2.2.1) || (!(bt707.2.2.2.2.1 == bt698.2.2.2.2.1) || (!(bt707.2.2.2.2.2.1.toList == bt698.2.2.2.2.2.toList))))))) = true then (some false) else (if bt707.2.2.2.2.2.2 = 0 then (laws_FnCmdBack.j1 kj2 l1) else (some false))))) else (some false))))) = some r := by rw [if_neg (show ¬ (false = true) by decide)] at H; exact H
    clear H
    have H := H1
    clear H1
    replace H := Option.bind_eq_some_iff.mp H
    obtain ⟨⟨t698, t699, t700, t701, t702, t703⟩, A60, H⟩ := H
    replace H : ((impl_CmdPut.f kj2 t698 t699 t700 t701 t702 t703).bind fun t705 => ((spec_CmdPut.f kj2 t698 t699 t700 t701 t702 t703).bind fun t706 => (if t705.toList = t706.toList then (if t705.toList = ([] : List UInt8) then (laws_FnCmdBack.j1 kj2 l1) else ((impl_CmdGet.f kj2 t705).bind fun bt707 => (if (!(bt707.1 == t698) || (!(bt707.2.1 == t699) || (!(bt707.2.2.1 == t700) || (!(bt707.2.2.2.1 == t701) || (!(bt707.2.2.2.2.1 == t702) || (!(bt707.2.2.2.2.2.1.toList == t703.toList))))))) = true then (some false) else (if bt707.2.2.2.2.2.2 = 0 then (laws_FnCmdBack.j1 kj2 l1) else (some false))))) else (some false)))) = some r := H
    have A6 := Aside0.mk A60
    clear A60
    replace H := Option.bind_eq_some_iff.mp H
    obtain ⟨t705, A70, H⟩ := H
    replace H : ((spec_CmdPut.f kj2 t698 t699 t700 t701 t702 t703).bind fun t706 => (if t705.toList = t706.toList then (if t705.toList = ([] : List UInt8) then (laws_FnCmdBack.j1 kj2 l1) else ((impl_CmdGet.f kj2 t705).bind fun bt707 => (if (!(bt707.1 == t698) || (!(bt707.2.1 == t699) || (!(bt707.2.2.1 == t700) || (!(bt707.2.2.2.1 == t701) || (!(bt707.2.2.2.2.1 == t702) || (!(bt707.2.2.2.2.2.1.toList == t703.toList))))))) = true then (some false) else (if bt707.2.2.2.2.2.2 = 0 then (laws_FnCmdBack.j1 kj2 l1) else (some false))))) else (some false))) = some r := H
    have A7 := Aside0.mk A70
    clear A70
    replace H := Option.bind_eq_some_iff.mp H
    obtain ⟨t706, A80, H⟩ := H
    replace H : (if t705.toList = t706.toList then (if t705.toList = ([] : List UInt8) then (laws_FnCmdBack.j1 kj2 l1) else ((impl_CmdGet.f kj2 t705).bind fun bt707 => (if (!(bt707.1 == t698) || (!(bt707.2.1 == t699) || (!(bt707.2.2.1 == t700) || (!(bt707.2.2.2.1 == t701) || (!(bt707.2.2.2.2.1 == t702) || (!(bt707.2.2.2.2.2.1.toList == t703.toList))))))) = true then (some false) else (if bt707.2.2.2.2.2.2 = 0 then (laws_FnCmdBack.j1 kj2 l1) else (some false))))) else (some false)) = some r := H
    have A8 := Aside0.mk A80
    clear A80
    by_cases c9 : t705.toList = t706.toList
    ·rw [if_pos c9] at H
     have c9b0 : (t705.toList == t706.toList) = true := beq_iff_eq.mpr c9
     have c9b1 : (t705.toList != t706.toList) = false := bne_eq_false_iff_eq.mpr c9
     clear c9
     have HC10 := Aside0.mk H
     clear H
     go_upto_if 31 with (first | ((with_reducible refine gate_callee (f := 27) rfl ?_); refine goesL_ (some 23) rfl rfl Tryd.func27 (by kernel_rfl) rfl #[.slice A0 l0.length c0] rfl gl_ ?_; (with_reducible refine (spec_DrawCmdPut.calls kj2 _ _ l0 t698 t699 t700 t701 t702 t703 _ ?side1 ?side2 A6.out).mono ?_); (case side1 => exact cN (Kd.C_below HR0.out HB.out)); (case side2 => exact HC0.out); rintro e w11 ⟨rfl, hb⟩; refine ⟨_, rfl, ?_⟩; have n0_ := m_ (below_step (bN HB.out) hb); clear HB; have HB := n0_; clear n0_; (try clear hb); (try clear hb2); (try clear hk); (try clear hi)) | ((with_reducible refine gate_dst (N := 5) rfl ?_); (try (refine gate_guard (by rfl) ?_; dsimp only)); refine box_event ?hg (N := 5) ?hd (cs := #[.int .i64 0, .int .i64 0, .int .i64 0, .int .i64 0, .int .i64 0, .string (⟨#[]⟩ : ByteArray)]) (t := 43) ?hr ?_; (case hd => rfl); (case hg => rfl); (case hr => first | (go_simp; done) | (go_simp; rfl)); intro gb704 hg w12 hbox hb; have n0_ := m_ (below_step (bN HB.out) hb); have n1_ := m_ (hbox); have n2_ := m_ ((by rw [hg]; exact (below_size (bN HB.out)) : w.heap.size ≤ gb704)); have n3_ := m_ ((by rw [hg]; exact (below_size (bN HB.out)) : w.heap.size ≤ gb704)); clear HB; have HB := n0_; have BK704 := n1_; have GW704 := n2_; have GE704 := n3_; clear n0_ n1_ n2_ n3_; clear hb hbox hg; have hcz13_0 : w12.cell? ⟨gb704, 0, none⟩ = some (.int .i64 0) := (blk_cell BK704.out 0).trans rfl; have hcz13_1 : w12.cell? ⟨gb704, 1, none⟩ = some (.int .i64 0) := (blk_cell BK704.out 1).trans rfl; have hcz13_2 : w12.cell? ⟨gb704, 2, none⟩ = some (.int .i64 0) := (blk_cell BK704.out 2).trans rfl; have hcz13_3 : w12.cell? ⟨gb704, 3, none⟩ = some (.int .i64 0) := (blk_cell BK704.out 3).trans rfl; have hcz13_4 : w12.cell? ⟨gb704, 4, none⟩ = some (.int .i64 0) := (blk_cell BK704.out 4).trans rfl; have hcz13_5 : w12.cell? ⟨gb704, 5, none⟩ = some (.string (⟨#[]⟩ : ByteArray)) := (blk_cell BK704.out 5).trans rfl; have hfz13_0 := blk_frozen BK704.out 0; have hfz13_1 := blk_frozen BK704.out 1; have hfz13_2 := blk_frozen BK704.out 2; have hfz13_3 := blk_frozen BK704.out 3; have hfz13_4 := blk_frozen BK704.out 4; have hfz13_5 := blk_frozen BK704.out 5) | ((with_reducible refine gate_callee (f := 28) rfl ?_); refine goesL_ (some 25) rfl rfl Tryd.func28 (by kernel_rfl) rfl #[.agg #[.int .i64 t698, .int .i64 t699, .int .i64 t700, .int .i64 t701, .int .i64 t702, .string t703]] rfl gl_ ?_; (with_reducible refine (impl_CmdPut.calls kj2 t698 t699 t700 t701 t702 t703 t705 _ A7.out).mono ?_); rintro e w14 ⟨rfl, hb⟩; refine ⟨_, rfl, ?_⟩; have n0_ := m_ (blk_below (g := gb704) (o := .cells #[.int .i64 t698, .int .i64 t699, .int .i64 t700, .int .i64 t701, .int .i64 t702, .string t703] 43 (0, 0)) (kP BK704.out) hb); have n1_ := m_ (below_step (bN HB.out) hb); clear BK704; clear HB; have BK704 := n0_; have HB := n1_; clear n0_ n1_; (try clear hb); (try clear hb2); (try clear hk); (try clear hi); have hcz15_0 : w14.cell? ⟨gb704, 0, none⟩ = some (.int .i64 t698) := (blk_cell BK704.out 0).trans rfl; have hcz15_1 : w14.cell? ⟨gb704, 1, none⟩ = some (.int .i64 t699) := (blk_cell BK704.out 1).trans rfl; have hcz15_2 : w14.cell? ⟨gb704, 2, none⟩ = some (.int .i64 t700) := (blk_cell BK704.out 2).trans rfl; have hcz15_3 : w14.cell? ⟨gb704, 3, none⟩ = some (.int .i64 t701) := (blk_cell BK704.out 3).trans rfl; have hcz15_4 : w14.cell? ⟨gb704, 4, none⟩ = some (.int .i64 t702) := (blk_cell BK704.out 4).trans rfl; have hcz15_5 : w14.cell? ⟨gb704, 5, none⟩ = some (.string t703) := (blk_cell BK704.out 5).trans rfl; have hfz15_0 := blk_frozen BK704.out 0; have hfz15_1 := blk_frozen BK704.out 1; have hfz15_2 := blk_frozen BK704.out 2; have hfz15_3 := blk_frozen BK704.out 3; have hfz15_4 := blk_frozen BK704.out 4; have hfz15_5 := blk_frozen BK704.out 5) | ((with_reducible refine gate_callee (f := 29) rfl ?_); refine goesL_ (some 28) rfl rfl Tryd.func29 (by kernel_rfl) rfl #[.agg #[.int .i64 t698, .int .i64 t699, .int .i64 t700, .int .i64 t701, .int .i64 t702, .string t703]] rfl gl_ ?_; (with_reducible refine (spec_CmdPut.calls kj2 t698 t699 t700 t701 t702 t703 t706 _ A8.out).mono ?_); rintro e w16 ⟨rfl, hb⟩; refine ⟨_, rfl, ?_⟩; have n0_ := m_ (blk_below (kN BK704.out) hb); have n1_ := m_ (below_step (bN HB.out) hb); clear BK704; clear HB; have BK704 := n0_; have HB := n1_; clear n0_ n1_; (try clear hb); (try clear hb2); (try clear hk); (try clear hi)))
     (try simp only [Act.put, List.setIfInBounds_toArray, List.set_cons_zero, List.set_cons_succ])
     go_cut [] (fun wc => ∃ (kq : Nat), Aside0 (laws_FnCmdBack.j1 kq l1 = some r) ∧ Aside0 (kq ≤ kj2) ∧ Aside0 (wc.heap[gb704]? = some (.cells #[.int .i64 t698, .int .i64 t699, .int .i64 t700, .int .i64 t701, .int .i64 t702, .string t703] 43 (0, 0))) ∧ Aside0 (Below w.heap.size w wc))
     case first =>
      have H := HC10.out
      clear HC10
      by_cases c17 : t705.toList = ([] : List UInt8)
      ·rw [if_pos c17] at H
       have c17b0 : (t705.toList == ([] : List UInt8)) = true := beq_iff_eq.mpr c17
       try have c17b7 : t705.toList.isEmpty = true := (by rw [← c17b0]; cases t705.toList <;> rfl)
       have c17b1 : (t705.toList != ([] : List UInt8)) = false := bne_eq_false_iff_eq.mpr c17
       clear c17
       (first | rw [c17b0] | (simp only [i64_w, i32_w]; rw [c17b0]) | (rw [c17b7]; simp only [Bool.not_true, Bool.not_false]) | skip)
       have H' := Aside0.mk H
       clear H
       go_wp2
       go_meet
       case rel => exact ⟨_, H', ⟨by have := HJ2.out; first | omega | exact Nat.le_refl _⟩, ⟨kN BK704.out⟩, ⟨by repeat (first | (with_reducible first | exact HB.out | apply below_alloc | apply pw_below_drewN | apply below_drew1 | refine below_set ?_ GE704.out) | exact HB.out)⟩⟩
      ·rw [if_neg c17] at H
       have c17b0 : (t705.toList == ([] : List UInt8)) = false := beq_eq_false_iff_ne.mpr c17
       try have c17b7 : t705.toList.isEmpty = false := (by rw [← c17b0]; cases t705.toList <;> rfl)
       have c17b1 : (t705.toList != ([] : List UInt8)) = true := bne_iff_ne.mpr c17
       (first | rw [c17b0] | (simp only [i64_w, i32_w]; rw [c17b0]) | (rw [c17b7]; simp only [Bool.not_true, Bool.not_false]) | skip)
       replace H := Option.bind_eq_some_iff.mp H
       obtain ⟨⟨t707, t708, t709, t710, t711, t712, t713⟩, A180, H⟩ := H
       replace H : (if (!(t707 == t698) || (!(t708 == t699) || (!(t709 == t700) || (!(t710 == t701) || (!(t711 == t702) || (!(t712.toList == t703.toList))))))) = true then (some false) else (if t713 = 0 then (laws_FnCmdBack.j1 kj2 l1) else (some false))) = some r := H
       have A18 := Aside0.mk A180
       clear A180
       by_cases c19 : (!(t707 == t698) || (!(t708 == t699) || (!(t709 == t700) || (!(t710 == t701) || (!(t711 == t702) || (!(t712.toList == t703.toList))))))) = true
       ·rw [if_pos c19] at H
        have c19b0 : (!(t707 == t698) || (!(t708 == t699) || (!(t709 == t700) || (!(t710 == t701) || (!(t711 == t702) || (!(t712.toList == t703.toList))))))) = true := c19
        clear c19
        obtain rfl := Option.some.inj H
        go_wp2_with (first | ((with_reducible refine gate_callee (f := 23) rfl ?_); refine goesL_ (some 34) rfl rfl Tryd.func23 (by kernel_rfl) rfl #[.string t705] rfl gl_ ?_; (with_reducible refine (impl_CmdGet.calls kj2 t705 t707 t708 t709 t710 t711 t712 t713 _ A18.out).mono ?_); rintro e w20 ⟨rfl, hb⟩; refine ⟨_, rfl, ?_⟩; have n0_ := m_ (blk_below (kN BK704.out) hb); have n1_ := m_ (below_step (bN HB.out) hb); clear BK704; clear HB; have BK704 := n0_; have HB := n1_; clear n0_ n1_; (try clear hb); (try clear hb2); (try clear hk); (try clear hi)) | ((with_reducible refine gate_dst (N := 7) rfl ?_); (try (refine gate_guard (by rfl) ?_; dsimp only)); refine box_event ?hg (N := 7) ?hd (cs := #[.int .i64 0, .int .i64 0, .int .i64 0, .int .i64 0, .int .i64 0, .string (⟨#[]⟩ : ByteArray)]) (t := 43) ?hr ?_; (case hd => rfl); (case hg => rfl); (case hr => first | (go_simp; done) | (go_simp; rfl)); intro gb714 hg w21 hbox hb; have n0_ := m_ (blk_below (kN BK704.out) hb); have n1_ := m_ (below_step (bN HB.out) hb); have n2_ := m_ (hbox); have n3_ := m_ ((by rw [hg]; exact (below_size (bN HB.out)) : w.heap.size ≤ gb714)); have n4_ := m_ ((by rw [hg]; exact (below_size (bN HB.out)) : w.heap.size ≤ gb714)); have n5_ := m_ ((by rw [hg]; exact Nat.ne_of_lt (blk_lt (g := gb704) (o := .cells #[.int .i64 t698, .int .i64 t699, .int .i64 t700, .int .i64 t701, .int .i64 t702, .string t703] 43 (0, 0)) (kN BK704.out)) : gb704 ≠ gb714)); have n6_ := m_ ((by rw [hg]; exact Nat.ne_of_gt (blk_lt (g := gb704) (o := .cells #[.int .i64 t698, .int .i64 t699, .int .i64 t700, .int .i64 t701, .int .i64 t702, .string t703] 43 (0, 0)) (kN BK704.out)) : gb714 ≠ gb704)); clear BK704; clear HB; have BK704 := n0_; have HB := n1_; have BK714 := n2_; have GW714 := n3_; have GE714 := n4_; have NB704_714 := n5_; have NB714_704 := n6_; clear n0_ n1_ n2_ n3_ n4_ n5_ n6_; clear hb hbox hg; have hnb22 := NB714_704.out; have hnc22 := NB704_714.out; have hcz23_0 : w21.cell? ⟨gb714, 0, none⟩ = some (.int .i64 0) := (blk_cell BK714.out 0).trans rfl; have hcz23_1 : w21.cell? ⟨gb714, 1, none⟩ = some (.int .i64 0) := (blk_cell BK714.out 1).trans rfl; have hcz23_2 : w21.cell? ⟨gb714, 2, none⟩ = some (.int .i64 0) := (blk_cell BK714.out 2).trans rfl; have hcz23_3 : w21.cell? ⟨gb714, 3, none⟩ = some (.int .i64 0) := (blk_cell BK714.out 3).trans rfl; have hcz23_4 : w21.cell? ⟨gb714, 4, none⟩ = some (.int .i64 0) := (blk_cell BK714.out 4).trans rfl; have hcz23_5 : w21.cell? ⟨gb714, 5, none⟩ = some (.string (⟨#[]⟩ : ByteArray)) := (blk_cell BK714.out 5).trans rfl; have hfz23_0 := blk_frozen BK714.out 0; have hfz23_1 := blk_frozen BK714.out 1; have hfz23_2 := blk_frozen BK714.out 2; have hfz23_3 := blk_frozen BK714.out 3; have hfz23_4 := blk_frozen BK714.out 4; have hfz23_5 := blk_frozen BK714.out 5; have hcz24_0 : w21.cell? ⟨gb704, 0, none⟩ = some (.int .i64 t698) := (blk_cell BK704.out 0).trans rfl; have hcz24_1 : w21.cell? ⟨gb704, 1, none⟩ = some (.int .i64 t699) := (blk_cell BK704.out 1).trans rfl; have hcz24_2 : w21.cell? ⟨gb704, 2, none⟩ = some (.int .i64 t700) := (blk_cell BK704.out 2).trans rfl; have hcz24_3 : w21.cell? ⟨gb704, 3, none⟩ = some (.int .i64 t701) := (blk_cell BK704.out 3).trans rfl; have hcz24_4 : w21.cell? ⟨gb704, 4, none⟩ = some (.int .i64 t702) := (blk_cell BK704.out 4).trans rfl; have hcz24_5 : w21.cell? ⟨gb704, 5, none⟩ = some (.string t703) := (blk_cell BK704.out 5).trans rfl; have hfz24_0 := blk_frozen BK704.out 0; have hfz24_1 := blk_frozen BK704.out 1; have hfz24_2 := blk_frozen BK704.out 2; have hfz24_3 := blk_frozen BK704.out 3; have hfz24_4 := blk_frozen BK704.out 4; have hfz24_5 := blk_frozen BK704.out 5))
        go_ret
        exact ⟨by first | rfl | (simp [errW_none, errW_some] <;> rfl) | (simp [*, errW_none, errW_some] <;> rfl), by repeat (first | (with_reducible first | exact HB.out | apply below_alloc | apply pw_below_drewN | apply below_drew1 | refine below_set ?_ GE704.out | refine below_set ?_ GE714.out) | exact HB.out)⟩
       ·rw [if_neg c19] at H
        have c19b0 : (!(t707 == t698) || (!(t708 == t699) || (!(t709 == t700) || (!(t710 == t701) || (!(t711 == t702) || (!(t712.toList == t703.toList))))))) = false := by simpa using c19
        clear c19
        by_cases c25 : t713 = 0
        ·rw [if_pos c25] at H
         have c25b0 : (t713 == 0) = true := beq_iff_eq.mpr c25
         have c25b1 : (t713 != 0) = false := bne_eq_false_iff_eq.mpr c25
         clear c25
         have H' := Aside0.mk H
         clear H
         go_wp2_with (first | ((with_reducible refine gate_callee (f := 23) rfl ?_); refine goesL_ (some 34) rfl rfl Tryd.func23 (by kernel_rfl) rfl #[.string t705] rfl gl_ ?_; (with_reducible refine (impl_CmdGet.calls kj2 t705 t707 t708 t709 t710 t711 t712 t713 _ A18.out).mono ?_); rintro e w26 ⟨rfl, hb⟩; refine ⟨_, rfl, ?_⟩; have n0_ := m_ (blk_below (kN BK704.out) hb); have n1_ := m_ (below_step (bN HB.out) hb); clear BK704; clear HB; have BK704 := n0_; have HB := n1_; clear n0_ n1_; (try clear hb); (try clear hb2); (try clear hk); (try clear hi)) | ((with_reducible refine gate_dst (N := 7) rfl ?_); (try (refine gate_guard (by rfl) ?_; dsimp only)); refine box_event ?hg (N := 7) ?hd (cs := #[.int .i64 0, .int .i64 0, .int .i64 0, .int .i64 0, .int .i64 0, .string (⟨#[]⟩ : ByteArray)]) (t := 43) ?hr ?_; (case hd => rfl); (case hg => rfl); (case hr => first | (go_simp; done) | (go_simp; rfl)); intro gb714 hg w27 hbox hb; have n0_ := m_ (blk_below (kN BK704.out) hb); have n1_ := m_ (below_step (bN HB.out) hb); have n2_ := m_ (hbox); have n3_ := m_ ((by rw [hg]; exact (below_size (bN HB.out)) : w.heap.size ≤ gb714)); have n4_ := m_ ((by rw [hg]; exact (below_size (bN HB.out)) : w.heap.size ≤ gb714)); have n5_ := m_ ((by rw [hg]; exact Nat.ne_of_lt (blk_lt (g := gb704) (o := .cells #[.int .i64 t698, .int .i64 t699, .int .i64 t700, .int .i64 t701, .int .i64 t702, .string t703] 43 (0, 0)) (kN BK704.out)) : gb704 ≠ gb714)); have n6_ := m_ ((by rw [hg]; exact Nat.ne_of_gt (blk_lt (g := gb704) (o := .cells #[.int .i64 t698, .int .i64 t699, .int .i64 t700, .int .i64 t701, .int .i64 t702, .string t703] 43 (0, 0)) (kN BK704.out)) : gb714 ≠ gb704)); clear BK704; clear HB; have BK704 := n0_; have HB := n1_; have BK714 := n2_; have GW714 := n3_; have GE714 := n4_; have NB704_714 := n5_; have NB714_704 := n6_; clear n0_ n1_ n2_ n3_ n4_ n5_ n6_; clear hb hbox hg; have hnb28 := NB714_704.out; have hnc28 := NB704_714.out; have hcz29_0 : w27.cell? ⟨gb714, 0, none⟩ = some (.int .i64 0) := (blk_cell BK714.out 0).trans rfl; have hcz29_1 : w27.cell? ⟨gb714, 1, none⟩ = some (.int .i64 0) := (blk_cell BK714.out 1).trans rfl; have hcz29_2 : w27.cell? ⟨gb714, 2, none⟩ = some (.int .i64 0) := (blk_cell BK714.out 2).trans rfl; have hcz29_3 : w27.cell? ⟨gb714, 3, none⟩ = some (.int .i64 0) := (blk_cell BK714.out 3).trans rfl; have hcz29_4 : w27.cell? ⟨gb714, 4, none⟩ = some (.int .i64 0) := (blk_cell BK714.out 4).trans rfl; have hcz29_5 : w27.cell? ⟨gb714, 5, none⟩ = some (.string (⟨#[]⟩ : ByteArray)) := (blk_cell BK714.out 5).trans rfl; have hfz29_0 := blk_frozen BK714.out 0; have hfz29_1 := blk_frozen BK714.out 1; have hfz29_2 := blk_frozen BK714.out 2; have hfz29_3 := blk_frozen BK714.out 3; have hfz29_4 := blk_frozen BK714.out 4; have hfz29_5 := blk_frozen BK714.out 5; have hcz30_0 : w27.cell? ⟨gb704, 0, none⟩ = some (.int .i64 t698) := (blk_cell BK704.out 0).trans rfl; have hcz30_1 : w27.cell? ⟨gb704, 1, none⟩ = some (.int .i64 t699) := (blk_cell BK704.out 1).trans rfl; have hcz30_2 : w27.cell? ⟨gb704, 2, none⟩ = some (.int .i64 t700) := (blk_cell BK704.out 2).trans rfl; have hcz30_3 : w27.cell? ⟨gb704, 3, none⟩ = some (.int .i64 t701) := (blk_cell BK704.out 3).trans rfl; have hcz30_4 : w27.cell? ⟨gb704, 4, none⟩ = some (.int .i64 t702) := (blk_cell BK704.out 4).trans rfl; have hcz30_5 : w27.cell? ⟨gb704, 5, none⟩ = some (.string t703) := (blk_cell BK704.out 5).trans rfl; have hfz30_0 := blk_frozen BK704.out 0; have hfz30_1 := blk_frozen BK704.out 1; have hfz30_2 := blk_frozen BK704.out 2; have hfz30_3 := blk_frozen BK704.out 3; have hfz30_4 := blk_frozen BK704.out 4; have hfz30_5 := blk_frozen BK704.out 5))
         go_meet
         case rel => exact ⟨_, H', ⟨by have := HJ2.out; first | omega | exact Nat.le_refl _⟩, ⟨kF BK704.out NB704_714.out⟩, ⟨by repeat (first | (with_reducible first | exact HB.out | apply below_alloc | apply pw_below_drewN | apply below_drew1 | refine below_set ?_ GE704.out | refine below_set ?_ GE714.out) | exact HB.out)⟩⟩
        ·rw [if_neg c25] at H
         have c25b0 : (t713 == 0) = false := beq_eq_false_iff_ne.mpr c25
         have c25b1 : (t713 != 0) = true := bne_iff_ne.mpr c25
         obtain rfl := Option.some.inj H
         go_wp2_with (first | ((with_reducible refine gate_callee (f := 23) rfl ?_); refine goesL_ (some 34) rfl rfl Tryd.func23 (by kernel_rfl) rfl #[.string t705] rfl gl_ ?_; (with_reducible refine (impl_CmdGet.calls kj2 t705 t707 t708 t709 t710 t711 t712 t713 _ A18.out).mono ?_); rintro e w31 ⟨rfl, hb⟩; refine ⟨_, rfl, ?_⟩; have n0_ := m_ (blk_below (kN BK704.out) hb); have n1_ := m_ (below_step (bN HB.out) hb); clear BK704; clear HB; have BK704 := n0_; have HB := n1_; clear n0_ n1_; (try clear hb); (try clear hb2); (try clear hk); (try clear hi)) | ((with_reducible refine gate_dst (N := 7) rfl ?_); (try (refine gate_guard (by rfl) ?_; dsimp only)); refine box_event ?hg (N := 7) ?hd (cs := #[.int .i64 0, .int .i64 0, .int .i64 0, .int .i64 0, .int .i64 0, .string (⟨#[]⟩ : ByteArray)]) (t := 43) ?hr ?_; (case hd => rfl); (case hg => rfl); (case hr => first | (go_simp; done) | (go_simp; rfl)); intro gb714 hg w32 hbox hb; have n0_ := m_ (blk_below (kN BK704.out) hb); have n1_ := m_ (below_step (bN HB.out) hb); have n2_ := m_ (hbox); have n3_ := m_ ((by rw [hg]; exact (below_size (bN HB.out)) : w.heap.size ≤ gb714)); have n4_ := m_ ((by rw [hg]; exact (below_size (bN HB.out)) : w.heap.size ≤ gb714)); have n5_ := m_ ((by rw [hg]; exact Nat.ne_of_lt (blk_lt (g := gb704) (o := .cells #[.int .i64 t698, .int .i64 t699, .int .i64 t700, .int .i64 t701, .int .i64 t702, .string t703] 43 (0, 0)) (kN BK704.out)) : gb704 ≠ gb714)); have n6_ := m_ ((by rw [hg]; exact Nat.ne_of_gt (blk_lt (g := gb704) (o := .cells #[.int .i64 t698, .int .i64 t699, .int .i64 t700, .int .i64 t701, .int .i64 t702, .string t703] 43 (0, 0)) (kN BK704.out)) : gb714 ≠ gb704)); clear BK704; clear HB; have BK704 := n0_; have HB := n1_; have BK714 := n2_; have GW714 := n3_; have GE714 := n4_; have NB704_714 := n5_; have NB714_704 := n6_; clear n0_ n1_ n2_ n3_ n4_ n5_ n6_; clear hb hbox hg; have hnb33 := NB714_704.out; have hnc33 := NB704_714.out; have hcz34_0 : w32.cell? ⟨gb714, 0, none⟩ = some (.int .i64 0) := (blk_cell BK714.out 0).trans rfl; have hcz34_1 : w32.cell? ⟨gb714, 1, none⟩ = some (.int .i64 0) := (blk_cell BK714.out 1).trans rfl; have hcz34_2 : w32.cell? ⟨gb714, 2, none⟩ = some (.int .i64 0) := (blk_cell BK714.out 2).trans rfl; have hcz34_3 : w32.cell? ⟨gb714, 3, none⟩ = some (.int .i64 0) := (blk_cell BK714.out 3).trans rfl; have hcz34_4 : w32.cell? ⟨gb714, 4, none⟩ = some (.int .i64 0) := (blk_cell BK714.out 4).trans rfl; have hcz34_5 : w32.cell? ⟨gb714, 5, none⟩ = some (.string (⟨#[]⟩ : ByteArray)) := (blk_cell BK714.out 5).trans rfl; have hfz34_0 := blk_frozen BK714.out 0; have hfz34_1 := blk_frozen BK714.out 1; have hfz34_2 := blk_frozen BK714.out 2; have hfz34_3 := blk_frozen BK714.out 3; have hfz34_4 := blk_frozen BK714.out 4; have hfz34_5 := blk_frozen BK714.out 5; have hcz35_0 : w32.cell? ⟨gb704, 0, none⟩ = some (.int .i64 t698) := (blk_cell BK704.out 0).trans rfl; have hcz35_1 : w32.cell? ⟨gb704, 1, none⟩ = some (.int .i64 t699) := (blk_cell BK704.out 1).trans rfl; have hcz35_2 : w32.cell? ⟨gb704, 2, none⟩ = some (.int .i64 t700) := (blk_cell BK704.out 2).trans rfl; have hcz35_3 : w32.cell? ⟨gb704, 3, none⟩ = some (.int .i64 t701) := (blk_cell BK704.out 3).trans rfl; have hcz35_4 : w32.cell? ⟨gb704, 4, none⟩ = some (.int .i64 t702) := (blk_cell BK704.out 4).trans rfl; have hcz35_5 : w32.cell? ⟨gb704, 5, none⟩ = some (.string t703) := (blk_cell BK704.out 5).trans rfl; have hfz35_0 := blk_frozen BK704.out 0; have hfz35_1 := blk_frozen BK704.out 1; have hfz35_2 := blk_frozen BK704.out 2; have hfz35_3 := blk_frozen BK704.out 3; have hfz35_4 := blk_frozen BK704.out 4; have hfz35_5 := blk_frozen BK704.out 5))
         go_ret
         exact ⟨by first | rfl | (simp [errW_none, errW_some] <;> rfl) | (simp [*, errW_none, errW_some] <;> rfl), by repeat (first | (with_reducible first | exact HB.out | apply below_alloc | apply pw_below_drewN | apply below_drew1 | refine below_set ?_ GE704.out | refine below_set ?_ GE714.out) | exact HB.out)⟩
     case rest =>
      clear HC10
      try clear c1
      try clear c2
      try clear p2
      try clear c3
      try clear c4
      try clear c4b0
      try clear c4b1
      try clear c5
      try clear c9
      try clear c9b0
      try clear c9b1
      try clear c17
      try clear c17b0
      try clear c17b1
      try clear c19
      try clear c19b0
      try clear c22
      try clear c23
      try clear c25
      try clear c25b0
      try clear c25b1
      try clear c27
      try clear c28
      try clear c29
      try clear c33
      try clear hcz13_0
      try clear hcz13_1
      try clear hcz13_2
      try clear hcz13_3
      try clear hcz13_4
      try clear hcz13_5
      try clear hcz15_0
      try clear hcz15_1
      try clear hcz15_2
      try clear hcz15_3
      try clear hcz15_4
      try clear hcz15_5
      try clear hcz23_0
      try clear hcz23_1
      try clear hcz23_2
      try clear hcz23_3
      try clear hcz23_4
      try clear hcz23_5
      try clear hcz24_0
      try clear hcz24_1
      try clear hcz24_2
      try clear hcz24_3
      try clear hcz24_4
      try clear hcz24_5
      try clear hcz29_0
      try clear hcz29_1
      try clear hcz29_2
      try clear hcz29_3
      try clear hcz29_4
      try clear hcz29_5
      try clear hcz30_0
      try clear hcz30_1
      try clear hcz30_2
      try clear hcz30_3
      try clear hcz30_4
      try clear hcz30_5
      try clear hcz34_0
      try clear hcz34_1
      try clear hcz34_2
      try clear hcz34_3
      try clear hcz34_4
      try clear hcz34_5
      try clear hcz35_0
      try clear hcz35_1
      try clear hcz35_2
      try clear hcz35_3
      try clear hcz35_4
      try clear hcz35_5
      try clear hfz13_0
      try clear hfz13_1
      try clear hfz13_2
      try clear hfz13_3
      try clear hfz13_4
      try clear hfz13_5
      try clear hfz15_0
      try clear hfz15_1
      try clear hfz15_2
      try clear hfz15_3
      try clear hfz15_4
      try clear hfz15_5
      try clear hfz23_0
      try clear hfz23_1
      try clear hfz23_2
      try clear hfz23_3
      try clear hfz23_4
      try clear hfz23_5
      try clear hfz24_0
      try clear hfz24_1
      try clear hfz24_2
      try clear hfz24_3
      try clear hfz24_4
      try clear hfz24_5
      try clear hfz29_0
      try clear hfz29_1
      try clear hfz29_2
      try clear hfz29_3
      try clear hfz29_4
      try clear hfz29_5
      try clear hfz30_0
      try clear hfz30_1
      try clear hfz30_2
      try clear hfz30_3
      try clear hfz30_4
      try clear hfz30_5
      try clear hfz34_0
      try clear hfz34_1
      try clear hfz34_2
      try clear hfz34_3
      try clear hfz34_4
      try clear hfz34_5
      try clear hfz35_0
      try clear hfz35_1
      try clear hfz35_2
      try clear hfz35_3
      try clear hfz35_4
      try clear hfz35_5
      try clear p2
      obtain ⟨kq, HA, HJ9, BK704, HB⟩ := hcut
      cases kq with
      | zero => exact absurd HA.out (by simp [laws_FnCmdBack.j1])
      | succ kj9 =>
       have H := HA.out
       clear HA
       simp only [laws_FnCmdBack.j1] at H
       replace H := Option.bind_eq_some_iff.mp H
       obtain ⟨t715, A360, H⟩ := H
       replace H : ((impl_CmdGet.f kj9 t715).bind fun bt716 => ((spec_CmdGet.f kj9 t715).bind fun bt724 => (if (bt716.1 == bt724.1 && (bt716.2.1 == bt724.2.1 && (bt716.2.2.1 == bt724.2.2.1 && (bt716.2.2.2.1 == bt724.2.2.2.1 && (bt716.2.2.2.2.1 == bt724.2.2.2.2.1 && (bt716.2.2.2.2.2.1.toList == bt724.2.2.2.2.2.1.toList)))))) = true then (if bt716.2.2.2.2.2.2 = bt724.2.2.2.2.2.2 then (if bt716.2.2.2.2.2.2 = 0 then ((impl_CmdPut.f kj9 bt716.1 bt716.2.1 bt716.2.2.1 bt716.2.2.2.1 bt716.2.2.2.2.1 bt716.2.2.2.2.2.1).bind fun t732 => (some (t732.toList == t715.toList))) else (some true)) else (some false)) else (some false)))) = some r := H
       have A36 := Aside0.mk A360
       clear A360
       replace H := Option.bind_eq_some_iff.mp H
       obtain ⟨⟨t716, t717, t718, t719, t720, t721, t722⟩, A370, H⟩ := H
       replace H : ((spec_CmdGet.f kj9 t715).bind fun bt724 => (if (t716 == bt724.1 && (t717 == bt724.2.1 && (t718 == bt724.2.2.1 && (t719 == bt724.2.2.2.1 && (t720 == bt724.2.2.2.2.1 && (t721.toList == bt724.2.2.2.2.2.1.toList)))))) = true then (if t722 = bt724.2.2.2.2.2.2 then (if t722 = 0 then ((impl_CmdPut.f kj9 t716 t717 t718 t719 t720 t721).bind fun t732 => (some (t732.toList == t715.toList))) else (some true)) else (some false)) else (some false))) = some r := H
       have A37 := Aside0.mk A370
       clear A370
       replace H := Option.bind_eq_some_iff.mp H
       obtain ⟨⟨t724, t725, t726, t727, t728, t729, t730⟩, A380, H⟩ := H
       replace H : (if (t716 == t724 && (t717 == t725 && (t718 == t726 && (t719 == t727 && (t720 == t728 && (t721.toList == t729.toList)))))) = true then (if t722 = t730 then (if t722 = 0 then ((impl_CmdPut.f kj9 t716 t717 t718 t719 t720 t721).bind fun t732 => (some (t732.toList == t715.toList))) else (some true)) else (some false)) else (some false)) = some r := H
       have A38 := Aside0.mk A380
       clear A380
       by_cases c39 : (t716 == t724 && (t717 == t725 && (t718 == t726 && (t719 == t727 && (t720 == t728 && (t721.toList == t729.toList)))))) = true
       ·rw [if_pos c39] at H
        have c39b0 : (t716 == t724 && (t717 == t725 && (t718 == t726 && (t719 == t727 && (t720 == t728 && (t721.toList == t729.toList)))))) = true := c39
        (try (have c39b1 : decide (t716 = t724 && (t717 == t725 && (t718 == t726 && (t719 == t727 && (t720 == t728 && (t721.toList == t729.toList)))))) = true := by simpa using c39))
        (try (have c39b2 : (t716 == t724 && (t717 == t725 && (t718 == t726 && (t719 == t727 && (t720 == t728 && (t721.toList == t729.toList)))))) = true := by simpa using c39))
        clear c39
        by_cases c40 : t722 = t730
        ·rw [if_pos c40] at H
         have c40b0 : (t722 == t730) = true := beq_iff_eq.mpr c40
         have c40b1 : (t722 != t730) = false := bne_eq_false_iff_eq.mpr c40
         clear c40
         by_cases c41 : t722 = 0
         ·rw [if_pos c41] at H
          have c41b0 : (t722 == 0) = true := beq_iff_eq.mpr c41
          have c41b1 : (t722 != 0) = false := bne_eq_false_iff_eq.mpr c41
          clear c41
          replace H := Option.bind_eq_some_iff.mp H
          obtain ⟨t732, A420, H⟩ := H
          replace H : (some (t732.toList == t715.toList)) = some r := H
          have A42 := Aside0.mk A420
          clear A420
          obtain rfl := Option.some.inj H
          go_wp2_with (first | ((with_reducible refine gate_callee (f := 30) rfl ?_); refine goesL_ (some 45) rfl rfl Tryd.func30 (by kernel_rfl) rfl #[.slice A1 l1.length c1] rfl gl_ ?_; (with_reducible refine (spec_DrawCmdGet.calls kj9 _ _ l1 t715 _ ?side1 ?side2 A36.out).mono ?_); (case side1 => exact cN (Kd.C_below HR1.out HB.out)); (case side2 => exact HC1.out); rintro e w43 ⟨rfl, hb⟩; refine ⟨_, rfl, ?_⟩; have n0_ := m_ (blk_below (kN BK704.out) hb); have n1_ := m_ (below_step (bN HB.out) hb); clear BK704; clear HB; have BK704 := n0_; have HB := n1_; clear n0_ n1_; (try clear hb); (try clear hb2); (try clear hk); (try clear hi)) | ((with_reducible refine gate_callee (f := 23) rfl ?_); refine goesL_ (some 48) rfl rfl Tryd.func23 (by kernel_rfl) rfl #[.string t715] rfl gl_ ?_; (with_reducible refine (impl_CmdGet.calls kj9 t715 t716 t717 t718 t719 t720 t721 t722 _ A37.out).mono ?_); rintro e w44 ⟨rfl, hb⟩; refine ⟨_, rfl, ?_⟩; have n0_ := m_ (blk_below (kN BK704.out) hb); have n1_ := m_ (below_step (bN HB.out) hb); clear BK704; clear HB; have BK704 := n0_; have HB := n1_; clear n0_ n1_; (try clear hb); (try clear hb2); (try clear hk); (try clear hi)) | ((with_reducible refine gate_dst (N := 10) rfl ?_); (try (refine gate_guard (by rfl) ?_; dsimp only)); refine box_event ?hg (N := 10) ?hd (cs := #[.int .i64 0, .int .i64 0, .int .i64 0, .int .i64 0, .int .i64 0, .string (⟨#[]⟩ : ByteArray)]) (t := 43) ?hr ?_; (case hd => rfl); (case hg => rfl); (case hr => first | (go_simp; done) | (go_simp; rfl)); intro gb723 hg w45 hbox hb; have n0_ := m_ (blk_below (kN BK704.out) hb); have n1_ := m_ (below_step (bN HB.out) hb); have n2_ := m_ (hbox); have n3_ := m_ ((by rw [hg]; exact (below_size (bN HB.out)) : w.heap.size ≤ gb723)); have n4_ := m_ ((by rw [hg]; exact (below_size (bN HB.out)) : w.heap.size ≤ gb723)); have n5_ := m_ ((by rw [hg]; exact Nat.ne_of_lt (blk_lt (g := gb704) (o := .cells #[.int .i64 t698, .int .i64 t699, .int .i64 t700, .int .i64 t701, .int .i64 t702, .string t703] 43 (0, 0)) (kN BK704.out)) : gb704 ≠ gb723)); have n6_ := m_ ((by rw [hg]; exact Nat.ne_of_gt (blk_lt (g := gb704) (o := .cells #[.int .i64 t698, .int .i64 t699, .int .i64 t700, .int .i64 t701, .int .i64 t702, .string t703] 43 (0, 0)) (kN BK704.out)) : gb723 ≠ gb704)); clear BK704; clear HB; have BK704 := n0_; have HB := n1_; have BK723 := n2_; have GW723 := n3_; have GE723 := n4_; have NB704_723 := n5_; have NB723_704 := n6_; clear n0_ n1_ n2_ n3_ n4_ n5_ n6_; clear hb hbox hg; have hnb46 := NB723_704.out; have hnc46 := NB704_723.out; have hcz47_0 : w45.cell? ⟨gb723, 0, none⟩ = some (.int .i64 0) := (blk_cell BK723.out 0).trans rfl; have hcz47_1 : w45.cell? ⟨gb723, 1, none⟩ = some (.int .i64 0) := (blk_cell BK723.out 1).trans rfl; have hcz47_2 : w45.cell? ⟨gb723, 2, none⟩ = some (.int .i64 0) := (blk_cell BK723.out 2).trans rfl; have hcz47_3 : w45.cell? ⟨gb723, 3, none⟩ = some (.int .i64 0) := (blk_cell BK723.out 3).trans rfl; have hcz47_4 : w45.cell? ⟨gb723, 4, none⟩ = some (.int .i64 0) := (blk_cell BK723.out 4).trans rfl; have hcz47_5 : w45.cell? ⟨gb723, 5, none⟩ = some (.string (⟨#[]⟩ : ByteArray)) := (blk_cell BK723.out 5).trans rfl; have hfz47_0 := blk_frozen BK723.out 0; have hfz47_1 := blk_frozen BK723.out 1; have hfz47_2 := blk_frozen BK723.out 2; have hfz47_3 := blk_frozen BK723.out 3; have hfz47_4 := blk_frozen BK723.out 4; have hfz47_5 := blk_frozen BK723.out 5) | ((with_reducible refine gate_callee (f := 25) rfl ?_); refine goesL_ (some 53) rfl rfl Tryd.func25 (by kernel_rfl) rfl #[.string t715] rfl gl_ ?_; (with_reducible refine (spec_CmdGet.calls kj9 t715 t724 t725 t726 t727 t728 t729 t730 _ A38.out).mono ?_); rintro e w48 ⟨rfl, hb⟩; refine ⟨_, rfl, ?_⟩; have n0_ := m_ (blk_below (g := gb704) (o := .cells #[.int .i64 t698, .int .i64 t699, .int .i64 t700, .int .i64 t701, .int .i64 t702, .string t703] 43 (0, 0)) (kF BK704.out NB704_723.out) hb); have n1_ := m_ (blk_below (g := gb723) (o := .cells #[.int .i64 t716, .int .i64 t717, .int .i64 t718, .int .i64 t719, .int .i64 t720, .string t721] 43 (0, 0)) (kP BK723.out) hb); have n2_ := m_ (below_step (bN HB.out) hb); clear BK704; clear BK723; clear HB; have BK704 := n0_; have BK723 := n1_; have HB := n2_; clear n0_ n1_ n2_; (try clear hb); (try clear hb2); (try clear hk); (try clear hi)) | ((with_reducible refine gate_dst (N := 12) rfl ?_); (try (refine gate_guard (by rfl) ?_; dsimp only)); refine box_event ?hg (N := 12) ?hd (cs := #[.int .i64 0, .int .i64 0, .int .i64 0, .int .i64 0, .int .i64 0, .string (⟨#[]⟩ : ByteArray)]) (t := 43) ?hr ?_; (case hd => rfl); (case hg => rfl); (case hr => first | (go_simp; done) | (go_simp; rfl)); intro gb731 hg w49 hbox hb; have n0_ := m_ (blk_below (kN BK704.out) hb); have n1_ := m_ (blk_below (kN BK723.out) hb); have n2_ := m_ (below_step (bN HB.out) hb); have n3_ := m_ (hbox); have n4_ := m_ ((by rw [hg]; exact (below_size (bN HB.out)) : w.heap.size ≤ gb731)); have n5_ := m_ ((by rw [hg]; exact (below_size (bN HB.out)) : w.heap.size ≤ gb731)); have n6_ := m_ ((by rw [hg]; exact Nat.ne_of_lt (blk_lt (g := gb704) (o := .cells #[.int .i64 t698, .int .i64 t699, .int .i64 t700, .int .i64 t701, .int .i64 t702, .string t703] 43 (0, 0)) (kN BK704.out)) : gb704 ≠ gb731)); have n7_ := m_ ((by rw [hg]; exact Nat.ne_of_gt (blk_lt (g := gb704) (o := .cells #[.int .i64 t698, .int .i64 t699, .int .i64 t700, .int .i64 t701, .int .i64 t702, .string t703] 43 (0, 0)) (kN BK704.out)) : gb731 ≠ gb704)); have n8_ := m_ ((by rw [hg]; exact Nat.ne_of_lt (blk_lt (g := gb723) (o := .cells #[.int .i64 t716, .int .i64 t717, .int .i64 t718, .int .i64 t719, .int .i64 t720, .string t721] 43 (0, 0)) (kN BK723.out)) : gb723 ≠ gb731)); have n9_ := m_ ((by rw [hg]; exact Nat.ne_of_gt (blk_lt (g := gb723) (o := .cells #[.int .i64 t716, .int .i64 t717, .int .i64 t718, .int .i64 t719, .int .i64 t720, .string t721] 43 (0, 0)) (kN BK723.out)) : gb731 ≠ gb723)); clear BK704; clear BK723; clear HB; have BK704 := n0_; have BK723 := n1_; have HB := n2_; have BK731 := n3_; have GW731 := n4_; have GE731 := n5_; have NB704_731 := n6_; have NB731_704 := n7_; have NB723_731 := n8_; have NB731_723 := n9_; clear n0_ n1_ n2_ n3_ n4_ n5_ n6_ n7_ n8_ n9_; clear hb hbox hg; have hnb50 := NB731_704.out; have hnc50 := NB704_731.out; have hnb51 := NB731_723.out; have hnc51 := NB723_731.out; have hcz52_0 : w49.cell? ⟨gb731, 0, none⟩ = some (.int .i64 0) := (blk_cell BK731.out 0).trans rfl; have hcz52_1 : w49.cell? ⟨gb731, 1, none⟩ = some (.int .i64 0) := (blk_cell BK731.out 1).trans rfl; have hcz52_2 : w49.cell? ⟨gb731, 2, none⟩ = some (.int .i64 0) := (blk_cell BK731.out 2).trans rfl; have hcz52_3 : w49.cell? ⟨gb731, 3, none⟩ = some (.int .i64 0) := (blk_cell BK731.out 3).trans rfl; have hcz52_4 : w49.cell? ⟨gb731, 4, none⟩ = some (.int .i64 0) := (blk_cell BK731.out 4).trans rfl; have hcz52_5 : w49.cell? ⟨gb731, 5, none⟩ = some (.string (⟨#[]⟩ : ByteArray)) := (blk_cell BK731.out 5).trans rfl; have hfz52_0 := blk_frozen BK731.out 0; have hfz52_1 := blk_frozen BK731.out 1; have hfz52_2 := blk_frozen BK731.out 2; have hfz52_3 := blk_frozen BK731.out 3; have hfz52_4 := blk_frozen BK731.out 4; have hfz52_5 := blk_frozen BK731.out 5; have hcz53_0 : w49.cell? ⟨gb723, 0, none⟩ = some (.int .i64 t716) := (blk_cell BK723.out 0).trans rfl; have hcz53_1 : w49.cell? ⟨gb723, 1, none⟩ = some (.int .i64 t717) := (blk_cell BK723.out 1).trans rfl; have hcz53_2 : w49.cell? ⟨gb723, 2, none⟩ = some (.int .i64 t718) := (blk_cell BK723.out 2).trans rfl; have hcz53_3 : w49.cell? ⟨gb723, 3, none⟩ = some (.int .i64 t719) := (blk_cell BK723.out 3).trans rfl; have hcz53_4 : w49.cell? ⟨gb723, 4, none⟩ = some (.int .i64 t720) := (blk_cell BK723.out 4).trans rfl; have hcz53_5 : w49.cell? ⟨gb723, 5, none⟩ = some (.string t721) := (blk_cell BK723.out 5).trans rfl; have hfz53_0 := blk_frozen BK723.out 0; have hfz53_1 := blk_frozen BK723.out 1; have hfz53_2 := blk_frozen BK723.out 2; have hfz53_3 := blk_frozen BK723.out 3; have hfz53_4 := blk_frozen BK723.out 4; have hfz53_5 := blk_frozen BK723.out 5) | (go_at_call 28; (with_reducible refine (impl_CmdPut.calls kj9 t716 t717 t718 t719 t720 t721 t732 _ A42.out).mono ?_); rintro e w54 ⟨rfl, hb⟩; have n0_ := m_ (blk_below (g := gb704) (o := .cells #[.int .i64 t698, .int .i64 t699, .int .i64 t700, .int .i64 t701, .int .i64 t702, .string t703] 43 (0, 0)) (kF BK704.out NB704_731.out) hb); have n1_ := m_ (blk_below (g := gb723) (o := .cells #[.int .i64 t716, .int .i64 t717, .int .i64 t718, .int .i64 t719, .int .i64 t720, .string t721] 43 (0, 0)) (kF BK723.out NB723_731.out) hb); have n2_ := m_ (blk_below (g := gb731) (o := .cells #[.int .i64 t724, .int .i64 t725, .int .i64 t726, .int .i64 t727, .int .i64 t728, .string t729] 43 (0, 0)) (kP BK731.out) hb); have n3_ := m_ (below_step (bN HB.out) hb); clear BK704; clear BK723; clear BK731; clear HB; have BK704 := n0_; have BK723 := n1_; have BK731 := n2_; have HB := n3_; clear n0_ n1_ n2_ n3_; (try clear hb); (try clear hb2); (try clear hk); (try clear hi)))
          go_ret
          exact ⟨by first | rfl | (simp [errW_none, errW_some] <;> rfl) | (simp [*, errW_none, errW_some] <;> rfl), by repeat (first | (with_reducible first | exact HB.out | apply below_alloc | apply pw_below_drewN | apply below_drew1 | refine below_set ?_ GE704.out | refine below_set ?_ GE723.out | refine below_set ?_ GE731.out) | exact HB.out)⟩
         ·rw [if_neg c41] at H
          have c41b0 : (t722 == 0) = false := beq_eq_false_iff_ne.mpr c41
          have c41b1 : (t722 != 0) = true := bne_iff_ne.mpr c41
          obtain rfl := Option.some.inj H
          go_wp2_with (first | ((with_reducible refine gate_callee (f := 30) rfl ?_); refine goesL_ (some 45) rfl rfl Tryd.func30 (by kernel_rfl) rfl #[.slice A1 l1.length c1] rfl gl_ ?_; (with_reducible refine (spec_DrawCmdGet.calls kj9 _ _ l1 t715 _ ?side1 ?side2 A36.out).mono ?_); (case side1 => exact cN (Kd.C_below HR1.out HB.out)); (case side2 => exact HC1.out); rintro e w55 ⟨rfl, hb⟩; refine ⟨_, rfl, ?_⟩; have n0_ := m_ (blk_below (kN BK704.out) hb); have n1_ := m_ (below_step (bN HB.out) hb); clear BK704; clear HB; have BK704 := n0_; have HB := n1_; clear n0_ n1_; (try clear hb); (try clear hb2); (try clear hk); (try clear hi)) | ((with_reducible refine gate_callee (f := 23) rfl ?_); refine goesL_ (some 48) rfl rfl Tryd.func23 (by kernel_rfl) rfl #[.string t715] rfl gl_ ?_; (with_reducible refine (impl_CmdGet.calls kj9 t715 t716 t717 t718 t719 t720 t721 t722 _ A37.out).mono ?_); rintro e w56 ⟨rfl, hb⟩; refine ⟨_, rfl, ?_⟩; have n0_ := m_ (blk_below (kN BK704.out) hb); have n1_ := m_ (below_step (bN HB.out) hb); clear BK704; clear HB; have BK704 := n0_; have HB := n1_; clear n0_ n1_; (try clear hb); (try clear hb2); (try clear hk); (try clear hi)) | ((with_reducible refine gate_dst (N := 10) rfl ?_); (try (refine gate_guard (by rfl) ?_; dsimp only)); refine box_event ?hg (N := 10) ?hd (cs := #[.int .i64 0, .int .i64 0, .int .i64 0, .int .i64 0, .int .i64 0, .string (⟨#[]⟩ : ByteArray)]) (t := 43) ?hr ?_; (case hd => rfl); (case hg => rfl); (case hr => first | (go_simp; done) | (go_simp; rfl)); intro gb723 hg w57 hbox hb; have n0_ := m_ (blk_below (kN BK704.out) hb); have n1_ := m_ (below_step (bN HB.out) hb); have n2_ := m_ (hbox); have n3_ := m_ ((by rw [hg]; exact (below_size (bN HB.out)) : w.heap.size ≤ gb723)); have n4_ := m_ ((by rw [hg]; exact (below_size (bN HB.out)) : w.heap.size ≤ gb723)); have n5_ := m_ ((by rw [hg]; exact Nat.ne_of_lt (blk_lt (g := gb704) (o := .cells #[.int .i64 t698, .int .i64 t699, .int .i64 t700, .int .i64 t701, .int .i64 t702, .string t703] 43 (0, 0)) (kN BK704.out)) : gb704 ≠ gb723)); have n6_ := m_ ((by rw [hg]; exact Nat.ne_of_gt (blk_lt (g := gb704) (o := .cells #[.int .i64 t698, .int .i64 t699, .int .i64 t700, .int .i64 t701, .int .i64 t702, .string t703] 43 (0, 0)) (kN BK704.out)) : gb723 ≠ gb704)); clear BK704; clear HB; have BK704 := n0_; have HB := n1_; have BK723 := n2_; have GW723 := n3_; have GE723 := n4_; have NB704_723 := n5_; have NB723_704 := n6_; clear n0_ n1_ n2_ n3_ n4_ n5_ n6_; clear hb hbox hg; have hnb58 := NB723_704.out; have hnc58 := NB704_723.out; have hcz59_0 : w57.cell? ⟨gb723, 0, none⟩ = some (.int .i64 0) := (blk_cell BK723.out 0).trans rfl; have hcz59_1 : w57.cell? ⟨gb723, 1, none⟩ = some (.int .i64 0) := (blk_cell BK723.out 1).trans rfl; have hcz59_2 : w57.cell? ⟨gb723, 2, none⟩ = some (.int .i64 0) := (blk_cell BK723.out 2).trans rfl; have hcz59_3 : w57.cell? ⟨gb723, 3, none⟩ = some (.int .i64 0) := (blk_cell BK723.out 3).trans rfl; have hcz59_4 : w57.cell? ⟨gb723, 4, none⟩ = some (.int .i64 0) := (blk_cell BK723.out 4).trans rfl; have hcz59_5 : w57.cell? ⟨gb723, 5, none⟩ = some (.string (⟨#[]⟩ : ByteArray)) := (blk_cell BK723.out 5).trans rfl; have hfz59_0 := blk_frozen BK723.out 0; have hfz59_1 := blk_frozen BK723.out 1; have hfz59_2 := blk_frozen BK723.out 2; have hfz59_3 := blk_frozen BK723.out 3; have hfz59_4 := blk_frozen BK723.out 4; have hfz59_5 := blk_frozen BK723.out 5) | ((with_reducible refine gate_callee (f := 25) rfl ?_); refine goesL_ (some 53) rfl rfl Tryd.func25 (by kernel_rfl) rfl #[.string t715] rfl gl_ ?_; (with_reducible refine (spec_CmdGet.calls kj9 t715 t724 t725 t726 t727 t728 t729 t730 _ A38.out).mono ?_); rintro e w60 ⟨rfl, hb⟩; refine ⟨_, rfl, ?_⟩; have n0_ := m_ (blk_below (g := gb704) (o := .cells #[.int .i64 t698, .int .i64 t699, .int .i64 t700, .int .i64 t701, .int .i64 t702, .string t703] 43 (0, 0)) (kF BK704.out NB704_723.out) hb); have n1_ := m_ (blk_below (g := gb723) (o := .cells #[.int .i64 t716, .int .i64 t717, .int .i64 t718, .int .i64 t719, .int .i64 t720, .string t721] 43 (0, 0)) (kP BK723.out) hb); have n2_ := m_ (below_step (bN HB.out) hb); clear BK704; clear BK723; clear HB; have BK704 := n0_; have BK723 := n1_; have HB := n2_; clear n0_ n1_ n2_; (try clear hb); (try clear hb2); (try clear hk); (try clear hi)) | ((with_reducible refine gate_dst (N := 12) rfl ?_); (try (refine gate_guard (by rfl) ?_; dsimp only)); refine box_event ?hg (N := 12) ?hd (cs := #[.int .i64 0, .int .i64 0, .int .i64 0, .int .i64 0, .int .i64 0, .string (⟨#[]⟩ : ByteArray)]) (t := 43) ?hr ?_; (case hd => rfl); (case hg => rfl); (case hr => first | (go_simp; done) | (go_simp; rfl)); intro gb731 hg w61 hbox hb; have n0_ := m_ (blk_below (kN BK704.out) hb); have n1_ := m_ (blk_below (kN BK723.out) hb); have n2_ := m_ (below_step (bN HB.out) hb); have n3_ := m_ (hbox); have n4_ := m_ ((by rw [hg]; exact (below_size (bN HB.out)) : w.heap.size ≤ gb731)); have n5_ := m_ ((by rw [hg]; exact (below_size (bN HB.out)) : w.heap.size ≤ gb731)); have n6_ := m_ ((by rw [hg]; exact Nat.ne_of_lt (blk_lt (g := gb704) (o := .cells #[.int .i64 t698, .int .i64 t699, .int .i64 t700, .int .i64 t701, .int .i64 t702, .string t703] 43 (0, 0)) (kN BK704.out)) : gb704 ≠ gb731)); have n7_ := m_ ((by rw [hg]; exact Nat.ne_of_gt (blk_lt (g := gb704) (o := .cells #[.int .i64 t698, .int .i64 t699, .int .i64 t700, .int .i64 t701, .int .i64 t702, .string t703] 43 (0, 0)) (kN BK704.out)) : gb731 ≠ gb704)); have n8_ := m_ ((by rw [hg]; exact Nat.ne_of_lt (blk_lt (g := gb723) (o := .cells #[.int .i64 t716, .int .i64 t717, .int .i64 t718, .int .i64 t719, .int .i64 t720, .string t721] 43 (0, 0)) (kN BK723.out)) : gb723 ≠ gb731)); have n9_ := m_ ((by rw [hg]; exact Nat.ne_of_gt (blk_lt (g := gb723) (o := .cells #[.int .i64 t716, .int .i64 t717, .int .i64 t718, .int .i64 t719, .int .i64 t720, .string t721] 43 (0, 0)) (kN BK723.out)) : gb731 ≠ gb723)); clear BK704; clear BK723; clear HB; have BK704 := n0_; have BK723 := n1_; have HB := n2_; have BK731 := n3_; have GW731 := n4_; have GE731 := n5_; have NB704_731 := n6_; have NB731_704 := n7_; have NB723_731 := n8_; have NB731_723 := n9_; clear n0_ n1_ n2_ n3_ n4_ n5_ n6_ n7_ n8_ n9_; clear hb hbox hg; have hnb62 := NB731_704.out; have hnc62 := NB704_731.out; have hnb63 := NB731_723.out; have hnc63 := NB723_731.out; have hcz64_0 : w61.cell? ⟨gb731, 0, none⟩ = some (.int .i64 0) := (blk_cell BK731.out 0).trans rfl; have hcz64_1 : w61.cell? ⟨gb731, 1, none⟩ = some (.int .i64 0) := (blk_cell BK731.out 1).trans rfl; have hcz64_2 : w61.cell? ⟨gb731, 2, none⟩ = some (.int .i64 0) := (blk_cell BK731.out 2).trans rfl; have hcz64_3 : w61.cell? ⟨gb731, 3, none⟩ = some (.int .i64 0) := (blk_cell BK731.out 3).trans rfl; have hcz64_4 : w61.cell? ⟨gb731, 4, none⟩ = some (.int .i64 0) := (blk_cell BK731.out 4).trans rfl; have hcz64_5 : w61.cell? ⟨gb731, 5, none⟩ = some (.string (⟨#[]⟩ : ByteArray)) := (blk_cell BK731.out 5).trans rfl; have hfz64_0 := blk_frozen BK731.out 0; have hfz64_1 := blk_frozen BK731.out 1; have hfz64_2 := blk_frozen BK731.out 2; have hfz64_3 := blk_frozen BK731.out 3; have hfz64_4 := blk_frozen BK731.out 4; have hfz64_5 := blk_frozen BK731.out 5; have hcz65_0 : w61.cell? ⟨gb723, 0, none⟩ = some (.int .i64 t716) := (blk_cell BK723.out 0).trans rfl; have hcz65_1 : w61.cell? ⟨gb723, 1, none⟩ = some (.int .i64 t717) := (blk_cell BK723.out 1).trans rfl; have hcz65_2 : w61.cell? ⟨gb723, 2, none⟩ = some (.int .i64 t718) := (blk_cell BK723.out 2).trans rfl; have hcz65_3 : w61.cell? ⟨gb723, 3, none⟩ = some (.int .i64 t719) := (blk_cell BK723.out 3).trans rfl; have hcz65_4 : w61.cell? ⟨gb723, 4, none⟩ = some (.int .i64 t720) := (blk_cell BK723.out 4).trans rfl; have hcz65_5 : w61.cell? ⟨gb723, 5, none⟩ = some (.string t721) := (blk_cell BK723.out 5).trans rfl; have hfz65_0 := blk_frozen BK723.out 0; have hfz65_1 := blk_frozen BK723.out 1; have hfz65_2 := blk_frozen BK723.out 2; have hfz65_3 := blk_frozen BK723.out 3; have hfz65_4 := blk_frozen BK723.out 4; have hfz65_5 := blk_frozen BK723.out 5))
          go_ret
          exact ⟨by first | rfl | (simp [errW_none, errW_some] <;> rfl) | (simp [*, errW_none, errW_some] <;> rfl), by repeat (first | (with_reducible first | exact HB.out | apply below_alloc | apply pw_below_drewN | apply below_drew1 | refine below_set ?_ GE704.out | refine below_set ?_ GE723.out | refine below_set ?_ GE731.out) | exact HB.out)⟩
        ·rw [if_neg c40] at H
         have c40b0 : (t722 == t730) = false := beq_eq_false_iff_ne.mpr c40
         have c40b1 : (t722 != t730) = true := bne_iff_ne.mpr c40
         obtain rfl := Option.some.inj H
         go_wp2_with (first | ((with_reducible refine gate_callee (f := 30) rfl ?_); refine goesL_ (some 45) rfl rfl Tryd.func30 (by kernel_rfl) rfl #[.slice A1 l1.length c1] rfl gl_ ?_; (with_reducible refine (spec_DrawCmdGet.calls kj9 _ _ l1 t715 _ ?side1 ?side2 A36.out).mono ?_); (case side1 => exact cN (Kd.C_below HR1.out HB.out)); (case side2 => exact HC1.out); rintro e w66 ⟨rfl, hb⟩; refine ⟨_, rfl, ?_⟩; have n0_ := m_ (blk_below (kN BK704.out) hb); have n1_ := m_ (below_step (bN HB.out) hb); clear BK704; clear HB; have BK704 := n0_; have HB := n1_; clear n0_ n1_; (try clear hb); (try clear hb2); (try clear hk); (try clear hi)) | ((with_reducible refine gate_callee (f := 23) rfl ?_); refine goesL_ (some 48) rfl rfl Tryd.func23 (by kernel_rfl) rfl #[.string t715] rfl gl_ ?_; (with_reducible refine (impl_CmdGet.calls kj9 t715 t716 t717 t718 t719 t720 t721 t722 _ A37.out).mono ?_); rintro e w67 ⟨rfl, hb⟩; refine ⟨_, rfl, ?_⟩; have n0_ := m_ (blk_below (kN BK704.out) hb); have n1_ := m_ (below_step (bN HB.out) hb); clear BK704; clear HB; have BK704 := n0_; have HB := n1_; clear n0_ n1_; (try clear hb); (try clear hb2); (try clear hk); (try clear hi)) | ((with_reducible refine gate_dst (N := 10) rfl ?_); (try (refine gate_guard (by rfl) ?_; dsimp only)); refine box_event ?hg (N := 10) ?hd (cs := #[.int .i64 0, .int .i64 0, .int .i64 0, .int .i64 0, .int .i64 0, .string (⟨#[]⟩ : ByteArray)]) (t := 43) ?hr ?_; (case hd => rfl); (case hg => rfl); (case hr => first | (go_simp; done) | (go_simp; rfl)); intro gb723 hg w68 hbox hb; have n0_ := m_ (blk_below (kN BK704.out) hb); have n1_ := m_ (below_step (bN HB.out) hb); have n2_ := m_ (hbox); have n3_ := m_ ((by rw [hg]; exact (below_size (bN HB.out)) : w.heap.size ≤ gb723)); have n4_ := m_ ((by rw [hg]; exact (below_size (bN HB.out)) : w.heap.size ≤ gb723)); have n5_ := m_ ((by rw [hg]; exact Nat.ne_of_lt (blk_lt (g := gb704) (o := .cells #[.int .i64 t698, .int .i64 t699, .int .i64 t700, .int .i64 t701, .int .i64 t702, .string t703] 43 (0, 0)) (kN BK704.out)) : gb704 ≠ gb723)); have n6_ := m_ ((by rw [hg]; exact Nat.ne_of_gt (blk_lt (g := gb704) (o := .cells #[.int .i64 t698, .int .i64 t699, .int .i64 t700, .int .i64 t701, .int .i64 t702, .string t703] 43 (0, 0)) (kN BK704.out)) : gb723 ≠ gb704)); clear BK704; clear HB; have BK704 := n0_; have HB := n1_; have BK723 := n2_; have GW723 := n3_; have GE723 := n4_; have NB704_723 := n5_; have NB723_704 := n6_; clear n0_ n1_ n2_ n3_ n4_ n5_ n6_; clear hb hbox hg; have hnb69 := NB723_704.out; have hnc69 := NB704_723.out; have hcz70_0 : w68.cell? ⟨gb723, 0, none⟩ = some (.int .i64 0) := (blk_cell BK723.out 0).trans rfl; have hcz70_1 : w68.cell? ⟨gb723, 1, none⟩ = some (.int .i64 0) := (blk_cell BK723.out 1).trans rfl; have hcz70_2 : w68.cell? ⟨gb723, 2, none⟩ = some (.int .i64 0) := (blk_cell BK723.out 2).trans rfl; have hcz70_3 : w68.cell? ⟨gb723, 3, none⟩ = some (.int .i64 0) := (blk_cell BK723.out 3).trans rfl; have hcz70_4 : w68.cell? ⟨gb723, 4, none⟩ = some (.int .i64 0) := (blk_cell BK723.out 4).trans rfl; have hcz70_5 : w68.cell? ⟨gb723, 5, none⟩ = some (.string (⟨#[]⟩ : ByteArray)) := (blk_cell BK723.out 5).trans rfl; have hfz70_0 := blk_frozen BK723.out 0; have hfz70_1 := blk_frozen BK723.out 1; have hfz70_2 := blk_frozen BK723.out 2; have hfz70_3 := blk_frozen BK723.out 3; have hfz70_4 := blk_frozen BK723.out 4; have hfz70_5 := blk_frozen BK723.out 5) | ((with_reducible refine gate_callee (f := 25) rfl ?_); refine goesL_ (some 53) rfl rfl Tryd.func25 (by kernel_rfl) rfl #[.string t715] rfl gl_ ?_; (with_reducible refine (spec_CmdGet.calls kj9 t715 t724 t725 t726 t727 t728 t729 t730 _ A38.out).mono ?_); rintro e w71 ⟨rfl, hb⟩; refine ⟨_, rfl, ?_⟩; have n0_ := m_ (blk_below (g := gb704) (o := .cells #[.int .i64 t698, .int .i64 t699, .int .i64 t700, .int .i64 t701, .int .i64 t702, .string t703] 43 (0, 0)) (kF BK704.out NB704_723.out) hb); have n1_ := m_ (blk_below (g := gb723) (o := .cells #[.int .i64 t716, .int .i64 t717, .int .i64 t718, .int .i64 t719, .int .i64 t720, .string t721] 43 (0, 0)) (kP BK723.out) hb); have n2_ := m_ (below_step (bN HB.out) hb); clear BK704; clear BK723; clear HB; have BK704 := n0_; have BK723 := n1_; have HB := n2_; clear n0_ n1_ n2_; (try clear hb); (try clear hb2); (try clear hk); (try clear hi)) | ((with_reducible refine gate_dst (N := 12) rfl ?_); (try (refine gate_guard (by rfl) ?_; dsimp only)); refine box_event ?hg (N := 12) ?hd (cs := #[.int .i64 0, .int .i64 0, .int .i64 0, .int .i64 0, .int .i64 0, .string (⟨#[]⟩ : ByteArray)]) (t := 43) ?hr ?_; (case hd => rfl); (case hg => rfl); (case hr => first | (go_simp; done) | (go_simp; rfl)); intro gb731 hg w72 hbox hb; have n0_ := m_ (blk_below (kN BK704.out) hb); have n1_ := m_ (blk_below (kN BK723.out) hb); have n2_ := m_ (below_step (bN HB.out) hb); have n3_ := m_ (hbox); have n4_ := m_ ((by rw [hg]; exact (below_size (bN HB.out)) : w.heap.size ≤ gb731)); have n5_ := m_ ((by rw [hg]; exact (below_size (bN HB.out)) : w.heap.size ≤ gb731)); have n6_ := m_ ((by rw [hg]; exact Nat.ne_of_lt (blk_lt (g := gb704) (o := .cells #[.int .i64 t698, .int .i64 t699, .int .i64 t700, .int .i64 t701, .int .i64 t702, .string t703] 43 (0, 0)) (kN BK704.out)) : gb704 ≠ gb731)); have n7_ := m_ ((by rw [hg]; exact Nat.ne_of_gt (blk_lt (g := gb704) (o := .cells #[.int .i64 t698, .int .i64 t699, .int .i64 t700, .int .i64 t701, .int .i64 t702, .string t703] 43 (0, 0)) (kN BK704.out)) : gb731 ≠ gb704)); have n8_ := m_ ((by rw [hg]; exact Nat.ne_of_lt (blk_lt (g := gb723) (o := .cells #[.int .i64 t716, .int .i64 t717, .int .i64 t718, .int .i64 t719, .int .i64 t720, .string t721] 43 (0, 0)) (kN BK723.out)) : gb723 ≠ gb731)); have n9_ := m_ ((by rw [hg]; exact Nat.ne_of_gt (blk_lt (g := gb723) (o := .cells #[.int .i64 t716, .int .i64 t717, .int .i64 t718, .int .i64 t719, .int .i64 t720, .string t721] 43 (0, 0)) (kN BK723.out)) : gb731 ≠ gb723)); clear BK704; clear BK723; clear HB; have BK704 := n0_; have BK723 := n1_; have HB := n2_; have BK731 := n3_; have GW731 := n4_; have GE731 := n5_; have NB704_731 := n6_; have NB731_704 := n7_; have NB723_731 := n8_; have NB731_723 := n9_; clear n0_ n1_ n2_ n3_ n4_ n5_ n6_ n7_ n8_ n9_; clear hb hbox hg; have hnb73 := NB731_704.out; have hnc73 := NB704_731.out; have hnb74 := NB731_723.out; have hnc74 := NB723_731.out; have hcz75_0 : w72.cell? ⟨gb731, 0, none⟩ = some (.int .i64 0) := (blk_cell BK731.out 0).trans rfl; have hcz75_1 : w72.cell? ⟨gb731, 1, none⟩ = some (.int .i64 0) := (blk_cell BK731.out 1).trans rfl; have hcz75_2 : w72.cell? ⟨gb731, 2, none⟩ = some (.int .i64 0) := (blk_cell BK731.out 2).trans rfl; have hcz75_3 : w72.cell? ⟨gb731, 3, none⟩ = some (.int .i64 0) := (blk_cell BK731.out 3).trans rfl; have hcz75_4 : w72.cell? ⟨gb731, 4, none⟩ = some (.int .i64 0) := (blk_cell BK731.out 4).trans rfl; have hcz75_5 : w72.cell? ⟨gb731, 5, none⟩ = some (.string (⟨#[]⟩ : ByteArray)) := (blk_cell BK731.out 5).trans rfl; have hfz75_0 := blk_frozen BK731.out 0; have hfz75_1 := blk_frozen BK731.out 1; have hfz75_2 := blk_frozen BK731.out 2; have hfz75_3 := blk_frozen BK731.out 3; have hfz75_4 := blk_frozen BK731.out 4; have hfz75_5 := blk_frozen BK731.out 5; have hcz76_0 : w72.cell? ⟨gb723, 0, none⟩ = some (.int .i64 t716) := (blk_cell BK723.out 0).trans rfl; have hcz76_1 : w72.cell? ⟨gb723, 1, none⟩ = some (.int .i64 t717) := (blk_cell BK723.out 1).trans rfl; have hcz76_2 : w72.cell? ⟨gb723, 2, none⟩ = some (.int .i64 t718) := (blk_cell BK723.out 2).trans rfl; have hcz76_3 : w72.cell? ⟨gb723, 3, none⟩ = some (.int .i64 t719) := (blk_cell BK723.out 3).trans rfl; have hcz76_4 : w72.cell? ⟨gb723, 4, none⟩ = some (.int .i64 t720) := (blk_cell BK723.out 4).trans rfl; have hcz76_5 : w72.cell? ⟨gb723, 5, none⟩ = some (.string t721) := (blk_cell BK723.out 5).trans rfl; have hfz76_0 := blk_frozen BK723.out 0; have hfz76_1 := blk_frozen BK723.out 1; have hfz76_2 := blk_frozen BK723.out 2; have hfz76_3 := blk_frozen BK723.out 3; have hfz76_4 := blk_frozen BK723.out 4; have hfz76_5 := blk_frozen BK723.out 5))
         go_ret
         exact ⟨by first | rfl | (simp [errW_none, errW_some] <;> rfl) | (simp [*, errW_none, errW_some] <;> rfl), by repeat (first | (with_reducible first | exact HB.out | apply below_alloc | apply pw_below_drewN | apply below_drew1 | refine below_set ?_ GE704.out | refine below_set ?_ GE723.out | refine below_set ?_ GE731.out) | exact HB.out)⟩
       ·rw [if_neg c39] at H
        have c39b0 : (t716 == t724 && (t717 == t725 && (t718 == t726 && (t719 == t727 && (t720 == t728 && (t721.toList == t729.toList)))))) = false := by simpa using c39
        (try (have c39b1 : decide (t716 = t724 && (t717 == t725 && (t718 == t726 && (t719 == t727 && (t720 == t728 && (t721.toList == t729.toList)))))) = false := by simpa using c39))
        (try (have c39b2 : (t716 == t724 && (t717 == t725 && (t718 == t726 && (t719 == t727 && (t720 == t728 && (t721.toList == t729.toList)))))) = false := by simpa using c39))
        (try (have c39b3 : ¬ (t716 = t724 && (t717 == t725 && (t718 == t726 && (t719 == t727 && (t720 == t728 && (t721.toList == t729.toList)))))) := by simpa using c39))
        clear c39
        obtain rfl := Option.some.inj H
        go_wp2_with (first | ((with_reducible refine gate_callee (f := 30) rfl ?_); refine goesL_ (some 45) rfl rfl Tryd.func30 (by kernel_rfl) rfl #[.slice A1 l1.length c1] rfl gl_ ?_; (with_reducible refine (spec_DrawCmdGet.calls kj9 _ _ l1 t715 _ ?side1 ?side2 A36.out).mono ?_); (case side1 => exact cN (Kd.C_below HR1.out HB.out)); (case side2 => exact HC1.out); rintro e w77 ⟨rfl, hb⟩; refine ⟨_, rfl, ?_⟩; have n0_ := m_ (blk_below (kN BK704.out) hb); have n1_ := m_ (below_step (bN HB.out) hb); clear BK704; clear HB; have BK704 := n0_; have HB := n1_; clear n0_ n1_; (try clear hb); (try clear hb2); (try clear hk); (try clear hi)) | ((with_reducible refine gate_callee (f := 23) rfl ?_); refine goesL_ (some 48) rfl rfl Tryd.func23 (by kernel_rfl) rfl #[.string t715] rfl gl_ ?_; (with_reducible refine (impl_CmdGet.calls kj9 t715 t716 t717 t718 t719 t720 t721 t722 _ A37.out).mono ?_); rintro e w78 ⟨rfl, hb⟩; refine ⟨_, rfl, ?_⟩; have n0_ := m_ (blk_below (kN BK704.out) hb); have n1_ := m_ (below_step (bN HB.out) hb); clear BK704; clear HB; have BK704 := n0_; have HB := n1_; clear n0_ n1_; (try clear hb); (try clear hb2); (try clear hk); (try clear hi)) | ((with_reducible refine gate_dst (N := 10) rfl ?_); (try (refine gate_guard (by rfl) ?_; dsimp only)); refine box_event ?hg (N := 10) ?hd (cs := #[.int .i64 0, .int .i64 0, .int .i64 0, .int .i64 0, .int .i64 0, .string (⟨#[]⟩ : ByteArray)]) (t := 43) ?hr ?_; (case hd => rfl); (case hg => rfl); (case hr => first | (go_simp; done) | (go_simp; rfl)); intro gb723 hg w79 hbox hb; have n0_ := m_ (blk_below (kN BK704.out) hb); have n1_ := m_ (below_step (bN HB.out) hb); have n2_ := m_ (hbox); have n3_ := m_ ((by rw [hg]; exact (below_size (bN HB.out)) : w.heap.size ≤ gb723)); have n4_ := m_ ((by rw [hg]; exact (below_size (bN HB.out)) : w.heap.size ≤ gb723)); have n5_ := m_ ((by rw [hg]; exact Nat.ne_of_lt (blk_lt (g := gb704) (o := .cells #[.int .i64 t698, .int .i64 t699, .int .i64 t700, .int .i64 t701, .int .i64 t702, .string t703] 43 (0, 0)) (kN BK704.out)) : gb704 ≠ gb723)); have n6_ := m_ ((by rw [hg]; exact Nat.ne_of_gt (blk_lt (g := gb704) (o := .cells #[.int .i64 t698, .int .i64 t699, .int .i64 t700, .int .i64 t701, .int .i64 t702, .string t703] 43 (0, 0)) (kN BK704.out)) : gb723 ≠ gb704)); clear BK704; clear HB; have BK704 := n0_; have HB := n1_; have BK723 := n2_; have GW723 := n3_; have GE723 := n4_; have NB704_723 := n5_; have NB723_704 := n6_; clear n0_ n1_ n2_ n3_ n4_ n5_ n6_; clear hb hbox hg; have hnb80 := NB723_704.out; have hnc80 := NB704_723.out; have hcz81_0 : w79.cell? ⟨gb723, 0, none⟩ = some (.int .i64 0) := (blk_cell BK723.out 0).trans rfl; have hcz81_1 : w79.cell? ⟨gb723, 1, none⟩ = some (.int .i64 0) := (blk_cell BK723.out 1).trans rfl; have hcz81_2 : w79.cell? ⟨gb723, 2, none⟩ = some (.int .i64 0) := (blk_cell BK723.out 2).trans rfl; have hcz81_3 : w79.cell? ⟨gb723, 3, none⟩ = some (.int .i64 0) := (blk_cell BK723.out 3).trans rfl; have hcz81_4 : w79.cell? ⟨gb723, 4, none⟩ = some (.int .i64 0) := (blk_cell BK723.out 4).trans rfl; have hcz81_5 : w79.cell? ⟨gb723, 5, none⟩ = some (.string (⟨#[]⟩ : ByteArray)) := (blk_cell BK723.out 5).trans rfl; have hfz81_0 := blk_frozen BK723.out 0; have hfz81_1 := blk_frozen BK723.out 1; have hfz81_2 := blk_frozen BK723.out 2; have hfz81_3 := blk_frozen BK723.out 3; have hfz81_4 := blk_frozen BK723.out 4; have hfz81_5 := blk_frozen BK723.out 5) | ((with_reducible refine gate_callee (f := 25) rfl ?_); refine goesL_ (some 53) rfl rfl Tryd.func25 (by kernel_rfl) rfl #[.string t715] rfl gl_ ?_; (with_reducible refine (spec_CmdGet.calls kj9 t715 t724 t725 t726 t727 t728 t729 t730 _ A38.out).mono ?_); rintro e w82 ⟨rfl, hb⟩; refine ⟨_, rfl, ?_⟩; have n0_ := m_ (blk_below (g := gb704) (o := .cells #[.int .i64 t698, .int .i64 t699, .int .i64 t700, .int .i64 t701, .int .i64 t702, .string t703] 43 (0, 0)) (kF BK704.out NB704_723.out) hb); have n1_ := m_ (blk_below (g := gb723) (o := .cells #[.int .i64 t716, .int .i64 t717, .int .i64 t718, .int .i64 t719, .int .i64 t720, .string t721] 43 (0, 0)) (kP BK723.out) hb); have n2_ := m_ (below_step (bN HB.out) hb); clear BK704; clear BK723; clear HB; have BK704 := n0_; have BK723 := n1_; have HB := n2_; clear n0_ n1_ n2_; (try clear hb); (try clear hb2); (try clear hk); (try clear hi)) | ((with_reducible refine gate_dst (N := 12) rfl ?_); (try (refine gate_guard (by rfl) ?_; dsimp only)); refine box_event ?hg (N := 12) ?hd (cs := #[.int .i64 0, .int .i64 0, .int .i64 0, .int .i64 0, .int .i64 0, .string (⟨#[]⟩ : ByteArray)]) (t := 43) ?hr ?_; (case hd => rfl); (case hg => rfl); (case hr => first | (go_simp; done) | (go_simp; rfl)); intro gb731 hg w83 hbox hb; have n0_ := m_ (blk_below (kN BK704.out) hb); have n1_ := m_ (blk_below (kN BK723.out) hb); have n2_ := m_ (below_step (bN HB.out) hb); have n3_ := m_ (hbox); have n4_ := m_ ((by rw [hg]; exact (below_size (bN HB.out)) : w.heap.size ≤ gb731)); have n5_ := m_ ((by rw [hg]; exact (below_size (bN HB.out)) : w.heap.size ≤ gb731)); have n6_ := m_ ((by rw [hg]; exact Nat.ne_of_lt (blk_lt (g := gb704) (o := .cells #[.int .i64 t698, .int .i64 t699, .int .i64 t700, .int .i64 t701, .int .i64 t702, .string t703] 43 (0, 0)) (kN BK704.out)) : gb704 ≠ gb731)); have n7_ := m_ ((by rw [hg]; exact Nat.ne_of_gt (blk_lt (g := gb704) (o := .cells #[.int .i64 t698, .int .i64 t699, .int .i64 t700, .int .i64 t701, .int .i64 t702, .string t703] 43 (0, 0)) (kN BK704.out)) : gb731 ≠ gb704)); have n8_ := m_ ((by rw [hg]; exact Nat.ne_of_lt (blk_lt (g := gb723) (o := .cells #[.int .i64 t716, .int .i64 t717, .int .i64 t718, .int .i64 t719, .int .i64 t720, .string t721] 43 (0, 0)) (kN BK723.out)) : gb723 ≠ gb731)); have n9_ := m_ ((by rw [hg]; exact Nat.ne_of_gt (blk_lt (g := gb723) (o := .cells #[.int .i64 t716, .int .i64 t717, .int .i64 t718, .int .i64 t719, .int .i64 t720, .string t721] 43 (0, 0)) (kN BK723.out)) : gb731 ≠ gb723)); clear BK704; clear BK723; clear HB; have BK704 := n0_; have BK723 := n1_; have HB := n2_; have BK731 := n3_; have GW731 := n4_; have GE731 := n5_; have NB704_731 := n6_; have NB731_704 := n7_; have NB723_731 := n8_; have NB731_723 := n9_; clear n0_ n1_ n2_ n3_ n4_ n5_ n6_ n7_ n8_ n9_; clear hb hbox hg; have hnb84 := NB731_704.out; have hnc84 := NB704_731.out; have hnb85 := NB731_723.out; have hnc85 := NB723_731.out; have hcz86_0 : w83.cell? ⟨gb731, 0, none⟩ = some (.int .i64 0) := (blk_cell BK731.out 0).trans rfl; have hcz86_1 : w83.cell? ⟨gb731, 1, none⟩ = some (.int .i64 0) := (blk_cell BK731.out 1).trans rfl; have hcz86_2 : w83.cell? ⟨gb731, 2, none⟩ = some (.int .i64 0) := (blk_cell BK731.out 2).trans rfl; have hcz86_3 : w83.cell? ⟨gb731, 3, none⟩ = some (.int .i64 0) := (blk_cell BK731.out 3).trans rfl; have hcz86_4 : w83.cell? ⟨gb731, 4, none⟩ = some (.int .i64 0) := (blk_cell BK731.out 4).trans rfl; have hcz86_5 : w83.cell? ⟨gb731, 5, none⟩ = some (.string (⟨#[]⟩ : ByteArray)) := (blk_cell BK731.out 5).trans rfl; have hfz86_0 := blk_frozen BK731.out 0; have hfz86_1 := blk_frozen BK731.out 1; have hfz86_2 := blk_frozen BK731.out 2; have hfz86_3 := blk_frozen BK731.out 3; have hfz86_4 := blk_frozen BK731.out 4; have hfz86_5 := blk_frozen BK731.out 5; have hcz87_0 : w83.cell? ⟨gb723, 0, none⟩ = some (.int .i64 t716) := (blk_cell BK723.out 0).trans rfl; have hcz87_1 : w83.cell? ⟨gb723, 1, none⟩ = some (.int .i64 t717) := (blk_cell BK723.out 1).trans rfl; have hcz87_2 : w83.cell? ⟨gb723, 2, none⟩ = some (.int .i64 t718) := (blk_cell BK723.out 2).trans rfl; have hcz87_3 : w83.cell? ⟨gb723, 3, none⟩ = some (.int .i64 t719) := (blk_cell BK723.out 3).trans rfl; have hcz87_4 : w83.cell? ⟨gb723, 4, none⟩ = some (.int .i64 t720) := (blk_cell BK723.out 4).trans rfl; have hcz87_5 : w83.cell? ⟨gb723, 5, none⟩ = some (.string t721) := (blk_cell BK723.out 5).trans rfl; have hfz87_0 := blk_frozen BK723.out 0; have hfz87_1 := blk_frozen BK723.out 1; have hfz87_2 := blk_frozen BK723.out 2; have hfz87_3 := blk_frozen BK723.out 3; have hfz87_4 := blk_frozen BK723.out 4; have hfz87_5 := blk_frozen BK723.out 5))
        go_ret
        exact ⟨by first | rfl | (simp [errW_none, errW_some] <;> rfl) | (simp [*, errW_none, errW_some] <;> rfl), by repeat (first | (with_reducible first | exact HB.out | apply below_alloc | apply pw_below_drewN | apply below_drew1 | refine below_set ?_ GE704.out | refine below_set ?_ GE723.out | refine below_set ?_ GE731.out) | exact HB.out)⟩
    ·rw [if_neg c9] at H
     have c9b0 : (t705.toList == t706.toList) = false := beq_eq_false_iff_ne.mpr c9
     have c9b1 : (t705.toList != t706.toList) = true := bne_iff_ne.mpr c9
     obtain rfl := Option.some.inj H
     go_wp2_with (first | ((with_reducible refine gate_callee (f := 27) rfl ?_); refine goesL_ (some 23) rfl rfl Tryd.func27 (by kernel_rfl) rfl #[.slice A0 l0.length c0] rfl gl_ ?_; (with_reducible refine (spec_DrawCmdPut.calls kj2 _ _ l0 t698 t699 t700 t701 t702 t703 _ ?side1 ?side2 A6.out).mono ?_); (case side1 => exact cN (Kd.C_below HR0.out HB.out)); (case side2 => exact HC0.out); rintro e w88 ⟨rfl, hb⟩; refine ⟨_, rfl, ?_⟩; have n0_ := m_ (below_step (bN HB.out) hb); clear HB; have HB := n0_; clear n0_; (try clear hb); (try clear hb2); (try clear hk); (try clear hi)) | ((with_reducible refine gate_dst (N := 5) rfl ?_); (try (refine gate_guard (by rfl) ?_; dsimp only)); refine box_event ?hg (N := 5) ?hd (cs := #[.int .i64 0, .int .i64 0, .int .i64 0, .int .i64 0, .int .i64 0, .string (⟨#[]⟩ : ByteArray)]) (t := 43) ?hr ?_; (case hd => rfl); (case hg => rfl); (case hr => first | (go_simp; done) | (go_simp; rfl)); intro gb704 hg w89 hbox hb; have n0_ := m_ (below_step (bN HB.out) hb); have n1_ := m_ (hbox); have n2_ := m_ ((by rw [hg]; exact (below_size (bN HB.out)) : w.heap.size ≤ gb704)); have n3_ := m_ ((by rw [hg]; exact (below_size (bN HB.out)) : w.heap.size ≤ gb704)); clear HB; have HB := n0_; have BK704 := n1_; have GW704 := n2_; have GE704 := n3_; clear n0_ n1_ n2_ n3_; clear hb hbox hg; have hcz90_0 : w89.cell? ⟨gb704, 0, none⟩ = some (.int .i64 0) := (blk_cell BK704.out 0).trans rfl; have hcz90_1 : w89.cell? ⟨gb704, 1, none⟩ = some (.int .i64 0) := (blk_cell BK704.out 1).trans rfl; have hcz90_2 : w89.cell? ⟨gb704, 2, none⟩ = some (.int .i64 0) := (blk_cell BK704.out 2).trans rfl; have hcz90_3 : w89.cell? ⟨gb704, 3, none⟩ = some (.int .i64 0) := (blk_cell BK704.out 3).trans rfl; have hcz90_4 : w89.cell? ⟨gb704, 4, none⟩ = some (.int .i64 0) := (blk_cell BK704.out 4).trans rfl; have hcz90_5 : w89.cell? ⟨gb704, 5, none⟩ = some (.string (⟨#[]⟩ : ByteArray)) := (blk_cell BK704.out 5).trans rfl; have hfz90_0 := blk_frozen BK704.out 0; have hfz90_1 := blk_frozen BK704.out 1; have hfz90_2 := blk_frozen BK704.out 2; have hfz90_3 := blk_frozen BK704.out 3; have hfz90_4 := blk_frozen BK704.out 4; have hfz90_5 := blk_frozen BK704.out 5) | ((with_reducible refine gate_callee (f := 28) rfl ?_); refine goesL_ (some 25) rfl rfl Tryd.func28 (by kernel_rfl) rfl #[.agg #[.int .i64 t698, .int .i64 t699, .int .i64 t700, .int .i64 t701, .int .i64 t702, .string t703]] rfl gl_ ?_; (with_reducible refine (impl_CmdPut.calls kj2 t698 t699 t700 t701 t702 t703 t705 _ A7.out).mono ?_); rintro e w91 ⟨rfl, hb⟩; refine ⟨_, rfl, ?_⟩; have n0_ := m_ (blk_below (g := gb704) (o := .cells #[.int .i64 t698, .int .i64 t699, .int .i64 t700, .int .i64 t701, .int .i64 t702, .string t703] 43 (0, 0)) (kP BK704.out) hb); have n1_ := m_ (below_step (bN HB.out) hb); clear BK704; clear HB; have BK704 := n0_; have HB := n1_; clear n0_ n1_; (try clear hb); (try clear hb2); (try clear hk); (try clear hi); have hcz92_0 : w91.cell? ⟨gb704, 0, none⟩ = some (.int .i64 t698) := (blk_cell BK704.out 0).trans rfl; have hcz92_1 : w91.cell? ⟨gb704, 1, none⟩ = some (.int .i64 t699) := (blk_cell BK704.out 1).trans rfl; have hcz92_2 : w91.cell? ⟨gb704, 2, none⟩ = some (.int .i64 t700) := (blk_cell BK704.out 2).trans rfl; have hcz92_3 : w91.cell? ⟨gb704, 3, none⟩ = some (.int .i64 t701) := (blk_cell BK704.out 3).trans rfl; have hcz92_4 : w91.cell? ⟨gb704, 4, none⟩ = some (.int .i64 t702) := (blk_cell BK704.out 4).trans rfl; have hcz92_5 : w91.cell? ⟨gb704, 5, none⟩ = some (.string t703) := (blk_cell BK704.out 5).trans rfl; have hfz92_0 := blk_frozen BK704.out 0; have hfz92_1 := blk_frozen BK704.out 1; have hfz92_2 := blk_frozen BK704.out 2; have hfz92_3 := blk_frozen BK704.out 3; have hfz92_4 := blk_frozen BK704.out 4; have hfz92_5 := blk_frozen BK704.out 5) | ((with_reducible refine gate_callee (f := 29) rfl ?_); refine goesL_ (some 28) rfl rfl Tryd.func29 (by kernel_rfl) rfl #[.agg #[.int .i64 t698, .int .i64 t699, .int .i64 t700, .int .i64 t701, .int .i64 t702, .string t703]] rfl gl_ ?_; (with_reducible refine (spec_CmdPut.calls kj2 t698 t699 t700 t701 t702 t703 t706 _ A8.out).mono ?_); rintro e w93 ⟨rfl, hb⟩; refine ⟨_, rfl, ?_⟩; have n0_ := m_ (blk_below (kN BK704.out) hb); have n1_ := m_ (below_step (bN HB.out) hb); clear BK704; clear HB; have BK704 := n0_; have HB := n1_; clear n0_ n1_; (try clear hb); (try clear hb2); (try clear hk); (try clear hi)))
     go_ret
     exact ⟨by first | rfl | (simp [errW_none, errW_some] <;> rfl) | (simp [*, errW_none, errW_some] <;> rfl), by repeat (first | (with_reducible first | exact HB.out | apply below_alloc | apply pw_below_drewN | apply below_drew1 | refine below_set ?_ GE704.out) | exact HB.out)⟩

/-- THE ONE PURE STATEMENT of laws_FnCmdBack: yours. -/
def laws_FnCmdBack.Pure : Prop := ∀ (l0 : List Int) (l1 : List Int), l0.length ≤ maxLen → l0.length * 1 ≤ 140737488351232 → (∀ x ∈ l0, (Lit.int .u8 x).wf = true) → l1.length ≤ maxLen → l1.length * 1 ≤ 140737488351232 → (∀ x ∈ l1, (Lit.int .u8 x).wf = true) → ∃ k, laws_FnCmdBack.f k l0 l1 = some true
theorem laws_FnCmdBack.walk (P : laws_FnCmdBack.Pure) (a0 : Option Addr) (len0 cap0 : Nat) (z0 : List Int) (a1 : Option Addr) (len1 cap1 : Nat) (z1 : List Int) (w : World) (w0 : (a0 = none ∧ len0 = 0 ∧ cap0 = 0 ∧ z0 = []) ∨ ∃ x, a0 = some x ∧ len0 ≤ cap0 ∧ cap0 ≤ maxLen ∧ z0.length = cap0 ∧ (∀ i, i < z0.length → w.cell? (x.add i) = some (.int .u8 (z0.getD i 0))) ∧ ∀ n ∈ z0, (Lit.int .u8 n).wf = true) (y0 : len0 * 1 ≤ 140737488351232) (w1 : (a1 = none ∧ len1 = 0 ∧ cap1 = 0 ∧ z1 = []) ∨ ∃ x, a1 = some x ∧ len1 ≤ cap1 ∧ cap1 ≤ maxLen ∧ z1.length = cap1 ∧ (∀ i, i < z1.length → w.cell? (x.add i) = some (.int .u8 (z1.getD i 0))) ∧ ∀ n ∈ z1, (Lit.int .u8 n).wf = true) (y1 : len1 * 1 ≤ 140737488351232) :
  Calls Tryd.prog 9 #[.slice a0 len0 cap0, .slice a1 len1 cap1] w fun e w' => e = .returned (.bool true) ∧ Below w.heap.size w w' := by
 obtain ⟨l0, rfl, hr0, hm0, hw0, hc0⟩ := ReadsInt.ofRowC w0
 obtain ⟨l1, rfl, hr1, hm1, hw1, hc1⟩ := ReadsInt.ofRowC w1
 obtain ⟨k, h⟩ := P l0 l1 hm0 y0 hw0 hm1 y1 hw1
 refine (laws_FnCmdBack.calls k _ _ l0 _ _ l1 true w (Kd.C_of_reads (d := (0 : Int)) (h1 := fun _ => rfl) hr0) hc0 (Kd.C_of_reads (d := (0 : Int)) (h1 := fun _ => rfl) hr1) hc1 h).mono ?_
 rintro e w' ⟨rfl, hd⟩
 exact ⟨rfl, hd⟩

end Go.Proofs.YtllchgipnfdneaaDoor.P
