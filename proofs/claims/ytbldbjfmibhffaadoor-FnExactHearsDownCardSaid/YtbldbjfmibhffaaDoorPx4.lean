/- The machine side of these statements, function by function: what each Go function answers (as a Lean function), and that it does. Written by a program (mp.py) for this claim. -/
import Derived.Test.YtbldbjfmibhffaaDoorPx0
import Derived.Test.YtbldbjfmibhffaaDoorPx2
import Derived.Test.YtbldbjfmibhffaaDoorPx3
namespace Go.Proofs.YtbldbjfmibhffaaDoor.P
open Go.RowKit Go.Proofs.YtbldbjfmibhffaaDoorW.PrintWords Go.Proofs.YtbldbjfmibhffaaDoorW.PrintLast Go.Proofs.YtbldbjfmibhffaaDoorW.PrintMore
attribute [local go_sem] max2_int min2_int max_two min_two max_three min_three max_four min_four   -- for this text's walks alone
set_option linter.unusedVariables false
set_option linter.unusedSimpArgs false

/-! ### spec_PacketGet: function 24 -/
def spec_PacketGet.f (k : Nat) (a0 : ByteArray) (a1 : Int) : Option (Bool × Int × Int × ByteArray × Int) := (spec_l1In.f a1 0 (wrap64 ((a0.size : Int) - 7))).bind fun t147 => (if t147 = true then ((spec_l1Get.f k a0 a1 2).bind fun t148 => ((spec_l1Get.f k a0 (wrap64 (a1 + 4)) 2).bind fun t149 => (if (wrap64 (t149 + 7)) > (wrap64 ((a0.size : Int) - a1)) then (some (false, 0, 0, (⟨#[]⟩ : ByteArray), 0)) else ((spec_l1Get.f k a0 (wrap64 (a1 + 2)) 2).bind fun t150 => (if 0 ≤ (wrap64 (a1 + 6)) then (if (wrap64 (a1 + 6)) ≤ (wrap64 (a1 + (wrap64 (t149 + 7)))) then (if (wrap64 (a1 + (wrap64 (t149 + 7)))) ≤ (a0.size : Int) then ((spec_PacketPut.f k ((Int.tmod (wrap64 (Int.tdiv t148 4096)) 2) == 1) (Int.tmod t148 2048) (Int.tmod t150 16384) (a0.extract ((wrap64 (a1 + 6)) : Int).toNat ((wrap64 (a1 + (wrap64 (t149 + 7)))) : Int).toNat)).bind fun t152 => (if 0 ≤ a1 then (if a1 ≤ (wrap64 (a1 + (wrap64 (t149 + 7)))) then (if t152.toList = (a0.extract (a1 : Int).toNat ((wrap64 (a1 + (wrap64 (t149 + 7)))) : Int).toNat).toList then (some (((Int.tmod (wrap64 (Int.tdiv t148 4096)) 2) == 1), Int.tmod t148 2048, Int.tmod t150 16384, a0.extract ((wrap64 (a1 + 6)) : Int).toNat ((wrap64 (a1 + (wrap64 (t149 + 7)))) : Int).toNat, wrap64 (t149 + 7))) else (some (false, 0, 0, (⟨#[]⟩ : ByteArray), 0))) else (none)) else (none))) else (none)) else (none)) else (none)))))) else (some (false, 0, 0, (⟨#[]⟩ : ByteArray), 0)))
theorem spec_PacketGet.mono : ∀ a0 a1 k, LeO (spec_PacketGet.f k a0 a1) (spec_PacketGet.f (k + 1) a0 a1) := by
 intro a0 a1 k
 unfold spec_PacketGet.f
 repeat' first
   | (with_reducible exact spec_PacketPut.mono _ _ _ _ _)
   | (with_reducible exact spec_l1Get.mono _ _ _ _)
   | (with_reducible exact LeO.refl _)
   | (with_reducible exact LeO.none _)
   | (with_reducible refine LeO.ite ?_ ?_)
   | (with_reducible refine LeO.bind ?_ (fun _ => ?_))
   | exact spec_PacketPut.mono _ _ _ _ _
   | exact spec_l1Get.mono _ _ _ _
   | exact LeO.none _
   | refine LeO.ite ?_ ?_
   | refine LeO.bind ?_ (fun _ => ?_)
def spec_PacketGet.T7 : Bool × List (List Nat × List Nat) := (true, [([], []), ([0], [0]), ([1], [1]), ([2], [2]), ([], []), ([4], [4]), ([], []), ([], []), ([7], [7]), ([6, 8], [6, 8]), ([9], [9]), ([], []), ([], []), ([12], [12]), ([], []), ([], []), ([14, 15], [14, 15]), ([11, 13, 16], [11, 13, 16]), ([3, 5, 10, 17], [3, 5, 10, 17]), ([], []), ([19, 18, 9, 0, 1, 2, 3, 4, 5, 6, 7, 8, 9, 10, 11, 12, 13, 14, 15, 16, 17, 18, 19], [18, 19])])
def spec_PacketGet.B7 : List Nat := [0, 1, 3, 7, 0, 16, 0, 0, 128, 448, 960, 0, 0, 4096, 0, 0, 49152, 129024, 262143, 0, 1048575]
theorem spec_PacketGet.tab7 : rtab .any (opsOf Tryd.f24 7) = spec_PacketGet.T7 := by kernel_rfl
theorem spec_PacketGet.bits7 : waitsOk spec_PacketGet.T7.2 spec_PacketGet.B7 = true := by kernel_rfl
def spec_PacketGet.T8 : Bool × List (List Nat × List Nat) := (true, [([], []), ([0], [0]), ([], []), ([], []), ([], []), ([], []), ([4, 5], [4, 5]), ([2, 3, 6], [2, 3, 6]), ([1, 7], [1, 7])])
def spec_PacketGet.B8 : List Nat := [0, 1, 0, 0, 0, 0, 48, 124, 255]
theorem spec_PacketGet.tab8 : rtab .any (opsOf Tryd.f24 8) = spec_PacketGet.T8 := by kernel_rfl
theorem spec_PacketGet.bits8 : waitsOk spec_PacketGet.T8.2 spec_PacketGet.B8 = true := by kernel_rfl
set_option maxHeartbeats 8000000 in
set_option maxRecDepth 100000 in
theorem spec_PacketGet.calls (k : Nat) (a0 : ByteArray) (a1 : Int) (r1 : Bool) (r2 : Int) (r3 : Int) (r4 : ByteArray) (r5 : Int) (w : World) (h : spec_PacketGet.f k a0 a1 = some (r1, r2, r3, r4, r5)) :
  Calls Tryd.prog 24 #[.string a0, .int .i64 a1] w fun e w' => e = .returned (.tuple #[.agg #[.bool r1, .int .i64 r2, .int .i64 r3, .string r4], .int .i64 r5]) ∧ Below w.heap.size w w' := by
 have hu53 := Tryd.underlying53
 have HB := m_ (Below.refl w.heap.size w)
 have H : ((spec_l1In.f a1 0 (wrap64 ((a0.size : Int) - 7))).bind fun t147 => (if t147 = true then ((spec_l1Get.f k a0 a1 2).bind fun t148 => ((spec_l1Get.f k a0 (wrap64 (a1 + 4)) 2).bind fun t149 => (if (wrap64 (t149 + 7)) > (wrap64 ((a0.size : Int) - a1)) then (some (false, 0, 0, (⟨#[]⟩ : ByteArray), 0)) else ((spec_l1Get.f k a0 (wrap64 (a1 + 2)) 2).bind fun t150 => (if 0 ≤ (wrap64 (a1 + 6)) then (if (wrap64 (a1 + 6)) ≤ (wrap64 (a1 + (wrap64 (t149 + 7)))) then (if (wrap64 (a1 + (wrap64 (t149 + 7)))) ≤ (a0.size : Int) then ((spec_PacketPut.f k ((Int.tmod (wrap64 (Int.tdiv t148 4096)) 2) == 1) (Int.tmod t148 2048) (Int.tmod t150 16384) (a0.extract ((wrap64 (a1 + 6)) : Int).toNat ((wrap64 (a1 + (wrap64 (t149 + 7)))) : Int).toNat)).bind fun t152 => (if 0 ≤ a1 then (if a1 ≤ (wrap64 (a1 + (wrap64 (t149 + 7)))) then (if t152.toList = (a0.extract (a1 : Int).toNat ((wrap64 (a1 + (wrap64 (t149 + 7)))) : Int).toNat).toList then (some (((Int.tmod (wrap64 (Int.tdiv t148 4096)) 2) == 1), Int.tmod t148 2048, Int.tmod t150 16384, a0.extract ((wrap64 (a1 + 6)) : Int).toNat ((wrap64 (a1 + (wrap64 (t149 + 7)))) : Int).toNat, wrap64 (t149 + 7))) else (some (false, 0, 0, (⟨#[]⟩ : ByteArray), 0))) else (none)) else (none))) else (none)) else (none)) else (none)))))) else (some (false, 0, 0, (⟨#[]⟩ : ByteArray), 0)))) = some (r1, r2, r3, r4, r5) := h
 clear h
 replace H := Option.bind_eq_some_iff.mp H
 obtain ⟨t147, A30, H⟩ := H
 replace H : (if t147 = true then ((spec_l1Get.f k a0 a1 2).bind fun t148 => ((spec_l1Get.f k a0 (wrap64 (a1 + 4)) 2).bind fun t149 => (if (wrap64 (t149 + 7)) > (wrap64 ((a0.size : Int) - a1)) then (some (false, 0, 0, (⟨#[]⟩ : ByteArray), 0)) else ((spec_l1Get.f k a0 (wrap64 (a1 + 2)) 2).bind fun t150 => (if 0 ≤ (wrap64 (a1 + 6)) then (if (wrap64 (a1 + 6)) ≤ (wrap64 (a1 + (wrap64 (t149 + 7)))) then (if (wrap64 (a1 + (wrap64 (t149 + 7)))) ≤ (a0.size : Int) then ((spec_PacketPut.f k ((Int.tmod (wrap64 (Int.tdiv t148 4096)) 2) == 1) (Int.tmod t148 2048) (Int.tmod t150 16384) (a0.extract ((wrap64 (a1 + 6)) : Int).toNat ((wrap64 (a1 + (wrap64 (t149 + 7)))) : Int).toNat)).bind fun t152 => (if 0 ≤ a1 then (if a1 ≤ (wrap64 (a1 + (wrap64 (t149 + 7)))) then (if t152.toList = (a0.extract (a1 : Int).toNat ((wrap64 (a1 + (wrap64 (t149 + 7)))) : Int).toNat).toList then (some (((Int.tmod (wrap64 (Int.tdiv t148 4096)) 2) == 1), Int.tmod t148 2048, Int.tmod t150 16384, a0.extract ((wrap64 (a1 + 6)) : Int).toNat ((wrap64 (a1 + (wrap64 (t149 + 7)))) : Int).toNat, wrap64 (t149 + 7))) else (some (false, 0, 0, (⟨#[]⟩ : ByteArray), 0))) else (none)) else (none))) else (none)) else (none)) else (none)))))) else (some (false, 0, 0, (⟨#[]⟩ : ByteArray), 0))) = some (r1, r2, r3, r4, r5) := H
 have A3 := Aside0.mk A30
 clear A30
 by_cases c4 : t147 = true
 ·subst c4
  have H1 : ((spec_l1Get.f k a0 a1 2).bind fun t148 => ((spec_l1Get.f k a0 (wrap64 (a1 + 4)) 2).bind fun t149 => (if (wrap64 (t149 + 7)) > (wrap64 ((a0.size : Int) - a1)) then (some (false, 0, 0, (⟨#[]⟩ : ByteArray), 0)) else ((spec_l1Get.f k a0 (wrap64 (a1 + 2)) 2).bind fun t150 => (if 0 ≤ (wrap64 (a1 + 6)) then (if (wrap64 (a1 + 6)) ≤ (wrap64 (a1 + (wrap64 (t149 + 7)))) then (if (wrap64 (a1 + (wrap64 (t149 + 7)))) ≤ (a0.size : Int) then ((spec_PacketPut.f k ((Int.tmod (wrap64 (Int.tdiv t148 4096)) 2) == 1) (Int.tmod t148 2048) (Int.tmod t150 16384) (a0.extract ((wrap64 (a1 + 6)) : Int).toNat ((wrap64 (a1 + (wrap64 (t149 + 7)))) : Int).toNat)).bind fun t152 => (if 0 ≤ a1 then (if a1 ≤ (wrap64 (a1 + (wrap64 (t149 + 7)))) then (if t152.toList = (a0.extract (a1 : Int).toNat ((wrap64 (a1 + (wrap64 (t149 + 7)))) : Int).toNat).toList then (some (((Int.tmod (wrap64 (Int.tdiv t148 4096)) 2) == 1), Int.tmod t148 2048, Int.tmod t150 16384, a0.extract ((wrap64 (a1 + 6)) : Int).toNat ((wrap64 (a1 + (wrap64 (t149 + 7)))) : Int).toNat, wrap64 (t149 + 7))) else (some (false, 0, 0, (⟨#[]⟩ : ByteArray), 0))) else (none)) else (none))) else (none)) else (none)) else (none)))))) = some (r1, r2, r3, r4, r5) := by rw [if_pos rfl] at H; exact H
  clear H
  have H := H1
  clear H1
  replace H := Option.bind_eq_some_iff.mp H
  obtain ⟨t148, A50, H⟩ := H
  replace H : ((spec_l1Get.f k a0 (wrap64 (a1 + 4)) 2).bind fun t149 => (if (wrap64 (t149 + 7)) > (wrap64 ((a0.size : Int) - a1)) then (some (false, 0, 0, (⟨#[]⟩ : ByteArray), 0)) else ((spec_l1Get.f k a0 (wrap64 (a1 + 2)) 2).bind fun t150 => (if 0 ≤ (wrap64 (a1 + 6)) then (if (wrap64 (a1 + 6)) ≤ (wrap64 (a1 + (wrap64 (t149 + 7)))) then (if (wrap64 (a1 + (wrap64 (t149 + 7)))) ≤ (a0.size : Int) then ((spec_PacketPut.f k ((Int.tmod (wrap64 (Int.tdiv t148 4096)) 2) == 1) (Int.tmod t148 2048) (Int.tmod t150 16384) (a0.extract ((wrap64 (a1 + 6)) : Int).toNat ((wrap64 (a1 + (wrap64 (t149 + 7)))) : Int).toNat)).bind fun t152 => (if 0 ≤ a1 then (if a1 ≤ (wrap64 (a1 + (wrap64 (t149 + 7)))) then (if t152.toList = (a0.extract (a1 : Int).toNat ((wrap64 (a1 + (wrap64 (t149 + 7)))) : Int).toNat).toList then (some (((Int.tmod (wrap64 (Int.tdiv t148 4096)) 2) == 1), Int.tmod t148 2048, Int.tmod t150 16384, a0.extract ((wrap64 (a1 + 6)) : Int).toNat ((wrap64 (a1 + (wrap64 (t149 + 7)))) : Int).toNat, wrap64 (t149 + 7))) else (some (false, 0, 0, (⟨#[]⟩ : ByteArray), 0))) else (none)) else (none))) else (none)) else (none)) else (none))))) = some (r1, r2, r3, r4, r5) := H
  have A5 := Aside0.mk A50
  clear A50
  replace H := Option.bind_eq_some_iff.mp H
  obtain ⟨t149, A60, H⟩ := H
  replace H : (if (wrap64 (t149 + 7)) > (wrap64 ((a0.size : Int) - a1)) then (some (false, 0, 0, (⟨#[]⟩ : ByteArray), 0)) else ((spec_l1Get.f k a0 (wrap64 (a1 + 2)) 2).bind fun t150 => (if 0 ≤ (wrap64 (a1 + 6)) then (if (wrap64 (a1 + 6)) ≤ (wrap64 (a1 + (wrap64 (t149 + 7)))) then (if (wrap64 (a1 + (wrap64 (t149 + 7)))) ≤ (a0.size : Int) then ((spec_PacketPut.f k ((Int.tmod (wrap64 (Int.tdiv t148 4096)) 2) == 1) (Int.tmod t148 2048) (Int.tmod t150 16384) (a0.extract ((wrap64 (a1 + 6)) : Int).toNat ((wrap64 (a1 + (wrap64 (t149 + 7)))) : Int).toNat)).bind fun t152 => (if 0 ≤ a1 then (if a1 ≤ (wrap64 (a1 + (wrap64 (t149 + 7)))) then (if t152.toList = (a0.extract (a1 : Int).toNat ((wrap64 (a1 + (wrap64 (t149 + 7)))) : Int).toNat).toList then (some (((Int.tmod (wrap64 (Int.tdiv t148 4096)) 2) == 1), Int.tmod t148 2048, Int.tmod t150 16384, a0.extract ((wrap64 (a1 + 6)) : Int).toNat ((wrap64 (a1 + (wrap64 (t149 + 7)))) : Int).toNat, wrap64 (t149 + 7))) else (some (false, 0, 0, (⟨#[]⟩ : ByteArray), 0))) else (none)) else (none))) else (none)) else (none)) else (none)))) = some (r1, r2, r3, r4, r5) := H
  have A6 := Aside0.mk A60
  clear A60
  by_cases c7 : (wrap64 (t149 + 7)) > (wrap64 ((a0.size : Int) - a1))
  ·rw [if_pos c7] at H
   have c7b0 : decide ((wrap64 ((a0.size : Int) - a1)) < (wrap64 (t149 + 7))) = true := decide_eq_true c7
   clear c7
   simp only [Option.some.injEq, Prod.mk.injEq] at H
   obtain ⟨rfl, rfl, rfl, rfl, rfl⟩ := H
   go_enter Tryd.func24, Tryd.ntmps24
   go_wp2_with (first | ((with_reducible refine gate_dst (N := 4) rfl ?_); refine box_event ?hg (N := 4) ?hd (cs := #[.bool false, .int .i64 0, .int .i64 0, .string (⟨#[]⟩ : ByteArray)]) (t := 53) ?hr ?_; (case hd => rfl); (case hg => rfl); (case hr => first | (go_simp; done) | (go_simp; rfl)); intro gb146 hg w8 hbox hb; have n0_ := m_ (below_step (bN HB.out) hb); have n1_ := m_ (hbox); have n2_ := m_ ((by rw [hg]; exact (below_size (bN HB.out)) : w.heap.size ≤ gb146)); have n3_ := m_ ((by rw [hg]; exact (below_size (bN HB.out)) : w.heap.size ≤ gb146)); clear HB; have HB := n0_; have BK146 := n1_; have GW146 := n2_; have GE146 := n3_; clear n0_ n1_ n2_ n3_; clear hb hbox hg) | ((with_reducible refine gate_callee (f := 21) rfl ?_); refine goesL_ (some 13) rfl rfl Tryd.func21 (by kernel_rfl) rfl #[.int .i64 a1, .int .i64 0, .int .i64 (wrap64 ((a0.size : Int) - 7))] rfl gl_ ?_; (with_reducible refine (spec_l1In.calls a1 0 (wrap64 ((a0.size : Int) - 7)) true _ A3.out).mono ?_); rintro e w' ⟨rfl, ⟨nd, rfl⟩⟩; refine ⟨_, rfl, ?_⟩; (try (rw [drewN_self w8]; generalize hq_ : World.drewN w8 _ = w8; have n0_ : Aside0 (w8.heap[gb146]? = some (.cells #[.bool false, .int .i64 0, .int .i64 0, .string (⟨#[]⟩ : ByteArray)] 53 (0, 0))) := ⟨by rw [← hq_]; exact (kN BK146.out)⟩; have n1_ : Aside0 (Below w.heap.size w w8) := ⟨by rw [← hq_]; exact (bN HB.out)⟩; clear BK146 HB hq_; have BK146 := n0_; have HB := n1_; clear n0_ n1_))) | ((with_reducible refine gate_callee (f := 23) rfl ?_); refine goesL_ (some 18) rfl rfl Tryd.func23 (by kernel_rfl) rfl #[.string a0, .int .i64 a1, .int .i64 2] rfl gl_ ?_; (with_reducible refine (spec_l1Get.calls k a0 a1 2 t148 _ A5.out).mono ?_); rintro e w' ⟨rfl, ⟨nd, rfl⟩⟩; refine ⟨_, rfl, ?_⟩; (try (rw [drewN_self w8]; generalize hq_ : World.drewN w8 _ = w8; have n0_ : Aside0 (w8.heap[gb146]? = some (.cells #[.bool false, .int .i64 0, .int .i64 0, .string (⟨#[]⟩ : ByteArray)] 53 (0, 0))) := ⟨by rw [← hq_]; exact (kN BK146.out)⟩; have n1_ : Aside0 (Below w.heap.size w w8) := ⟨by rw [← hq_]; exact (bN HB.out)⟩; clear BK146 HB hq_; have BK146 := n0_; have HB := n1_; clear n0_ n1_))) | ((with_reducible refine gate_callee (f := 23) rfl ?_); refine goesL_ (some 22) rfl rfl Tryd.func23 (by kernel_rfl) rfl #[.string a0, .int .i64 (wrap64 (a1 + 4)), .int .i64 2] rfl gl_ ?_; (with_reducible refine (spec_l1Get.calls k a0 (wrap64 (a1 + 4)) 2 t149 _ A6.out).mono ?_); rintro e w' ⟨rfl, ⟨nd, rfl⟩⟩; refine ⟨_, rfl, ?_⟩; (try (rw [drewN_self w8]; generalize hq_ : World.drewN w8 _ = w8; have n0_ : Aside0 (w8.heap[gb146]? = some (.cells #[.bool false, .int .i64 0, .int .i64 0, .string (⟨#[]⟩ : ByteArray)] 53 (0, 0))) := ⟨by rw [← hq_]; exact (kN BK146.out)⟩; have n1_ : Aside0 (Below w.heap.size w w8) := ⟨by rw [← hq_]; exact (bN HB.out)⟩; clear BK146 HB hq_; have BK146 := n0_; have HB := n1_; clear n0_ n1_)); have hcz9_0 : w8.cell? ⟨gb146, 0, none⟩ = some (.bool false) := bc BK146 0; have hcz9_1 : w8.cell? ⟨gb146, 1, none⟩ = some (.int .i64 0) := bc BK146 1; have hcz9_2 : w8.cell? ⟨gb146, 2, none⟩ = some (.int .i64 0) := bc BK146 2; have hcz9_3 : w8.cell? ⟨gb146, 3, none⟩ = some (.string (⟨#[]⟩ : ByteArray)) := bc BK146 3; have hfz9_0 := blk_frozen BK146.out 0; have hfz9_1 := blk_frozen BK146.out 1; have hfz9_2 := blk_frozen BK146.out 2; have hfz9_3 := blk_frozen BK146.out 3))
   refine bodyPost_ret (results_ct rfl _ _ gb146 53 #[.bool false, .int .i64 0, .int .i64 0, .string (⟨#[]⟩ : ByteArray)] (0, 0) _ rfl (kP BK146.out) Tryd.underlying53 rfl (by kernel_rfl)) rfl ?_
   exact ⟨by first | rfl | (simp [errW_none, errW_some] <;> rfl) | (simp [*, errW_none, errW_some] <;> rfl), by repeat (first | (with_reducible first | exact HB.out | apply below_alloc | apply pw_below_drewN | apply below_drew1 | refine below_set ?_ GE146.out) | exact HB.out)⟩
  ·rw [if_neg c7] at H
   have c7b0 : decide ((wrap64 ((a0.size : Int) - a1)) < (wrap64 (t149 + 7))) = false := decide_eq_false c7
   clear c7
   replace H := Option.bind_eq_some_iff.mp H
   obtain ⟨t150, A100, H⟩ := H
   replace H : (if 0 ≤ (wrap64 (a1 + 6)) then (if (wrap64 (a1 + 6)) ≤ (wrap64 (a1 + (wrap64 (t149 + 7)))) then (if (wrap64 (a1 + (wrap64 (t149 + 7)))) ≤ (a0.size : Int) then ((spec_PacketPut.f k ((Int.tmod (wrap64 (Int.tdiv t148 4096)) 2) == 1) (Int.tmod t148 2048) (Int.tmod t150 16384) (a0.extract ((wrap64 (a1 + 6)) : Int).toNat ((wrap64 (a1 + (wrap64 (t149 + 7)))) : Int).toNat)).bind fun t152 => (if 0 ≤ a1 then (if a1 ≤ (wrap64 (a1 + (wrap64 (t149 + 7)))) then (if t152.toList = (a0.extract (a1 : Int).toNat ((wrap64 (a1 + (wrap64 (t149 + 7)))) : Int).toNat).toList then (some (((Int.tmod (wrap64 (Int.tdiv t148 4096)) 2) == 1), Int.tmod t148 2048, Int.tmod t150 16384, a0.extract ((wrap64 (a1 + 6)) : Int).toNat ((wrap64 (a1 + (wrap64 (t149 + 7)))) : Int).toNat, wrap64 (t149 + 7))) else (some (false, 0, 0, (⟨#[]⟩ : ByteArray), 0))) else (none)) else (none))) else (none)) else (none)) else (none)) = some (r1, r2, r3, r4, r5) := H
   have A10 := Aside0.mk A100
   clear A100
   obtain ⟨ji11, hji11⟩ : ∃ j_ : Int, (wrap64 (a1 + 6)) = j_ := ⟨_, rfl⟩
   replace H : (if 0 ≤ (ji11) then (if (ji11) ≤ (wrap64 (a1 + (wrap64 (t149 + 7)))) then (if (wrap64 (a1 + (wrap64 (t149 + 7)))) ≤ (a0.size : Int) then ((spec_PacketPut.f k ((Int.tmod (wrap64 (Int.tdiv t148 4096)) 2) == 1) (Int.tmod t148 2048) (Int.tmod t150 16384) (a0.extract ((ji11) : Int).toNat ((wrap64 (a1 + (wrap64 (t149 + 7)))) : Int).toNat)).bind fun t152 => (if 0 ≤ a1 then (if a1 ≤ (wrap64 (a1 + (wrap64 (t149 + 7)))) then (if t152.toList = (a0.extract (a1 : Int).toNat ((wrap64 (a1 + (wrap64 (t149 + 7)))) : Int).toNat).toList then (some (((Int.tmod (wrap64 (Int.tdiv t148 4096)) 2) == 1), Int.tmod t148 2048, Int.tmod t150 16384, a0.extract ((ji11) : Int).toNat ((wrap64 (a1 + (wrap64 (t149 + 7)))) : Int).toNat, wrap64 (t149 + 7))) else (some (false, 0, 0, (⟨#[]⟩ : ByteArray), 0))) else (none)) else (none))) else (none)) else (none)) else (none)) = some (r1, r2, r3, r4, r5) := by first | (rw [hji11] at H; exact H) | (simp only [hji11] at H ⊢; exact H)
   (try rw [hji11] at A3)
   (try rw [hji11] at A5)
   (try rw [hji11] at A6)
   (try rw [hji11] at A10)
   have hji11w : (IntKind.i64.wrap (a1 + 6)) = ji11 := (i64_w _).trans hji11
   by_cases c12 : 0 ≤ (ji11)
   ·rw [if_pos c12] at H
    have c12b0 := eq_true c12
    have c12b1 : decide (0 ≤ (ji11)) = true := decide_eq_true c12
    clear c12
    by_cases c13 : (ji11) ≤ (wrap64 (a1 + (wrap64 (t149 + 7))))
    ·rw [if_pos c13] at H
     have c13b0 := eq_true c13
     have c13b1 : decide ((ji11) ≤ (wrap64 (a1 + (wrap64 (t149 + 7))))) = true := decide_eq_true c13
     by_cases c14 : (wrap64 (a1 + (wrap64 (t149 + 7)))) ≤ (a0.size : Int)
     ·rw [if_pos c14] at H
      have c14b0 := eq_true c14
      have c14b1 : decide ((wrap64 (a1 + (wrap64 (t149 + 7)))) ≤ (a0.size : Int)) = true := decide_eq_true c14
      replace H := Option.bind_eq_some_iff.mp H
      obtain ⟨t152, A150, H⟩ := H
      replace H : (if 0 ≤ a1 then (if a1 ≤ (wrap64 (a1 + (wrap64 (t149 + 7)))) then (if t152.toList = (a0.extract (a1 : Int).toNat ((wrap64 (a1 + (wrap64 (t149 + 7)))) : Int).toNat).toList then (some (((Int.tmod (wrap64 (Int.tdiv t148 4096)) 2) == 1), Int.tmod t148 2048, Int.tmod t150 16384, a0.extract ((ji11) : Int).toNat ((wrap64 (a1 + (wrap64 (t149 + 7)))) : Int).toNat, wrap64 (t149 + 7))) else (some (false, 0, 0, (⟨#[]⟩ : ByteArray), 0))) else (none)) else (none)) = some (r1, r2, r3, r4, r5) := H
      have A15 := Aside0.mk A150
      clear A150
      by_cases c16 : 0 ≤ a1
      ·rw [if_pos c16] at H
       have c16b0 := eq_true c16
       have c16b1 : decide (0 ≤ a1) = true := decide_eq_true c16
       clear c16
       by_cases c17 : a1 ≤ (wrap64 (a1 + (wrap64 (t149 + 7))))
       ·rw [if_pos c17] at H
        have c17b0 := eq_true c17
        have c17b1 : decide (a1 ≤ (wrap64 (a1 + (wrap64 (t149 + 7))))) = true := decide_eq_true c17
        have c18b0 := eq_true (of_decide_eq_true (by first | (with_reducible assumption) | assumption) : (wrap64 (a1 + (wrap64 (t149 + 7)))) ≤ (a0.size : Int))
        by_cases c19 : t152.toList = (a0.extract (a1 : Int).toNat ((wrap64 (a1 + (wrap64 (t149 + 7)))) : Int).toNat).toList
        ·rw [if_pos c19] at H
         have c19b0 : (t152.toList == (a0.extract (a1 : Int).toNat ((wrap64 (a1 + (wrap64 (t149 + 7)))) : Int).toNat).toList) = true := beq_iff_eq.mpr c19
         have c19b1 : (t152.toList != (a0.extract (a1 : Int).toNat ((wrap64 (a1 + (wrap64 (t149 + 7)))) : Int).toNat).toList) = false := bne_eq_false_iff_eq.mpr c19
         clear c19
         simp only [Option.some.injEq, Prod.mk.injEq] at H
         obtain ⟨rfl, rfl, rfl, rfl, rfl⟩ := H
         go_enter Tryd.func24, Tryd.ntmps24
         try go_wp2_with (first | ((with_reducible refine gate_dst (N := 4) rfl ?_); refine box_event ?hg (N := 4) ?hd (cs := #[.bool false, .int .i64 0, .int .i64 0, .string (⟨#[]⟩ : ByteArray)]) (t := 53) ?hr ?_; (case hd => rfl); (case hg => rfl); (case hr => first | (go_simp; done) | (go_simp; rfl)); intro gb146 hg w20 hbox hb; have n0_ := m_ (below_step (bN HB.out) hb); have n1_ := m_ (hbox); have n2_ := m_ ((by rw [hg]; exact (below_size (bN HB.out)) : w.heap.size ≤ gb146)); have n3_ := m_ ((by rw [hg]; exact (below_size (bN HB.out)) : w.heap.size ≤ gb146)); clear HB; have HB := n0_; have BK146 := n1_; have GW146 := n2_; have GE146 := n3_; clear n0_ n1_ n2_ n3_; clear hb hbox hg) | ((with_reducible refine gate_callee (f := 21) rfl ?_); refine goesL_ (some 13) rfl rfl Tryd.func21 (by kernel_rfl) rfl #[.int .i64 a1, .int .i64 0, .int .i64 (wrap64 ((a0.size : Int) - 7))] rfl gl_ ?_; (with_reducible refine (spec_l1In.calls a1 0 (wrap64 ((a0.size : Int) - 7)) true _ A3.out).mono ?_); rintro e w' ⟨rfl, ⟨nd, rfl⟩⟩; refine ⟨_, rfl, ?_⟩; (try (rw [drewN_self w20]; generalize hq_ : World.drewN w20 _ = w20; have n0_ : Aside0 (w20.heap[gb146]? = some (.cells #[.bool false, .int .i64 0, .int .i64 0, .string (⟨#[]⟩ : ByteArray)] 53 (0, 0))) := ⟨by rw [← hq_]; exact (kN BK146.out)⟩; have n1_ : Aside0 (Below w.heap.size w w20) := ⟨by rw [← hq_]; exact (bN HB.out)⟩; clear BK146 HB hq_; have BK146 := n0_; have HB := n1_; clear n0_ n1_))) | ((with_reducible refine gate_callee (f := 23) rfl ?_); refine goesL_ (some 18) rfl rfl Tryd.func23 (by kernel_rfl) rfl #[.string a0, .int .i64 a1, .int .i64 2] rfl gl_ ?_; (with_reducible refine (spec_l1Get.calls k a0 a1 2 t148 _ A5.out).mono ?_); rintro e w' ⟨rfl, ⟨nd, rfl⟩⟩; refine ⟨_, rfl, ?_⟩; (try (rw [drewN_self w20]; generalize hq_ : World.drewN w20 _ = w20; have n0_ : Aside0 (w20.heap[gb146]? = some (.cells #[.bool false, .int .i64 0, .int .i64 0, .string (⟨#[]⟩ : ByteArray)] 53 (0, 0))) := ⟨by rw [← hq_]; exact (kN BK146.out)⟩; have n1_ : Aside0 (Below w.heap.size w w20) := ⟨by rw [← hq_]; exact (bN HB.out)⟩; clear BK146 HB hq_; have BK146 := n0_; have HB := n1_; clear n0_ n1_))) | ((with_reducible refine gate_callee (f := 23) rfl ?_); refine goesL_ (some 22) rfl rfl Tryd.func23 (by kernel_rfl) rfl #[.string a0, .int .i64 (wrap64 (a1 + 4)), .int .i64 2] rfl gl_ ?_; (with_reducible refine (spec_l1Get.calls k a0 (wrap64 (a1 + 4)) 2 t149 _ A6.out).mono ?_); rintro e w' ⟨rfl, ⟨nd, rfl⟩⟩; refine ⟨_, rfl, ?_⟩; (try (rw [drewN_self w20]; generalize hq_ : World.drewN w20 _ = w20; have n0_ : Aside0 (w20.heap[gb146]? = some (.cells #[.bool false, .int .i64 0, .int .i64 0, .string (⟨#[]⟩ : ByteArray)] 53 (0, 0))) := ⟨by rw [← hq_]; exact (kN BK146.out)⟩; have n1_ : Aside0 (Below w.heap.size w w20) := ⟨by rw [← hq_]; exact (bN HB.out)⟩; clear BK146 HB hq_; have BK146 := n0_; have HB := n1_; clear n0_ n1_))))
         have n0_ := m_ (blk_drew BK146.out)
         have n1_ := m_ (below_drew1 HB.out)
         clear BK146
         clear HB
         have BK146 := n0_
         have HB := n1_
         clear n0_ n1_
         refine start_ (n := 21) (S := fun w' => True) (ds := []) #[false, false, false, false, false, false, false, false, false, false, false, false, false, false, false, false, false, false, false, false, false] (by kernel_rfl) rfl rfl trivial (fun hHeld => ?_); refine with_tabW spec_PacketGet.tab7 spec_PacketGet.bits7 (fun HT_ HW_ => ?_)
         generalize w20.drew = w21 at BK146 HB hHeld ⊢
         refine pu 0 31 HT_ (h := ?_)
         refine pu 1 32 HT_ (h := ?_)
         refine pu 2 33 HT_ (h := ?_)
         refine pu 3 34 HT_ (h := ?_)
         refine pu 4 35 HT_ (h := ?_)
         refine pu 5 36 HT_ (h := ?_)
         refine pu 6 37 HT_ (h := ?_)
         refine pu 7 38 HT_ (h := ?_)
         refine pu 8 39 HT_ (h := ?_)
         refine pu 11 42 HT_ (h := ?_)
         refine pu 12 43 HT_ (h := ?_)
         refine pu 13 44 HT_ (h := ?_)
         refine pu 14 45 HT_ (h := ?_)
         refine pu 15 46 HT_ (h := ?_)
         refine pu 16 47 HT_ (h := ?_)
         refine pu 17 48 HT_ (h := ?_)
         refine join_ (σ := Nat) 1 #[true, true, true, true, true, true, true, true, true, true, true, true, true, true, true, true, true, true, true, true, false] (fun s_ => [(40, .int .i64 t150), (8, .pointer (some ⟨s_, 0, none⟩)), (41, .int .i64 (Int.tmod t150 16384)), (49, .agg #[.bool ((Int.tmod (wrap64 (Int.tdiv t148 4096)) 2) == 1), .int .i64 (Int.tmod t148 2048), .int .i64 (Int.tmod t150 16384), .string (a0.extract ((ji11) : Int).toNat ((wrap64 (a1 + (wrap64 (t149 + 7)))) : Int).toNat)])]) (fun s_ w' => (w'.heap[gb146]? = some (.cells #[.bool false, .int .i64 0, .int .i64 0, .string (⟨#[]⟩ : ByteArray)] 53 (0, 0))) ∧ (w'.heap[s_]? = some (.cells #[.bool false, .int .i64 0, .int .i64 0, .string (⟨#[]⟩ : ByteArray)] 53 (0, 0))) ∧ (w.heap.size ≤ s_) ∧ (w.heap.size ≤ s_) ∧ (gb146 ≠ s_) ∧ (s_ ≠ gb146) ∧ (Below w.heap.size w w')) ?_ ?_
         rotate_left
         ·intro hCont
          refine two_ (i := 9) (j := 19) (Ni := some 40) (Nj := some 8) #[true, true, true, true, true, true, true, true, true, true, false, true, true, true, true, true, true, true, false, false, false] #[true, true, true, true, true, true, true, true, true, false, false, true, true, true, true, true, true, true, false, true, false] rfl rfl rfl rfl (two_of HT_.out (by kernel_rfl)) (by decide) (by decide) (fun K hK => ?_) (fun K hK => ?_)
          ·skip
           refine goes_ Tryd.func23 (by kernel_rfl) rfl #[.string a0, .int .i64 (wrap64 (a1 + 2)), .int .i64 2] (by rfl) rfl rfl gl_ ?_
           with_reducible refine (spec_l1Get.calls k a0 (wrap64 (a1 + 2)) 2 t150 _ A10.out).mono ?_
           rintro e w' ⟨rfl, ⟨nd, rfl⟩⟩
           refine ⟨_, rfl, ?_⟩
           refine hK.out _ _ trivial (fun hHeld => ?_)
           clear hK K
           refine np (h := ?_)
           refine pu 10 41 HT_ (h := ?_)
           refine pu 18 49 HT_ (h := ?_)
           refine one_ (i := 19) (N := some 8) #[true, true, true, true, true, true, true, true, true, true, true, true, true, true, true, true, true, true, true, true, false] rfl rfl (one_of HT_.out (by kernel_rfl)) (by decide) (fun K hK => ?_)
           refine box_step ?hg (N := 8) ?hd (cs := #[.bool false, .int .i64 0, .int .i64 0, .string (⟨#[]⟩ : ByteArray)]) (t := 53) ?hr ?_; (case hd => rfl); (case hg => rfl); (case hr => first | (go_simp; done) | (go_simp; rfl))
           intro gb151 hg w22 hbox hb
           have n0_ := m_ (blk_below (g := gb146) (o := .cells #[.bool false, .int .i64 0, .int .i64 0, .string (⟨#[]⟩ : ByteArray)] 53 (0, 0)) (kN BK146.out) hb)
           have n1_ := m_ (below_step (bN HB.out) hb)
           have n2_ := m_ (hbox)
           have n3_ := m_ ((by rw [hg]; exact (below_size (bN HB.out)) : w.heap.size ≤ gb151))
           have n4_ := m_ ((by rw [hg]; exact (below_size (bN HB.out)) : w.heap.size ≤ gb151))
           have n5_ := m_ ((by rw [hg]; exact Nat.ne_of_lt (blk_lt (g := gb146) (o := .cells #[.bool false, .int .i64 0, .int .i64 0, .string (⟨#[]⟩ : ByteArray)] 53 (0, 0)) (kN BK146.out)) : gb146 ≠ gb151))
           have n6_ := m_ ((by rw [hg]; exact Nat.ne_of_gt (blk_lt (g := gb146) (o := .cells #[.bool false, .int .i64 0, .int .i64 0, .string (⟨#[]⟩ : ByteArray)] 53 (0, 0)) (kN BK146.out)) : gb151 ≠ gb146))
           clear BK146
           clear HB
           have BK146 := n0_
           have HB := n1_
           have BK151 := n2_
           have GW151 := n3_
           have GE151 := n4_
           have NB146_151 := n5_
           have NB151_146 := n6_
           clear n0_ n1_ n2_ n3_ n4_ n5_ n6_
           clear hb hbox hg
           refine hK.out _ _ trivial (fun hHeld => ?_)
           clear hK K
           refine np (h := ?_)
           exact nq (hCont (gb151) _ ⟨(kN BK146.out), (kN BK151.out), GW151.out, GE151.out, NB146_151.out, NB151_146.out, (bN HB.out)⟩)
          ·skip
           refine box_step ?hg (N := 8) ?hd (cs := #[.bool false, .int .i64 0, .int .i64 0, .string (⟨#[]⟩ : ByteArray)]) (t := 53) ?hr ?_; (case hd => rfl); (case hg => rfl); (case hr => first | (go_simp; done) | (go_simp; rfl))
           intro gb151 hg w22 hbox hb
           have n0_ := m_ (blk_below (g := gb146) (o := .cells #[.bool false, .int .i64 0, .int .i64 0, .string (⟨#[]⟩ : ByteArray)] 53 (0, 0)) (kN BK146.out) hb)
           have n1_ := m_ (below_step (bN HB.out) hb)
           have n2_ := m_ (hbox)
           have n3_ := m_ ((by rw [hg]; exact (below_size (bN HB.out)) : w.heap.size ≤ gb151))
           have n4_ := m_ ((by rw [hg]; exact (below_size (bN HB.out)) : w.heap.size ≤ gb151))
           have n5_ := m_ ((by rw [hg]; exact Nat.ne_of_lt (blk_lt (g := gb146) (o := .cells #[.bool false, .int .i64 0, .int .i64 0, .string (⟨#[]⟩ : ByteArray)] 53 (0, 0)) (kN BK146.out)) : gb146 ≠ gb151))
           have n6_ := m_ ((by rw [hg]; exact Nat.ne_of_gt (blk_lt (g := gb146) (o := .cells #[.bool false, .int .i64 0, .int .i64 0, .string (⟨#[]⟩ : ByteArray)] 53 (0, 0)) (kN BK146.out)) : gb151 ≠ gb146))
           clear BK146
           clear HB
           have BK146 := n0_
           have HB := n1_
           have BK151 := n2_
           have GW151 := n3_
           have GE151 := n4_
           have NB146_151 := n5_
           have NB151_146 := n6_
           clear n0_ n1_ n2_ n3_ n4_ n5_ n6_
           clear hb hbox hg
           refine hK.out _ _ trivial (fun hHeld => ?_)
           clear hK K
           refine np (h := ?_)
           refine one_ (i := 9) (N := some 40) #[true, true, true, true, true, true, true, true, true, true, false, true, true, true, true, true, true, true, false, true, false] rfl rfl (one_of HT_.out (by kernel_rfl)) (by decide) (fun K hK => ?_)
           refine goes_ Tryd.func23 (by kernel_rfl) rfl #[.string a0, .int .i64 (wrap64 (a1 + 2)), .int .i64 2] (by rfl) rfl rfl gl_ ?_
           with_reducible refine (spec_l1Get.calls k a0 (wrap64 (a1 + 2)) 2 t150 _ A10.out).mono ?_
           rintro e w' ⟨rfl, ⟨nd, rfl⟩⟩
           refine ⟨_, rfl, ?_⟩
           refine hK.out _ _ trivial (fun hHeld => ?_)
           clear hK K
           refine np (h := ?_)
           refine pu 10 41 HT_ (h := ?_)
           refine pu 18 49 HT_ (h := ?_)
           exact nq (hCont (gb151) _ ⟨(kN BK146.out), (kN BK151.out), GW151.out, GE151.out, NB146_151.out, NB151_146.out, (bN HB.out)⟩)
         rintro gb151 w23 ⟨h0_, h1_, h2_, h3_, h4_, h5_, h6_⟩
         have n0_ : Aside0 (w23.heap[gb146]? = some (.cells #[.bool false, .int .i64 0, .int .i64 0, .string (⟨#[]⟩ : ByteArray)] 53 (0, 0))) := ⟨h0_⟩
         have n1_ : Aside0 (w23.heap[gb151]? = some (.cells #[.bool false, .int .i64 0, .int .i64 0, .string (⟨#[]⟩ : ByteArray)] 53 (0, 0))) := ⟨h1_⟩
         have n2_ : Aside0 (w.heap.size ≤ gb151) := ⟨h2_⟩
         have n3_ : Aside0 (w.heap.size ≤ gb151) := ⟨h3_⟩
         have n4_ : Aside0 (gb146 ≠ gb151) := ⟨h4_⟩
         have n5_ : Aside0 (gb151 ≠ gb146) := ⟨h5_⟩
         have n6_ : Aside0 (Below w.heap.size w w23) := ⟨h6_⟩
         clear BK146
         clear HB
         clear h0_ h1_ h2_ h3_ h4_ h5_ h6_
         have BK146 := n0_
         have BK151 := n1_
         have GW151 := n2_
         have GE151 := n3_
         have NB146_151 := n4_
         have NB151_146 := n5_
         have HB := n6_
         clear n0_ n1_ n2_ n3_ n4_ n5_ n6_
         have hHeld := trivial
         refine norm_ (a' := ?_) ?_ ?_
         rotate_left
         ·simp only [putAll, Act.put, List.setIfInBounds_toArray, List.set_cons_zero, List.set_cons_succ]
          rfl
         refine one_ (i := 20) (N := none) #[true, true, true, true, true, true, true, true, true, true, true, true, true, true, true, true, true, true, true, true, true] rfl rfl (one_of HT_.out (by kernel_rfl)) (by decide) (fun K hK => ?_)
         have hs24 : w23.cell? ⟨gb151, 0, none⟩ = some (.bool false) := bc BK151 0
         have hfs24 := blk_frozen BK151.out 0
         have hns24_0 := NB146_151.out
         have hms24_0 := NB151_146.out
         have hs25 : w23.cell? ⟨gb151, 1, none⟩ = some (.int .i64 0) := bc BK151 1
         have hfs25 := blk_frozen BK151.out 1
         have hns25_0 := NB146_151.out
         have hms25_0 := NB151_146.out
         have hs26 : w23.cell? ⟨gb151, 2, none⟩ = some (.int .i64 0) := bc BK151 2
         have hfs26 := blk_frozen BK151.out 2
         have hns26_0 := NB146_151.out
         have hms26_0 := NB151_146.out
         have hs27 : w23.cell? ⟨gb151, 3, none⟩ = some (.string (⟨#[]⟩ : ByteArray)) := bc BK151 3
         have hfs27 := blk_frozen BK151.out 3
         have hns27_0 := NB146_151.out
         have hms27_0 := NB151_146.out
         refine skip_ (w1 := ?_) (by rfl) rfl ?_ ?_
         rotate_left
         ·go_simp
          rfl
         refine hK.out _ _ trivial (fun hHeld => ?_)
         clear hK K
         refine done_ (done_of HT_.out (by kernel_rfl)) ?_
         try go_wp2
         have n0_ : Aside0 (((((w23.setCell ⟨gb151, 0, none⟩ (.bool ((Int.tmod (wrap64 (Int.tdiv t148 4096)) 2) == 1))).setCell ⟨gb151, 1, none⟩ (.int .i64 (Int.tmod t148 2048))).setCell ⟨gb151, 2, none⟩ (.int .i64 (Int.tmod t150 16384))).setCell ⟨gb151, 3, none⟩ (.string (a0.extract ((ji11) : Int).toNat ((wrap64 (a1 + (wrap64 (t149 + 7)))) : Int).toNat))).heap[gb146]? = some (.cells #[.bool false, .int .i64 0, .int .i64 0, .string (⟨#[]⟩ : ByteArray)] 53 (0, 0))) := ⟨kF BK146.out NB146_151.out⟩
         have n1_ : Aside0 (((((w23.setCell ⟨gb151, 0, none⟩ (.bool ((Int.tmod (wrap64 (Int.tdiv t148 4096)) 2) == 1))).setCell ⟨gb151, 1, none⟩ (.int .i64 (Int.tmod t148 2048))).setCell ⟨gb151, 2, none⟩ (.int .i64 (Int.tmod t150 16384))).setCell ⟨gb151, 3, none⟩ (.string (a0.extract ((ji11) : Int).toNat ((wrap64 (a1 + (wrap64 (t149 + 7)))) : Int).toNat))).heap[gb151]? = some (.cells #[.bool ((Int.tmod (wrap64 (Int.tdiv t148 4096)) 2) == 1), .int .i64 (Int.tmod t148 2048), .int .i64 (Int.tmod t150 16384), .string (a0.extract ((ji11) : Int).toNat ((wrap64 (a1 + (wrap64 (t149 + 7)))) : Int).toNat)] 53 (0, 0))) := ⟨kP BK151.out⟩
         have n2_ : Aside0 (Below w.heap.size w ((((w23.setCell ⟨gb151, 0, none⟩ (.bool ((Int.tmod (wrap64 (Int.tdiv t148 4096)) 2) == 1))).setCell ⟨gb151, 1, none⟩ (.int .i64 (Int.tmod t148 2048))).setCell ⟨gb151, 2, none⟩ (.int .i64 (Int.tmod t150 16384))).setCell ⟨gb151, 3, none⟩ (.string (a0.extract ((ji11) : Int).toNat ((wrap64 (a1 + (wrap64 (t149 + 7)))) : Int).toNat)))) := ⟨by repeat (first | (with_reducible first | exact HB.out | apply below_alloc | apply pw_below_drewN | apply below_drew1 | refine below_set ?_ GE146.out | refine below_set ?_ GE151.out) | exact HB.out)⟩
         (try clear BK146)
         (try clear BK151)
         (try clear HB)
         generalize ((((w23.setCell ⟨gb151, 0, none⟩ (.bool ((Int.tmod (wrap64 (Int.tdiv t148 4096)) 2) == 1))).setCell ⟨gb151, 1, none⟩ (.int .i64 (Int.tmod t148 2048))).setCell ⟨gb151, 2, none⟩ (.int .i64 (Int.tmod t150 16384))).setCell ⟨gb151, 3, none⟩ (.string (a0.extract ((ji11) : Int).toNat ((wrap64 (a1 + (wrap64 (t149 + 7)))) : Int).toNat))) = w28 at n0_ n1_ n2_ ⊢
         have BK146 := n0_
         have BK151 := n1_
         have HB := n2_
         clear n0_ n1_ n2_
         have n0_ := m_ (blk_drew BK146.out)
         have n1_ := m_ (blk_drew BK151.out)
         have n2_ := m_ (below_drew1 HB.out)
         clear BK146
         clear BK151
         clear HB
         have BK146 := n0_
         have BK151 := n1_
         have HB := n2_
         clear n0_ n1_ n2_
         refine start_ (n := 9) (S := fun w' => w'.cell? ⟨gb151, 0, none⟩ = some (.bool ((Int.tmod (wrap64 (Int.tdiv t148 4096)) 2) == 1)) ∧ w'.cell? ⟨gb151, 1, none⟩ = some (.int .i64 (Int.tmod t148 2048)) ∧ w'.cell? ⟨gb151, 2, none⟩ = some (.int .i64 (Int.tmod t150 16384)) ∧ w'.cell? ⟨gb151, 3, none⟩ = some (.string (a0.extract ((ji11) : Int).toNat ((wrap64 (a1 + (wrap64 (t149 + 7)))) : Int).toNat))) (ds := []) #[false, false, false, false, false, false, false, false, false] (by kernel_rfl) rfl rfl ⟨bc BK151 0, bc BK151 1, bc BK151 2, bc BK151 3⟩ (fun hHeld => ?_); refine with_tabW spec_PacketGet.tab8 spec_PacketGet.bits8 (fun HT_ HW_ => ?_)
         generalize w28.drew = w29 at BK146 BK151 HB hHeld ⊢
         refine pu 2 52 HT_ (h := ?_)
         refine pu 3 53 HT_ (h := ?_)
         refine pu 4 54 HT_ (h := ?_)
         refine pu 5 55 HT_ (h := ?_)
         refine pu 6 56 HT_ (h := ?_)
         refine pu 7 57 HT_ (h := ?_)
         refine take_ (i := 0) (N := some 50) (v := ?_) (a' := ?_) #[true, false, true, true, true, true, true, true, false] rfl rfl (take_ofW HT_.out HW_.out (by kernel_rfl)) (fun _ _ _ h => h) (Or.inl ⟨by rfl, ?_⟩) hHeld ?_ ?_
         rotate_left
         ·rintro w' ⟨s0, s1, s2, s3⟩
          go_simp
          with_reducible rfl
         rotate_left
         ·simp only [Act.put, List.setIfInBounds_toArray, List.set_cons_zero, List.set_cons_succ, i64_w, i32_w]
          rfl
         refine one_ (i := 1) (N := some 51) #[true, true, true, true, true, true, true, true, false] rfl rfl (one_of HT_.out (by kernel_rfl)) (by decide) (fun K hK => ?_)
         refine goes_ Tryd.func30 (by kernel_rfl) rfl #[.agg #[.bool ((Int.tmod (wrap64 (Int.tdiv t148 4096)) 2) == 1), .int .i64 (Int.tmod t148 2048), .int .i64 (Int.tmod t150 16384), .string (a0.extract ((ji11) : Int).toNat ((wrap64 (a1 + (wrap64 (t149 + 7)))) : Int).toNat)]] (by rfl) rfl rfl (by (try simp only [List.map_toArray, List.map_cons, List.map_nil]); first | done | (simp only [hji11]; rfl) | rfl | (simp only [List.length_drop, List.length_take]; rfl)) ?_
         with_reducible refine (spec_PacketPut.calls k ((Int.tmod (wrap64 (Int.tdiv t148 4096)) 2) == 1) (Int.tmod t148 2048) (Int.tmod t150 16384) (a0.extract ((ji11) : Int).toNat ((wrap64 (a1 + (wrap64 (t149 + 7)))) : Int).toNat) t152 _ A15.out).mono ?_
         rintro e w30 ⟨rfl, hb⟩
         refine ⟨_, rfl, ?_⟩
         have n0_ := m_ (blk_below (g := gb146) (o := .cells #[.bool false, .int .i64 0, .int .i64 0, .string (⟨#[]⟩ : ByteArray)] 53 (0, 0)) (kN BK146.out) hb)
         have n1_ := m_ (blk_below (kN BK151.out) hb)
         have n2_ := m_ (below_step (bN HB.out) hb)
         clear BK146
         clear BK151
         clear HB
         have BK146 := n0_
         have BK151 := n1_
         have HB := n2_
         clear n0_ n1_ n2_
         (try clear hb)
         (try clear hb2)
         (try clear hk)
         (try clear hi)
         refine hK.out _ _ ⟨bc BK151 0, bc BK151 1, bc BK151 2, bc BK151 3⟩ (fun hHeld => ?_)
         clear hK K
         refine np (h := ?_)
         refine pu 8 58 HT_ (h := ?_)
         refine done_ (done_of HT_.out (by kernel_rfl)) ?_
         have hnb31 := NB151_146.out
         have hnc31 := NB146_151.out
         have hcz32_0 : w30.cell? ⟨gb151, 0, none⟩ = some (.bool ((Int.tmod (wrap64 (Int.tdiv t148 4096)) 2) == 1)) := bc BK151 0
         have hcz32_1 : w30.cell? ⟨gb151, 1, none⟩ = some (.int .i64 (Int.tmod t148 2048)) := bc BK151 1
         have hcz32_2 : w30.cell? ⟨gb151, 2, none⟩ = some (.int .i64 (Int.tmod t150 16384)) := bc BK151 2
         have hcz32_3 : w30.cell? ⟨gb151, 3, none⟩ = some (.string (a0.extract ((ji11) : Int).toNat ((wrap64 (a1 + (wrap64 (t149 + 7)))) : Int).toNat)) := bc BK151 3
         have hfz32_0 := blk_frozen BK151.out 0
         have hfz32_1 := blk_frozen BK151.out 1
         have hfz32_2 := blk_frozen BK151.out 2
         have hfz32_3 := blk_frozen BK151.out 3
         have hcz33_0 : w30.cell? ⟨gb146, 0, none⟩ = some (.bool false) := bc BK146 0
         have hcz33_1 : w30.cell? ⟨gb146, 1, none⟩ = some (.int .i64 0) := bc BK146 1
         have hcz33_2 : w30.cell? ⟨gb146, 2, none⟩ = some (.int .i64 0) := bc BK146 2
         have hcz33_3 : w30.cell? ⟨gb146, 3, none⟩ = some (.string (⟨#[]⟩ : ByteArray)) := bc BK146 3
         have hfz33_0 := blk_frozen BK146.out 0
         have hfz33_1 := blk_frozen BK146.out 1
         have hfz33_2 := blk_frozen BK146.out 2
         have hfz33_3 := blk_frozen BK146.out 3
         try go_wp2
         refine bodyPost_ret (results_ct rfl _ _ gb146 53 #[.bool ((Int.tmod (wrap64 (Int.tdiv t148 4096)) 2) == 1), .int .i64 (Int.tmod t148 2048), .int .i64 (Int.tmod t150 16384), .string (a0.extract ((ji11) : Int).toNat ((wrap64 (a1 + (wrap64 (t149 + 7)))) : Int).toNat)] (0, 0) _ rfl (kP BK146.out) Tryd.underlying53 rfl (by kernel_rfl)) rfl ?_
         exact ⟨by first | rfl | (simp [errW_none, errW_some] <;> rfl) | (simp only [← hji11]; first | rfl | (simp [errW_none, errW_some] <;> rfl)) | (simp [*, errW_none, errW_some] <;> rfl), by repeat (first | (with_reducible first | exact HB.out | apply below_alloc | apply pw_below_drewN | apply below_drew1 | refine below_set ?_ GE146.out | refine below_set ?_ GE151.out) | exact HB.out)⟩
        ·rw [if_neg c19] at H
         have c19b0 : (t152.toList == (a0.extract (a1 : Int).toNat ((wrap64 (a1 + (wrap64 (t149 + 7)))) : Int).toNat).toList) = false := beq_eq_false_iff_ne.mpr c19
         have c19b1 : (t152.toList != (a0.extract (a1 : Int).toNat ((wrap64 (a1 + (wrap64 (t149 + 7)))) : Int).toNat).toList) = true := bne_iff_ne.mpr c19
         simp only [Option.some.injEq, Prod.mk.injEq] at H
         obtain ⟨rfl, rfl, rfl, rfl, rfl⟩ := H
         go_enter Tryd.func24, Tryd.ntmps24
         try go_wp2_with (first | ((with_reducible refine gate_dst (N := 4) rfl ?_); refine box_event ?hg (N := 4) ?hd (cs := #[.bool false, .int .i64 0, .int .i64 0, .string (⟨#[]⟩ : ByteArray)]) (t := 53) ?hr ?_; (case hd => rfl); (case hg => rfl); (case hr => first | (go_simp; done) | (go_simp; rfl)); intro gb146 hg w34 hbox hb; have n0_ := m_ (below_step (bN HB.out) hb); have n1_ := m_ (hbox); have n2_ := m_ ((by rw [hg]; exact (below_size (bN HB.out)) : w.heap.size ≤ gb146)); have n3_ := m_ ((by rw [hg]; exact (below_size (bN HB.out)) : w.heap.size ≤ gb146)); clear HB; have HB := n0_; have BK146 := n1_; have GW146 := n2_; have GE146 := n3_; clear n0_ n1_ n2_ n3_; clear hb hbox hg) | ((with_reducible refine gate_callee (f := 21) rfl ?_); refine goesL_ (some 13) rfl rfl Tryd.func21 (by kernel_rfl) rfl #[.int .i64 a1, .int .i64 0, .int .i64 (wrap64 ((a0.size : Int) - 7))] rfl gl_ ?_; (with_reducible refine (spec_l1In.calls a1 0 (wrap64 ((a0.size : Int) - 7)) true _ A3.out).mono ?_); rintro e w' ⟨rfl, ⟨nd, rfl⟩⟩; refine ⟨_, rfl, ?_⟩; (try (rw [drewN_self w34]; generalize hq_ : World.drewN w34 _ = w34; have n0_ : Aside0 (w34.heap[gb146]? = some (.cells #[.bool false, .int .i64 0, .int .i64 0, .string (⟨#[]⟩ : ByteArray)] 53 (0, 0))) := ⟨by rw [← hq_]; exact (kN BK146.out)⟩; have n1_ : Aside0 (Below w.heap.size w w34) := ⟨by rw [← hq_]; exact (bN HB.out)⟩; clear BK146 HB hq_; have BK146 := n0_; have HB := n1_; clear n0_ n1_))) | ((with_reducible refine gate_callee (f := 23) rfl ?_); refine goesL_ (some 18) rfl rfl Tryd.func23 (by kernel_rfl) rfl #[.string a0, .int .i64 a1, .int .i64 2] rfl gl_ ?_; (with_reducible refine (spec_l1Get.calls k a0 a1 2 t148 _ A5.out).mono ?_); rintro e w' ⟨rfl, ⟨nd, rfl⟩⟩; refine ⟨_, rfl, ?_⟩; (try (rw [drewN_self w34]; generalize hq_ : World.drewN w34 _ = w34; have n0_ : Aside0 (w34.heap[gb146]? = some (.cells #[.bool false, .int .i64 0, .int .i64 0, .string (⟨#[]⟩ : ByteArray)] 53 (0, 0))) := ⟨by rw [← hq_]; exact (kN BK146.out)⟩; have n1_ : Aside0 (Below w.heap.size w w34) := ⟨by rw [← hq_]; exact (bN HB.out)⟩; clear BK146 HB hq_; have BK146 := n0_; have HB := n1_; clear n0_ n1_))) | ((with_reducible refine gate_callee (f := 23) rfl ?_); refine goesL_ (some 22) rfl rfl Tryd.func23 (by kernel_rfl) rfl #[.string a0, .int .i64 (wrap64 (a1 + 4)), .int .i64 2] rfl gl_ ?_; (with_reducible refine (spec_l1Get.calls k a0 (wrap64 (a1 + 4)) 2 t149 _ A6.out).mono ?_); rintro e w' ⟨rfl, ⟨nd, rfl⟩⟩; refine ⟨_, rfl, ?_⟩; (try (rw [drewN_self w34]; generalize hq_ : World.drewN w34 _ = w34; have n0_ : Aside0 (w34.heap[gb146]? = some (.cells #[.bool false, .int .i64 0, .int .i64 0, .string (⟨#[]⟩ : ByteArray)] 53 (0, 0))) := ⟨by rw [← hq_]; exact (kN BK146.out)⟩; have n1_ : Aside0 (Below w.heap.size w w34) := ⟨by rw [← hq_]; exact (bN HB.out)⟩; clear BK146 HB hq_; have BK146 := n0_; have HB := n1_; clear n0_ n1_))))
         have n0_ := m_ (blk_drew BK146.out)
         have n1_ := m_ (below_drew1 HB.out)
         clear BK146
         clear HB
         have BK146 := n0_
         have HB := n1_
         clear n0_ n1_
         refine start_ (n := 21) (S := fun w' => True) (ds := []) #[false, false, false, false, false, false, false, false, false, false, false, false, false, false, false, false, false, false, false, false, false] (by kernel_rfl) rfl rfl trivial (fun hHeld => ?_); refine with_tabW spec_PacketGet.tab7 spec_PacketGet.bits7 (fun HT_ HW_ => ?_)
         generalize w34.drew = w35 at BK146 HB hHeld ⊢
         refine pu 0 31 HT_ (h := ?_)
         refine pu 1 32 HT_ (h := ?_)
         refine pu 2 33 HT_ (h := ?_)
         refine pu 3 34 HT_ (h := ?_)
         refine pu 4 35 HT_ (h := ?_)
         refine pu 5 36 HT_ (h := ?_)
         refine pu 6 37 HT_ (h := ?_)
         refine pu 7 38 HT_ (h := ?_)
         refine pu 8 39 HT_ (h := ?_)
         refine pu 11 42 HT_ (h := ?_)
         refine pu 12 43 HT_ (h := ?_)
         refine pu 13 44 HT_ (h := ?_)
         refine pu 14 45 HT_ (h := ?_)
         refine pu 15 46 HT_ (h := ?_)
         refine pu 16 47 HT_ (h := ?_)
         refine pu 17 48 HT_ (h := ?_)
         refine join_ (σ := Nat) 1 #[true, true, true, true, true, true, true, true, true, true, true, true, true, true, true, true, true, true, true, true, false] (fun s_ => [(40, .int .i64 t150), (8, .pointer (some ⟨s_, 0, none⟩)), (41, .int .i64 (Int.tmod t150 16384)), (49, .agg #[.bool ((Int.tmod (wrap64 (Int.tdiv t148 4096)) 2) == 1), .int .i64 (Int.tmod t148 2048), .int .i64 (Int.tmod t150 16384), .string (a0.extract ((ji11) : Int).toNat ((wrap64 (a1 + (wrap64 (t149 + 7)))) : Int).toNat)])]) (fun s_ w' => (w'.heap[gb146]? = some (.cells #[.bool false, .int .i64 0, .int .i64 0, .string (⟨#[]⟩ : ByteArray)] 53 (0, 0))) ∧ (w'.heap[s_]? = some (.cells #[.bool false, .int .i64 0, .int .i64 0, .string (⟨#[]⟩ : ByteArray)] 53 (0, 0))) ∧ (w.heap.size ≤ s_) ∧ (w.heap.size ≤ s_) ∧ (gb146 ≠ s_) ∧ (s_ ≠ gb146) ∧ (Below w.heap.size w w')) ?_ ?_
         rotate_left
         ·intro hCont
          refine two_ (i := 9) (j := 19) (Ni := some 40) (Nj := some 8) #[true, true, true, true, true, true, true, true, true, true, false, true, true, true, true, true, true, true, false, false, false] #[true, true, true, true, true, true, true, true, true, false, false, true, true, true, true, true, true, true, false, true, false] rfl rfl rfl rfl (two_of HT_.out (by kernel_rfl)) (by decide) (by decide) (fun K hK => ?_) (fun K hK => ?_)
          ·skip
           refine goes_ Tryd.func23 (by kernel_rfl) rfl #[.string a0, .int .i64 (wrap64 (a1 + 2)), .int .i64 2] (by rfl) rfl rfl gl_ ?_
           with_reducible refine (spec_l1Get.calls k a0 (wrap64 (a1 + 2)) 2 t150 _ A10.out).mono ?_
           rintro e w' ⟨rfl, ⟨nd, rfl⟩⟩
           refine ⟨_, rfl, ?_⟩
           refine hK.out _ _ trivial (fun hHeld => ?_)
           clear hK K
           refine np (h := ?_)
           refine pu 10 41 HT_ (h := ?_)
           refine pu 18 49 HT_ (h := ?_)
           refine one_ (i := 19) (N := some 8) #[true, true, true, true, true, true, true, true, true, true, true, true, true, true, true, true, true, true, true, true, false] rfl rfl (one_of HT_.out (by kernel_rfl)) (by decide) (fun K hK => ?_)
           refine box_step ?hg (N := 8) ?hd (cs := #[.bool false, .int .i64 0, .int .i64 0, .string (⟨#[]⟩ : ByteArray)]) (t := 53) ?hr ?_; (case hd => rfl); (case hg => rfl); (case hr => first | (go_simp; done) | (go_simp; rfl))
           intro gb151 hg w36 hbox hb
           have n0_ := m_ (blk_below (g := gb146) (o := .cells #[.bool false, .int .i64 0, .int .i64 0, .string (⟨#[]⟩ : ByteArray)] 53 (0, 0)) (kN BK146.out) hb)
           have n1_ := m_ (below_step (bN HB.out) hb)
           have n2_ := m_ (hbox)
           have n3_ := m_ ((by rw [hg]; exact (below_size (bN HB.out)) : w.heap.size ≤ gb151))
           have n4_ := m_ ((by rw [hg]; exact (below_size (bN HB.out)) : w.heap.size ≤ gb151))
           have n5_ := m_ ((by rw [hg]; exact Nat.ne_of_lt (blk_lt (g := gb146) (o := .cells #[.bool false, .int .i64 0, .int .i64 0, .string (⟨#[]⟩ : ByteArray)] 53 (0, 0)) (kN BK146.out)) : gb146 ≠ gb151))
           have n6_ := m_ ((by rw [hg]; exact Nat.ne_of_gt (blk_lt (g := gb146) (o := .cells #[.bool false, .int .i64 0, .int .i64 0, .string (⟨#[]⟩ : ByteArray)] 53 (0, 0)) (kN BK146.out)) : gb151 ≠ gb146))
           clear BK146
           clear HB
           have BK146 := n0_
           have HB := n1_
           have BK151 := n2_
           have GW151 := n3_
           have GE151 := n4_
           have NB146_151 := n5_
           have NB151_146 := n6_
           clear n0_ n1_ n2_ n3_ n4_ n5_ n6_
           clear hb hbox hg
           refine hK.out _ _ trivial (fun hHeld => ?_)
           clear hK K
           refine np (h := ?_)
           exact nq (hCont (gb151) _ ⟨(kN BK146.out), (kN BK151.out), GW151.out, GE151.out, NB146_151.out, NB151_146.out, (bN HB.out)⟩)
          ·skip
           refine box_step ?hg (N := 8) ?hd (cs := #[.bool false, .int .i64 0, .int .i64 0, .string (⟨#[]⟩ : ByteArray)]) (t := 53) ?hr ?_; (case hd => rfl); (case hg => rfl); (case hr => first | (go_simp; done) | (go_simp; rfl))
           intro gb151 hg w36 hbox hb
           have n0_ := m_ (blk_below (g := gb146) (o := .cells #[.bool false, .int .i64 0, .int .i64 0, .string (⟨#[]⟩ : ByteArray)] 53 (0, 0)) (kN BK146.out) hb)
           have n1_ := m_ (below_step (bN HB.out) hb)
           have n2_ := m_ (hbox)
           have n3_ := m_ ((by rw [hg]; exact (below_size (bN HB.out)) : w.heap.size ≤ gb151))
           have n4_ := m_ ((by rw [hg]; exact (below_size (bN HB.out)) : w.heap.size ≤ gb151))
           have n5_ := m_ ((by rw [hg]; exact Nat.ne_of_lt (blk_lt (g := gb146) (o := .cells #[.bool false, .int .i64 0, .int .i64 0, .string (⟨#[]⟩ : ByteArray)] 53 (0, 0)) (kN BK146.out)) : gb146 ≠ gb151))
           have n6_ := m_ ((by rw [hg]; exact Nat.ne_of_gt (blk_lt (g := gb146) (o := .cells #[.bool false, .int .i64 0, .int .i64 0, .string (⟨#[]⟩ : ByteArray)] 53 (0, 0)) (kN BK146.out)) : gb151 ≠ gb146))
           clear BK146
           clear HB
           have BK146 := n0_
           have HB := n1_
           have BK151 := n2_
           have GW151 := n3_
           have GE151 := n4_
           have NB146_151 := n5_
           have NB151_146 := n6_
           clear n0_ n1_ n2_ n3_ n4_ n5_ n6_
           clear hb hbox hg
           refine hK.out _ _ trivial (fun hHeld => ?_)
           clear hK K
           refine np (h := ?_)
           refine one_ (i := 9) (N := some 40) #[true, true, true, true, true, true, true, true, true, true, false, true, true, true, true, true, true, true, false, true, false] rfl rfl (one_of HT_.out (by kernel_rfl)) (by decide) (fun K hK => ?_)
           refine goes_ Tryd.func23 (by kernel_rfl) rfl #[.string a0, .int .i64 (wrap64 (a1 + 2)), .int .i64 2] (by rfl) rfl rfl gl_ ?_
           with_reducible refine (spec_l1Get.calls k a0 (wrap64 (a1 + 2)) 2 t150 _ A10.out).mono ?_
           rintro e w' ⟨rfl, ⟨nd, rfl⟩⟩
           refine ⟨_, rfl, ?_⟩
           refine hK.out _ _ trivial (fun hHeld => ?_)
           clear hK K
           refine np (h := ?_)
           refine pu 10 41 HT_ (h := ?_)
           refine pu 18 49 HT_ (h := ?_)
           exact nq (hCont (gb151) _ ⟨(kN BK146.out), (kN BK151.out), GW151.out, GE151.out, NB146_151.out, NB151_146.out, (bN HB.out)⟩)
         rintro gb151 w37 ⟨h0_, h1_, h2_, h3_, h4_, h5_, h6_⟩
         have n0_ : Aside0 (w37.heap[gb146]? = some (.cells #[.bool false, .int .i64 0, .int .i64 0, .string (⟨#[]⟩ : ByteArray)] 53 (0, 0))) := ⟨h0_⟩
         have n1_ : Aside0 (w37.heap[gb151]? = some (.cells #[.bool false, .int .i64 0, .int .i64 0, .string (⟨#[]⟩ : ByteArray)] 53 (0, 0))) := ⟨h1_⟩
         have n2_ : Aside0 (w.heap.size ≤ gb151) := ⟨h2_⟩
         have n3_ : Aside0 (w.heap.size ≤ gb151) := ⟨h3_⟩
         have n4_ : Aside0 (gb146 ≠ gb151) := ⟨h4_⟩
         have n5_ : Aside0 (gb151 ≠ gb146) := ⟨h5_⟩
         have n6_ : Aside0 (Below w.heap.size w w37) := ⟨h6_⟩
         clear BK146
         clear HB
         clear h0_ h1_ h2_ h3_ h4_ h5_ h6_
         have BK146 := n0_
         have BK151 := n1_
         have GW151 := n2_
         have GE151 := n3_
         have NB146_151 := n4_
         have NB151_146 := n5_
         have HB := n6_
         clear n0_ n1_ n2_ n3_ n4_ n5_ n6_
         have hHeld := trivial
         refine norm_ (a' := ?_) ?_ ?_
         rotate_left
         ·simp only [putAll, Act.put, List.setIfInBounds_toArray, List.set_cons_zero, List.set_cons_succ]
          rfl
         refine one_ (i := 20) (N := none) #[true, true, true, true, true, true, true, true, true, true, true, true, true, true, true, true, true, true, true, true, true] rfl rfl (one_of HT_.out (by kernel_rfl)) (by decide) (fun K hK => ?_)
         have hs38 : w37.cell? ⟨gb151, 0, none⟩ = some (.bool false) := bc BK151 0
         have hfs38 := blk_frozen BK151.out 0
         have hns38_0 := NB146_151.out
         have hms38_0 := NB151_146.out
         have hs39 : w37.cell? ⟨gb151, 1, none⟩ = some (.int .i64 0) := bc BK151 1
         have hfs39 := blk_frozen BK151.out 1
         have hns39_0 := NB146_151.out
         have hms39_0 := NB151_146.out
         have hs40 : w37.cell? ⟨gb151, 2, none⟩ = some (.int .i64 0) := bc BK151 2
         have hfs40 := blk_frozen BK151.out 2
         have hns40_0 := NB146_151.out
         have hms40_0 := NB151_146.out
         have hs41 : w37.cell? ⟨gb151, 3, none⟩ = some (.string (⟨#[]⟩ : ByteArray)) := bc BK151 3
         have hfs41 := blk_frozen BK151.out 3
         have hns41_0 := NB146_151.out
         have hms41_0 := NB151_146.out
         refine skip_ (w1 := ?_) (by rfl) rfl ?_ ?_
         rotate_left
         ·go_simp
          rfl
         refine hK.out _ _ trivial (fun hHeld => ?_)
         clear hK K
         refine done_ (done_of HT_.out (by kernel_rfl)) ?_
         try go_wp2
         have n0_ : Aside0 (((((w37.setCell ⟨gb151, 0, none⟩ (.bool ((Int.tmod (wrap64 (Int.tdiv t148 4096)) 2) == 1))).setCell ⟨gb151, 1, none⟩ (.int .i64 (Int.tmod t148 2048))).setCell ⟨gb151, 2, none⟩ (.int .i64 (Int.tmod t150 16384))).setCell ⟨gb151, 3, none⟩ (.string (a0.extract ((ji11) : Int).toNat ((wrap64 (a1 + (wrap64 (t149 + 7)))) : Int).toNat))).heap[gb146]? = some (.cells #[.bool false, .int .i64 0, .int .i64 0, .string (⟨#[]⟩ : ByteArray)] 53 (0, 0))) := ⟨kF BK146.out NB146_151.out⟩
         have n1_ : Aside0 (((((w37.setCell ⟨gb151, 0, none⟩ (.bool ((Int.tmod (wrap64 (Int.tdiv t148 4096)) 2) == 1))).setCell ⟨gb151, 1, none⟩ (.int .i64 (Int.tmod t148 2048))).setCell ⟨gb151, 2, none⟩ (.int .i64 (Int.tmod t150 16384))).setCell ⟨gb151, 3, none⟩ (.string (a0.extract ((ji11) : Int).toNat ((wrap64 (a1 + (wrap64 (t149 + 7)))) : Int).toNat))).heap[gb151]? = some (.cells #[.bool ((Int.tmod (wrap64 (Int.tdiv t148 4096)) 2) == 1), .int .i64 (Int.tmod t148 2048), .int .i64 (Int.tmod t150 16384), .string (a0.extract ((ji11) : Int).toNat ((wrap64 (a1 + (wrap64 (t149 + 7)))) : Int).toNat)] 53 (0, 0))) := ⟨kP BK151.out⟩
         have n2_ : Aside0 (Below w.heap.size w ((((w37.setCell ⟨gb151, 0, none⟩ (.bool ((Int.tmod (wrap64 (Int.tdiv t148 4096)) 2) == 1))).setCell ⟨gb151, 1, none⟩ (.int .i64 (Int.tmod t148 2048))).setCell ⟨gb151, 2, none⟩ (.int .i64 (Int.tmod t150 16384))).setCell ⟨gb151, 3, none⟩ (.string (a0.extract ((ji11) : Int).toNat ((wrap64 (a1 + (wrap64 (t149 + 7)))) : Int).toNat)))) := ⟨by repeat (first | (with_reducible first | exact HB.out | apply below_alloc | apply pw_below_drewN | apply below_drew1 | refine below_set ?_ GE146.out | refine below_set ?_ GE151.out) | exact HB.out)⟩
         (try clear BK146)
         (try clear BK151)
         (try clear HB)
         generalize ((((w37.setCell ⟨gb151, 0, none⟩ (.bool ((Int.tmod (wrap64 (Int.tdiv t148 4096)) 2) == 1))).setCell ⟨gb151, 1, none⟩ (.int .i64 (Int.tmod t148 2048))).setCell ⟨gb151, 2, none⟩ (.int .i64 (Int.tmod t150 16384))).setCell ⟨gb151, 3, none⟩ (.string (a0.extract ((ji11) : Int).toNat ((wrap64 (a1 + (wrap64 (t149 + 7)))) : Int).toNat))) = w42 at n0_ n1_ n2_ ⊢
         have BK146 := n0_
         have BK151 := n1_
         have HB := n2_
         clear n0_ n1_ n2_
         have n0_ := m_ (blk_drew BK146.out)
         have n1_ := m_ (blk_drew BK151.out)
         have n2_ := m_ (below_drew1 HB.out)
         clear BK146
         clear BK151
         clear HB
         have BK146 := n0_
         have BK151 := n1_
         have HB := n2_
         clear n0_ n1_ n2_
         refine start_ (n := 9) (S := fun w' => w'.cell? ⟨gb151, 0, none⟩ = some (.bool ((Int.tmod (wrap64 (Int.tdiv t148 4096)) 2) == 1)) ∧ w'.cell? ⟨gb151, 1, none⟩ = some (.int .i64 (Int.tmod t148 2048)) ∧ w'.cell? ⟨gb151, 2, none⟩ = some (.int .i64 (Int.tmod t150 16384)) ∧ w'.cell? ⟨gb151, 3, none⟩ = some (.string (a0.extract ((ji11) : Int).toNat ((wrap64 (a1 + (wrap64 (t149 + 7)))) : Int).toNat))) (ds := []) #[false, false, false, false, false, false, false, false, false] (by kernel_rfl) rfl rfl ⟨bc BK151 0, bc BK151 1, bc BK151 2, bc BK151 3⟩ (fun hHeld => ?_); refine with_tabW spec_PacketGet.tab8 spec_PacketGet.bits8 (fun HT_ HW_ => ?_)
         generalize w42.drew = w43 at BK146 BK151 HB hHeld ⊢
         refine pu 2 52 HT_ (h := ?_)
         refine pu 3 53 HT_ (h := ?_)
         refine pu 4 54 HT_ (h := ?_)
         refine pu 5 55 HT_ (h := ?_)
         refine pu 6 56 HT_ (h := ?_)
         refine pu 7 57 HT_ (h := ?_)
         refine take_ (i := 0) (N := some 50) (v := ?_) (a' := ?_) #[true, false, true, true, true, true, true, true, false] rfl rfl (take_ofW HT_.out HW_.out (by kernel_rfl)) (fun _ _ _ h => h) (Or.inl ⟨by rfl, ?_⟩) hHeld ?_ ?_
         rotate_left
         ·rintro w' ⟨s0, s1, s2, s3⟩
          go_simp
          with_reducible rfl
         rotate_left
         ·simp only [Act.put, List.setIfInBounds_toArray, List.set_cons_zero, List.set_cons_succ, i64_w, i32_w]
          rfl
         refine one_ (i := 1) (N := some 51) #[true, true, true, true, true, true, true, true, false] rfl rfl (one_of HT_.out (by kernel_rfl)) (by decide) (fun K hK => ?_)
         refine goes_ Tryd.func30 (by kernel_rfl) rfl #[.agg #[.bool ((Int.tmod (wrap64 (Int.tdiv t148 4096)) 2) == 1), .int .i64 (Int.tmod t148 2048), .int .i64 (Int.tmod t150 16384), .string (a0.extract ((ji11) : Int).toNat ((wrap64 (a1 + (wrap64 (t149 + 7)))) : Int).toNat)]] (by rfl) rfl rfl (by (try simp only [List.map_toArray, List.map_cons, List.map_nil]); first | done | (simp only [hji11]; rfl) | rfl | (simp only [List.length_drop, List.length_take]; rfl)) ?_
         with_reducible refine (spec_PacketPut.calls k ((Int.tmod (wrap64 (Int.tdiv t148 4096)) 2) == 1) (Int.tmod t148 2048) (Int.tmod t150 16384) (a0.extract ((ji11) : Int).toNat ((wrap64 (a1 + (wrap64 (t149 + 7)))) : Int).toNat) t152 _ A15.out).mono ?_
         rintro e w44 ⟨rfl, hb⟩
         refine ⟨_, rfl, ?_⟩
         have n0_ := m_ (blk_below (g := gb146) (o := .cells #[.bool false, .int .i64 0, .int .i64 0, .string (⟨#[]⟩ : ByteArray)] 53 (0, 0)) (kN BK146.out) hb)
         have n1_ := m_ (blk_below (kN BK151.out) hb)
         have n2_ := m_ (below_step (bN HB.out) hb)
         clear BK146
         clear BK151
         clear HB
         have BK146 := n0_
         have BK151 := n1_
         have HB := n2_
         clear n0_ n1_ n2_
         (try clear hb)
         (try clear hb2)
         (try clear hk)
         (try clear hi)
         refine hK.out _ _ ⟨bc BK151 0, bc BK151 1, bc BK151 2, bc BK151 3⟩ (fun hHeld => ?_)
         clear hK K
         refine np (h := ?_)
         refine pu 8 58 HT_ (h := ?_)
         refine done_ (done_of HT_.out (by kernel_rfl)) ?_
         have hnb45 := NB146_151.out
         have hnc45 := NB151_146.out
         have hcz46_0 : w44.cell? ⟨gb146, 0, none⟩ = some (.bool false) := bc BK146 0
         have hcz46_1 : w44.cell? ⟨gb146, 1, none⟩ = some (.int .i64 0) := bc BK146 1
         have hcz46_2 : w44.cell? ⟨gb146, 2, none⟩ = some (.int .i64 0) := bc BK146 2
         have hcz46_3 : w44.cell? ⟨gb146, 3, none⟩ = some (.string (⟨#[]⟩ : ByteArray)) := bc BK146 3
         have hfz46_0 := blk_frozen BK146.out 0
         have hfz46_1 := blk_frozen BK146.out 1
         have hfz46_2 := blk_frozen BK146.out 2
         have hfz46_3 := blk_frozen BK146.out 3
         try go_wp2
         refine bodyPost_ret (results_ct rfl _ _ gb146 53 #[.bool false, .int .i64 0, .int .i64 0, .string (⟨#[]⟩ : ByteArray)] (0, 0) _ rfl (kP BK146.out) Tryd.underlying53 rfl (by kernel_rfl)) rfl ?_
         exact ⟨by first | rfl | (simp [errW_none, errW_some] <;> rfl) | (simp only [← hji11]; first | rfl | (simp [errW_none, errW_some] <;> rfl)) | (simp [*, errW_none, errW_some] <;> rfl), by repeat (first | (with_reducible first | exact HB.out | apply below_alloc | apply pw_below_drewN | apply below_drew1 | refine below_set ?_ GE146.out | refine below_set ?_ GE151.out) | exact HB.out)⟩
       ·rw [if_neg c17] at H
        exact absurd H (by simp)
      ·rw [if_neg c16] at H
       exact absurd H (by simp)
     ·rw [if_neg c14] at H
      exact absurd H (by simp)
    ·rw [if_neg c13] at H
     exact absurd H (by simp)
   ·rw [if_neg c12] at H
    exact absurd H (by simp)
 ·replace c4 := Bool.eq_false_iff.mpr c4
  subst c4
  have H1 : (some (false, 0, 0, (⟨#[]⟩ : ByteArray), 0)) = some (r1, r2, r3, r4, r5) := by rw [if_neg (show ¬ (false = true) by decide)] at H; exact H
  clear H
  have H := H1
  clear H1
  simp only [Option.some.injEq, Prod.mk.injEq] at H
  obtain ⟨rfl, rfl, rfl, rfl, rfl⟩ := H
  go_enter Tryd.func24, Tryd.ntmps24
  go_wp2_with (first | ((with_reducible refine gate_dst (N := 4) rfl ?_); refine box_event ?hg (N := 4) ?hd (cs := #[.bool false, .int .i64 0, .int .i64 0, .string (⟨#[]⟩ : ByteArray)]) (t := 53) ?hr ?_; (case hd => rfl); (case hg => rfl); (case hr => first | (go_simp; done) | (go_simp; rfl)); intro gb146 hg w47 hbox hb; have n0_ := m_ (below_step (bN HB.out) hb); have n1_ := m_ (hbox); have n2_ := m_ ((by rw [hg]; exact (below_size (bN HB.out)) : w.heap.size ≤ gb146)); have n3_ := m_ ((by rw [hg]; exact (below_size (bN HB.out)) : w.heap.size ≤ gb146)); clear HB; have HB := n0_; have BK146 := n1_; have GW146 := n2_; have GE146 := n3_; clear n0_ n1_ n2_ n3_; clear hb hbox hg) | ((with_reducible refine gate_callee (f := 21) rfl ?_); refine goesL_ (some 13) rfl rfl Tryd.func21 (by kernel_rfl) rfl #[.int .i64 a1, .int .i64 0, .int .i64 (wrap64 ((a0.size : Int) - 7))] rfl gl_ ?_; (with_reducible refine (spec_l1In.calls a1 0 (wrap64 ((a0.size : Int) - 7)) false _ A3.out).mono ?_); rintro e w' ⟨rfl, ⟨nd, rfl⟩⟩; refine ⟨_, rfl, ?_⟩; (try (rw [drewN_self w47]; generalize hq_ : World.drewN w47 _ = w47; have n0_ : Aside0 (w47.heap[gb146]? = some (.cells #[.bool false, .int .i64 0, .int .i64 0, .string (⟨#[]⟩ : ByteArray)] 53 (0, 0))) := ⟨by rw [← hq_]; exact (kN BK146.out)⟩; have n1_ : Aside0 (Below w.heap.size w w47) := ⟨by rw [← hq_]; exact (bN HB.out)⟩; clear BK146 HB hq_; have BK146 := n0_; have HB := n1_; clear n0_ n1_)); have hcz48_0 : w47.cell? ⟨gb146, 0, none⟩ = some (.bool false) := bc BK146 0; have hcz48_1 : w47.cell? ⟨gb146, 1, none⟩ = some (.int .i64 0) := bc BK146 1; have hcz48_2 : w47.cell? ⟨gb146, 2, none⟩ = some (.int .i64 0) := bc BK146 2; have hcz48_3 : w47.cell? ⟨gb146, 3, none⟩ = some (.string (⟨#[]⟩ : ByteArray)) := bc BK146 3; have hfz48_0 := blk_frozen BK146.out 0; have hfz48_1 := blk_frozen BK146.out 1; have hfz48_2 := blk_frozen BK146.out 2; have hfz48_3 := blk_frozen BK146.out 3))
  refine bodyPost_ret (results_ct rfl _ _ gb146 53 #[.bool false, .int .i64 0, .int .i64 0, .string (⟨#[]⟩ : ByteArray)] (0, 0) _ rfl (kP BK146.out) Tryd.underlying53 rfl (by kernel_rfl)) rfl ?_
  exact ⟨by first | rfl | (simp [errW_none, errW_some] <;> rfl) | (simp [*, errW_none, errW_some] <;> rfl), by repeat (first | (with_reducible first | exact HB.out | apply below_alloc | apply pw_below_drewN | apply below_drew1 | refine below_set ?_ GE146.out) | exact HB.out)⟩

/-! ### spec_l12Cut: function 16 -/
def spec_l12Cut.l0 : Nat → ByteArray → List ByteArray → Option (ByteArray × List ByteArray × Bool)
 | 0, _, _ => none
 | k + 1, x0, x5 => if (x0.size : Int) ≥ 7 then ((spec_l1Get.f k x0 4 2).bind fun t156 => (if (wrap64 (t156 + 7)) > 106 then (some ((⟨#[]⟩ : ByteArray), x5, false)) else (if (wrap64 (t156 + 7)) > (x0.size : Int) then (some (x0, x5, true)) else (if 0 ≤ (wrap64 (t156 + 7)) then (if (wrap64 (t156 + 7)) ≤ (x0.size : Int) then ((spec_PacketGet.f k (x0.extract 0 ((wrap64 (t156 + 7)) : Int).toNat) 0).bind fun bt157 => (if bt157.2.2.2.2 = 0 then (some ((⟨#[]⟩ : ByteArray), x5, false)) else (if bt157.2.1 = 2047 then (spec_l12Cut.l0 k (x0.extract ((wrap64 (t156 + 7)) : Int).toNat x0.size) x5) else (if x5.length < 8796093022208 then (spec_l12Cut.l0 k (x0.extract ((wrap64 (t156 + 7)) : Int).toNat x0.size) (x5 ++ [x0.extract 0 ((wrap64 (t156 + 7)) : Int).toNat])) else (none))))) else (none)) else (none))))) else (some (x0, x5, true))
def spec_l12Cut.f (k : Nat) (a0 : ByteArray) : Option (ByteArray × List ByteArray × Bool) := spec_l12Cut.l0 k a0 (([] : List ByteArray))
theorem spec_l12Cut.mono_l : ∀ k, (∀ y0 y1, LeO (spec_l12Cut.l0 k y0 y1) (spec_l12Cut.l0 (k + 1) y0 y1))
 | 0 => fun _ _ r h => by simp [spec_l12Cut.l0] at h
 | k + 1 => by
  have ih0 := spec_l12Cut.mono_l k
  ·intro y0 y1
   unfold spec_l12Cut.l0
   repeat' first
   | (with_reducible exact ih0 _ _)
   | (with_reducible exact spec_PacketGet.mono _ _ _)
   | (with_reducible exact spec_l1Get.mono _ _ _ _)
   | (with_reducible exact LeO.refl _)
   | (with_reducible exact LeO.none _)
   | (with_reducible refine LeO.ite ?_ ?_)
   | (with_reducible refine LeO.bind ?_ (fun _ => ?_))
   | exact ih0 _ _
   | exact spec_PacketGet.mono _ _ _
   | exact spec_l1Get.mono _ _ _ _
   | exact LeO.none _
   | refine LeO.ite ?_ ?_
   | refine LeO.bind ?_ (fun _ => ?_)
theorem spec_l12Cut.mono : ∀ a0 k, LeO (spec_l12Cut.f k a0) (spec_l12Cut.f (k + 1) a0) := by
 intro a0 k
 have ih0 := spec_l12Cut.mono_l k
 unfold spec_l12Cut.f
 repeat' first
   | (with_reducible exact ih0 _ _)
   | (with_reducible exact spec_PacketGet.mono _ _ _)
   | (with_reducible exact spec_l1Get.mono _ _ _ _)
   | (with_reducible exact LeO.refl _)
   | (with_reducible exact LeO.none _)
   | (with_reducible refine LeO.ite ?_ ?_)
   | (with_reducible refine LeO.bind ?_ (fun _ => ?_))
   | exact ih0 _ _
   | exact spec_PacketGet.mono _ _ _
   | exact spec_l1Get.mono _ _ _ _
   | exact LeO.none _
   | refine LeO.ite ?_ ?_
   | refine LeO.bind ?_ (fun _ => ?_)
set_option maxHeartbeats 8000000 in
set_option maxRecDepth 100000 in
theorem spec_l12Cut.calls (k : Nat) (a0 : ByteArray) (r1 : ByteArray) (r2 : List ByteArray) (r3 : Bool) (w : World) (h : spec_l12Cut.f k a0 = some (r1, r2, r3)) :
  Calls Tryd.prog 16 #[.string a0] w fun e w' => ∃ v1_ : Value, e = .returned (.tuple #[.string r1, v1_, .bool r3]) ∧ Kd.R Kd.string 9 w' w.heap.size (fun _ => True) v1_ r2 ∧ Below w.heap.size w w' := by
 have hu53 := Tryd.underlying53
 have HB := m_ (Below.refl w.heap.size w)
 have H : (spec_l12Cut.l0 k a0 (([] : List ByteArray))) = some (r1, r2, r3) := h
 clear h
 obtain ⟨y153, hy153⟩ : ∃ y_ : List ByteArray, y_ = (([] : List ByteArray)) := ⟨_, rfl⟩
 replace H : (spec_l12Cut.l0 k a0 y153) = some (r1, r2, r3) := by first | (rw [hy153]; with_reducible exact H) | (have H2_ := (Option.bind_some _ _).symm.trans H; rw [hy153]; with_reducible exact H2_) | (have H2_ := (Option.bind_some _ _).symm.trans H; with_reducible exact H2_) | with_reducible exact H | (rw [hy153]; exact H) | exact H
 have Ny153 := Aside0.mk hy153
 clear hy153
 have H' := Aside0.mk H
 clear H
 go_enter Tryd.func16, Tryd.ntmps16
 go_wp2_with (first | ((with_reducible refine gate_dst (N := 9) rfl ?_); refine Kd.R_lit Kd.string _ 9 ?hg (N := 9) ?hd (xs := ([] : List ByteArray)) (inner := []) (ok := fun _ => True) (okp := fun _ => True) ?hr ?hp (fun _ hk => hk) trivial (Below.refl _ _) (Nat.le_refl _) (by simp) ?_; (case hd => rfl); (case hg => rfl); (case hr => first | (go_simp; done) | (go_simp; rfl)); (case hp => exact (Reps.none _ _)); intro v154 w2 ho3 hb hg_ hnew_; clear hg_ hnew_; (first | rw [← Ny153.out] at ho3 | (simp only [Int.reduceToNat] at ho3; rw [← Ny153.out] at ho3)); have n0_ := m_ (Kd.R_lower ho3 (below_size (bN HB.out))); have n1_ := m_ (below_step (bN HB.out) hb); clear HB; have HO155 := n0_; have HB := n1_; clear n0_ n1_; clear hb ho3))
 go_loopg [0, 5] k (fun kq v0 v5 w' => ∃ (x0_1 : ByteArray) (x5_1 : List ByteArray), v0 = .string x0_1 ∧ Aside0 (spec_l12Cut.l0 kq x0_1 x5_1 = some (r1, r2, r3)) ∧ Aside0 (kq ≤ k) ∧ Aside0 (Kd.R Kd.string 9 w' w.heap.size (fun _ => True) v5 x5_1) ∧ Aside0 (Below w.heap.size w w'))
 case atStart => exact ⟨(a0), (y153), (by first | rfl | (simp; done) | (simp [*]; done)), H', ⟨Nat.le_refl _⟩, ⟨by (with_reducible repeat (first | apply Kd.R_alloc | apply Kd.R_drewN | apply Kd.R_drew)); exact HO155.out⟩, ⟨by repeat (first | (with_reducible first | exact HB.out | apply below_alloc | apply pw_below_drewN | apply below_drew1) | exact HB.out)⟩⟩
 case round =>
  clear H'
  try clear c1
  try clear p2
  obtain ⟨x0_1, x5_1, rfl, HA, HK1, HO_5, HB⟩ := hrel
  cases gk with
  | zero => exact absurd HA.out (by simp [spec_l12Cut.l0])
  | succ k1 =>
   have H := HA.out
   clear HA
   simp only [spec_l12Cut.l0] at H
   by_cases c4 : (x0_1.size : Int) ≥ 7
   ·rw [if_pos c4] at H
    have c4b0 : decide (7 ≤ (x0_1.size : Int)) = true := decide_eq_true c4
    have c4b1 : decide (7 ≤ x0_1.size) = true := decide_eq_true (by omega)
    clear c4
    replace H := Option.bind_eq_some_iff.mp H
    obtain ⟨t156, A50, H⟩ := H
    replace H : (if (wrap64 (t156 + 7)) > 106 then (some ((⟨#[]⟩ : ByteArray), x5_1, false)) else (if (wrap64 (t156 + 7)) > (x0_1.size : Int) then (some (x0_1, x5_1, true)) else (if 0 ≤ (wrap64 (t156 + 7)) then (if (wrap64 (t156 + 7)) ≤ (x0_1.size : Int) then ((spec_PacketGet.f k1 (x0_1.extract 0 ((wrap64 (t156 + 7)) : Int).toNat) 0).bind fun bt157 => (if bt157.2.2.2.2 = 0 then (some ((⟨#[]⟩ : ByteArray), x5_1, false)) else (if bt157.2.1 = 2047 then (spec_l12Cut.l0 k1 (x0_1.extract ((wrap64 (t156 + 7)) : Int).toNat x0_1.size) x5_1) else (if x5_1.length < 8796093022208 then (spec_l12Cut.l0 k1 (x0_1.extract ((wrap64 (t156 + 7)) : Int).toNat x0_1.size) (x5_1 ++ [x0_1.extract 0 ((wrap64 (t156 + 7)) : Int).toNat])) else (none))))) else (none)) else (none)))) = some (r1, r2, r3) := H
    have A5 := Aside0.mk A50
    clear A50
    by_cases c6 : (wrap64 (t156 + 7)) > 106
    ·rw [if_pos c6] at H
     have c6b0 : decide (106 < (wrap64 (t156 + 7))) = true := decide_eq_true c6
     clear c6
     simp only [Option.some.injEq, Prod.mk.injEq] at H
     obtain ⟨rfl, rfl, rfl⟩ := H
     go_wp2_with (first | ((with_reducible refine gate_callee (f := 23) rfl ?_); refine goesL_ (some 14) rfl rfl Tryd.func23 (by kernel_rfl) rfl #[.string x0_1, .int .i64 4, .int .i64 2] rfl gl_ ?_; (with_reducible refine (spec_l1Get.calls k1 x0_1 4 2 t156 _ A5.out).mono ?_); rintro e w' ⟨rfl, ⟨nd, rfl⟩⟩; refine ⟨_, rfl, ?_⟩))
     go_ret3
     exact ⟨_, by first | rfl | (simp [errW_none, errW_some] <;> rfl) | (simp [*, errW_none, errW_some] <;> rfl), by (with_reducible repeat (first | apply Kd.R_alloc | apply Kd.R_drewN | apply Kd.R_drew)); exact HO_5.out, by repeat (first | (with_reducible first | exact HB.out | apply below_alloc | apply pw_below_drewN | apply below_drew1) | exact HB.out)⟩
    ·rw [if_neg c6] at H
     have c6b0 : decide (106 < (wrap64 (t156 + 7))) = false := decide_eq_false c6
     clear c6
     by_cases c7 : (wrap64 (t156 + 7)) > (x0_1.size : Int)
     ·rw [if_pos c7] at H
      have c7b0 : decide ((x0_1.size : Int) < (wrap64 (t156 + 7))) = true := decide_eq_true c7
      clear c7
      simp only [Option.some.injEq, Prod.mk.injEq] at H
      obtain ⟨rfl, rfl, rfl⟩ := H
      go_wp2_with (first | ((with_reducible refine gate_callee (f := 23) rfl ?_); refine goesL_ (some 14) rfl rfl Tryd.func23 (by kernel_rfl) rfl #[.string x0_1, .int .i64 4, .int .i64 2] rfl gl_ ?_; (with_reducible refine (spec_l1Get.calls k1 x0_1 4 2 t156 _ A5.out).mono ?_); rintro e w' ⟨rfl, ⟨nd, rfl⟩⟩; refine ⟨_, rfl, ?_⟩))
      go_ret3
      exact ⟨_, by first | rfl | (simp [errW_none, errW_some] <;> rfl) | (simp [*, errW_none, errW_some] <;> rfl), by (with_reducible repeat (first | apply Kd.R_alloc | apply Kd.R_drewN | apply Kd.R_drew)); exact HO_5.out, by repeat (first | (with_reducible first | exact HB.out | apply below_alloc | apply pw_below_drewN | apply below_drew1) | exact HB.out)⟩
     ·rw [if_neg c7] at H
      have c7b0 : decide ((x0_1.size : Int) < (wrap64 (t156 + 7))) = false := decide_eq_false c7
      clear c7
      obtain ⟨ji8, hji8⟩ : ∃ j_ : Int, (wrap64 (t156 + 7)) = j_ := ⟨_, rfl⟩
      replace H : (if 0 ≤ (ji8) then (if (ji8) ≤ (x0_1.size : Int) then ((spec_PacketGet.f k1 (x0_1.extract 0 ((ji8) : Int).toNat) 0).bind fun bt157 => (if bt157.2.2.2.2 = 0 then (some ((⟨#[]⟩ : ByteArray), x5_1, false)) else (if bt157.2.1 = 2047 then (spec_l12Cut.l0 k1 (x0_1.extract ((ji8) : Int).toNat x0_1.size) x5_1) else (if x5_1.length < 8796093022208 then (spec_l12Cut.l0 k1 (x0_1.extract ((ji8) : Int).toNat x0_1.size) (x5_1 ++ [x0_1.extract 0 ((ji8) : Int).toNat])) else (none))))) else (none)) else (none)) = some (r1, r2, r3) := by first | (rw [hji8] at H; exact H) | (simp only [hji8] at H ⊢; exact H)
      (try rw [hji8] at c6b0)
      (try rw [hji8] at c7b0)
      (try rw [hji8] at A5)
      have hji8w : (IntKind.i64.wrap (t156 + 7)) = ji8 := (i64_w _).trans hji8
      by_cases c9 : 0 ≤ (ji8)
      ·rw [if_pos c9] at H
       have c9b0 := eq_true c9
       have c9b1 : decide (0 ≤ (ji8)) = true := decide_eq_true c9
       clear c9
       by_cases c10 : (ji8) ≤ (x0_1.size : Int)
       ·rw [if_pos c10] at H
        have c10b0 := eq_true c10
        have c10b1 : decide ((ji8) ≤ (x0_1.size : Int)) = true := decide_eq_true c10
        clear c10
        replace H := Option.bind_eq_some_iff.mp H
        obtain ⟨⟨t157, t158, t159, t160, t161⟩, A110, H⟩ := H
        replace H : (if t161 = 0 then (some ((⟨#[]⟩ : ByteArray), x5_1, false)) else (if t158 = 2047 then (spec_l12Cut.l0 k1 (x0_1.extract ((ji8) : Int).toNat x0_1.size) x5_1) else (if x5_1.length < 8796093022208 then (spec_l12Cut.l0 k1 (x0_1.extract ((ji8) : Int).toNat x0_1.size) (x5_1 ++ [x0_1.extract 0 ((ji8) : Int).toNat])) else (none)))) = some (r1, r2, r3) := H
        have A11 := Aside0.mk A110
        clear A110
        by_cases c12 : t161 = 0
        ·rw [if_pos c12] at H
         have c12b0 : (t161 == 0) = true := beq_iff_eq.mpr c12
         have c12b1 : (t161 != 0) = false := bne_eq_false_iff_eq.mpr c12
         clear c12
         simp only [Option.some.injEq, Prod.mk.injEq] at H
         obtain ⟨rfl, rfl, rfl⟩ := H
         go_wp2_with (first | ((with_reducible refine gate_callee (f := 23) rfl ?_); refine goesL_ (some 14) rfl rfl Tryd.func23 (by kernel_rfl) rfl #[.string x0_1, .int .i64 4, .int .i64 2] rfl gl_ ?_; (with_reducible refine (spec_l1Get.calls k1 x0_1 4 2 t156 _ A5.out).mono ?_); rintro e w' ⟨rfl, ⟨nd, rfl⟩⟩; refine ⟨_, rfl, ?_⟩; (try (rw [drewN_self wr]; generalize hq_ : World.drewN wr _ = wr; have n0_ : Aside0 (Kd.R Kd.string 9 wr w.heap.size (fun _ => True) u5 x5_1) := ⟨by rw [← hq_]; exact (rN HO_5.out)⟩; have n1_ : Aside0 (Below w.heap.size w wr) := ⟨by rw [← hq_]; exact (bN HB.out)⟩; clear HO_5 HB hq_; have HO_5 := n0_; have HB := n1_; clear n0_ n1_))) | ((with_reducible refine gate_callee (f := 24) rfl ?_); refine goesL_ (some 29) rfl rfl Tryd.func24 (by kernel_rfl) rfl #[.string (x0_1.extract 0 ((ji8) : Int).toNat), .int .i64 0] rfl (by (try simp only [List.map_toArray, List.map_cons, List.map_nil]); first | done | (simp only [hji8]; rfl) | rfl | (simp only [List.length_drop, List.length_take]; rfl)) ?_; (with_reducible refine (spec_PacketGet.calls k1 (x0_1.extract 0 ((ji8) : Int).toNat) 0 t157 t158 t159 t160 t161 _ A11.out).mono ?_); rintro e w13 ⟨rfl, hb⟩; refine ⟨_, rfl, ?_⟩; have n0_ := m_ (Kd.R_below (rN HO_5.out) hb); have n1_ := m_ (below_step (bN HB.out) hb); clear HO_5; clear HB; have HO_5 := n0_; have HB := n1_; clear n0_ n1_; (try clear hb); (try clear hb2); (try clear hk); (try clear hi)) | ((with_reducible refine gate_dst (N := 7) rfl ?_); refine box_event ?hg (N := 7) ?hd (cs := #[.bool false, .int .i64 0, .int .i64 0, .string (⟨#[]⟩ : ByteArray)]) (t := 53) ?hr ?_; (case hd => rfl); (case hg => rfl); (case hr => first | (go_simp; done) | (go_simp; rfl)); intro gb162 hg w14 hbox hb; have n0_ := m_ (Kd.R_below (rN HO_5.out) hb); have n1_ := m_ (below_step (bN HB.out) hb); have n2_ := m_ (hbox); have n3_ := m_ ((by rw [hg]; exact (below_size (bN HB.out)) : w.heap.size ≤ gb162)); have n4_ := m_ ((by rw [hg]; exact (below_size (bN HB.out)) : w.heap.size ≤ gb162)); clear HO_5; clear HB; have HO_5 := n0_; have HB := n1_; have BK162 := n2_; have GW162 := n3_; have GE162 := n4_; clear n0_ n1_ n2_ n3_ n4_; clear hb hbox hg; have hcz15_0 : w14.cell? ⟨gb162, 0, none⟩ = some (.bool false) := bc BK162 0; have hcz15_1 : w14.cell? ⟨gb162, 1, none⟩ = some (.int .i64 0) := bc BK162 1; have hcz15_2 : w14.cell? ⟨gb162, 2, none⟩ = some (.int .i64 0) := bc BK162 2; have hcz15_3 : w14.cell? ⟨gb162, 3, none⟩ = some (.string (⟨#[]⟩ : ByteArray)) := bc BK162 3; have hfz15_0 := blk_frozen BK162.out 0; have hfz15_1 := blk_frozen BK162.out 1; have hfz15_2 := blk_frozen BK162.out 2; have hfz15_3 := blk_frozen BK162.out 3))
         go_ret3
         exact ⟨_, by first | rfl | (simp [errW_none, errW_some] <;> rfl) | (simp only [← hji8]; first | rfl | (simp [errW_none, errW_some] <;> rfl)) | (simp [*, errW_none, errW_some] <;> rfl), by (with_reducible repeat (first | apply Kd.R_alloc | apply Kd.R_drewN | apply Kd.R_drew)); exact frM (Kd.R_types HO_5.out BK162.out (by decide)), by repeat (first | (with_reducible first | exact HB.out | apply below_alloc | apply pw_below_drewN | apply below_drew1 | refine below_set ?_ GE162.out) | exact HB.out)⟩
        ·rw [if_neg c12] at H
         have c12b0 : (t161 == 0) = false := beq_eq_false_iff_ne.mpr c12
         have c12b1 : (t161 != 0) = true := bne_iff_ne.mpr c12
         by_cases c16 : t158 = 2047
         ·rw [if_pos c16] at H
          have c16b0 : (t158 == 2047) = true := beq_iff_eq.mpr c16
          have c16b1 : (t158 != 2047) = false := bne_eq_false_iff_eq.mpr c16
          clear c16
          have c17b0 := eq_true (of_decide_eq_true (by first | (with_reducible assumption) | assumption) : 0 ≤ (ji8))
          have c18b0 := eq_true (of_decide_eq_true (by first | (with_reducible assumption) | assumption) : (ji8) ≤ (x0_1.size : Int))
          have H' := Aside0.mk H
          clear H
          go_wp2_with (first | ((with_reducible refine gate_callee (f := 23) rfl ?_); refine goesL_ (some 14) rfl rfl Tryd.func23 (by kernel_rfl) rfl #[.string x0_1, .int .i64 4, .int .i64 2] rfl gl_ ?_; (with_reducible refine (spec_l1Get.calls k1 x0_1 4 2 t156 _ A5.out).mono ?_); rintro e w' ⟨rfl, ⟨nd, rfl⟩⟩; refine ⟨_, rfl, ?_⟩; (try (rw [drewN_self wr]; generalize hq_ : World.drewN wr _ = wr; have n0_ : Aside0 (Kd.R Kd.string 9 wr w.heap.size (fun _ => True) u5 x5_1) := ⟨by rw [← hq_]; exact (rN HO_5.out)⟩; have n1_ : Aside0 (Below w.heap.size w wr) := ⟨by rw [← hq_]; exact (bN HB.out)⟩; clear HO_5 HB hq_; have HO_5 := n0_; have HB := n1_; clear n0_ n1_))) | ((with_reducible refine gate_callee (f := 24) rfl ?_); refine goesL_ (some 29) rfl rfl Tryd.func24 (by kernel_rfl) rfl #[.string (x0_1.extract 0 ((ji8) : Int).toNat), .int .i64 0] rfl (by (try simp only [List.map_toArray, List.map_cons, List.map_nil]); first | done | (simp only [hji8]; rfl) | rfl | (simp only [List.length_drop, List.length_take]; rfl)) ?_; (with_reducible refine (spec_PacketGet.calls k1 (x0_1.extract 0 ((ji8) : Int).toNat) 0 t157 t158 t159 t160 t161 _ A11.out).mono ?_); rintro e w19 ⟨rfl, hb⟩; refine ⟨_, rfl, ?_⟩; have n0_ := m_ (Kd.R_below (rN HO_5.out) hb); have n1_ := m_ (below_step (bN HB.out) hb); clear HO_5; clear HB; have HO_5 := n0_; have HB := n1_; clear n0_ n1_; (try clear hb); (try clear hb2); (try clear hk); (try clear hi)) | ((with_reducible refine gate_dst (N := 7) rfl ?_); refine box_event ?hg (N := 7) ?hd (cs := #[.bool false, .int .i64 0, .int .i64 0, .string (⟨#[]⟩ : ByteArray)]) (t := 53) ?hr ?_; (case hd => rfl); (case hg => rfl); (case hr => first | (go_simp; done) | (go_simp; rfl)); intro gb162 hg w20 hbox hb; have n0_ := m_ (Kd.R_below (rN HO_5.out) hb); have n1_ := m_ (below_step (bN HB.out) hb); have n2_ := m_ (hbox); have n3_ := m_ ((by rw [hg]; exact (below_size (bN HB.out)) : w.heap.size ≤ gb162)); have n4_ := m_ ((by rw [hg]; exact (below_size (bN HB.out)) : w.heap.size ≤ gb162)); clear HO_5; clear HB; have HO_5 := n0_; have HB := n1_; have BK162 := n2_; have GW162 := n3_; have GE162 := n4_; clear n0_ n1_ n2_ n3_ n4_; clear hb hbox hg; have hcz21_0 : w20.cell? ⟨gb162, 0, none⟩ = some (.bool false) := bc BK162 0; have hcz21_1 : w20.cell? ⟨gb162, 1, none⟩ = some (.int .i64 0) := bc BK162 1; have hcz21_2 : w20.cell? ⟨gb162, 2, none⟩ = some (.int .i64 0) := bc BK162 2; have hcz21_3 : w20.cell? ⟨gb162, 3, none⟩ = some (.string (⟨#[]⟩ : ByteArray)) := bc BK162 3; have hfz21_0 := blk_frozen BK162.out 0; have hfz21_1 := blk_frozen BK162.out 1; have hfz21_2 := blk_frozen BK162.out 2; have hfz21_3 := blk_frozen BK162.out 3))
          go_roundg k1
          case measure => have := HK1.out; omega
          case rel => exact ⟨(x0_1.extract ((ji8) : Int).toNat x0_1.size), (x5_1), (by first | rfl | (simp; done) | (simp only [← hji8] <;> (first | rfl | simp)) | (simp [*]; done)), H', ⟨by have := HK1.out; omega⟩, ⟨by (with_reducible repeat (first | apply Kd.R_alloc | apply Kd.R_drewN | apply Kd.R_drew)); exact frM (Kd.R_types HO_5.out BK162.out (by decide))⟩, ⟨by repeat (first | (with_reducible first | exact HB.out | apply below_alloc | apply pw_below_drewN | apply below_drew1 | refine below_set ?_ GE162.out) | exact HB.out)⟩⟩
         ·rw [if_neg c16] at H
          have c16b0 : (t158 == 2047) = false := beq_eq_false_iff_ne.mpr c16
          have c16b1 : (t158 != 2047) = true := bne_iff_ne.mpr c16
          have c22b0 := eq_true (of_decide_eq_true (by first | (with_reducible assumption) | assumption) : 0 ≤ (ji8))
          have c23b0 := eq_true (of_decide_eq_true (by first | (with_reducible assumption) | assumption) : (ji8) ≤ (x0_1.size : Int))
          by_cases c24 : x5_1.length < 8796093022208
          ·rw [if_pos c24] at H
           have LMc24 := Aside0.mk c24
           clear c24
           obtain ⟨y163, hy163⟩ : ∃ y_ : List ByteArray, y_ = (x5_1 ++ [x0_1.extract 0 ((ji8) : Int).toNat]) := ⟨_, rfl⟩
           replace H : (spec_l12Cut.l0 k1 (x0_1.extract ((ji8) : Int).toNat x0_1.size) y163) = some (r1, r2, r3) := by first | (rw [hy163]; with_reducible exact H) | (have H2_ := (Option.bind_some _ _).symm.trans H; rw [hy163]; with_reducible exact H2_) | (have H2_ := (Option.bind_some _ _).symm.trans H; with_reducible exact H2_) | with_reducible exact H | (rw [hy163]; exact H) | exact H
           have Ny163 := Aside0.mk hy163
           clear hy163
           have c25b0 := eq_true (of_decide_eq_true (by first | (with_reducible assumption) | assumption) : 0 ≤ (ji8))
           have c26b0 := eq_true (of_decide_eq_true (by first | (with_reducible assumption) | assumption) : (ji8) ≤ (x0_1.size : Int))
           have H' := Aside0.mk H
           clear H
           go_wp2_with (first | ((with_reducible refine gate_callee (f := 23) rfl ?_); refine goesL_ (some 14) rfl rfl Tryd.func23 (by kernel_rfl) rfl #[.string x0_1, .int .i64 4, .int .i64 2] rfl gl_ ?_; (with_reducible refine (spec_l1Get.calls k1 x0_1 4 2 t156 _ A5.out).mono ?_); rintro e w' ⟨rfl, ⟨nd, rfl⟩⟩; refine ⟨_, rfl, ?_⟩; (try (rw [drewN_self wr]; generalize hq_ : World.drewN wr _ = wr; have n0_ : Aside0 (Kd.R Kd.string 9 wr w.heap.size (fun _ => True) u5 x5_1) := ⟨by rw [← hq_]; exact (rN HO_5.out)⟩; have n1_ : Aside0 (Below w.heap.size w wr) := ⟨by rw [← hq_]; exact (bN HB.out)⟩; clear HO_5 HB hq_; have HO_5 := n0_; have HB := n1_; clear n0_ n1_))) | ((with_reducible refine gate_callee (f := 24) rfl ?_); refine goesL_ (some 29) rfl rfl Tryd.func24 (by kernel_rfl) rfl #[.string (x0_1.extract 0 ((ji8) : Int).toNat), .int .i64 0] rfl (by (try simp only [List.map_toArray, List.map_cons, List.map_nil]); first | done | (simp only [hji8]; rfl) | rfl | (simp only [List.length_drop, List.length_take]; rfl)) ?_; (with_reducible refine (spec_PacketGet.calls k1 (x0_1.extract 0 ((ji8) : Int).toNat) 0 t157 t158 t159 t160 t161 _ A11.out).mono ?_); rintro e w27 ⟨rfl, hb⟩; refine ⟨_, rfl, ?_⟩; have n0_ := m_ (Kd.R_below (rN HO_5.out) hb); have n1_ := m_ (below_step (bN HB.out) hb); clear HO_5; clear HB; have HO_5 := n0_; have HB := n1_; clear n0_ n1_; (try clear hb); (try clear hb2); (try clear hk); (try clear hi)) | ((with_reducible refine gate_dst (N := 7) rfl ?_); refine box_event ?hg (N := 7) ?hd (cs := #[.bool false, .int .i64 0, .int .i64 0, .string (⟨#[]⟩ : ByteArray)]) (t := 53) ?hr ?_; (case hd => rfl); (case hg => rfl); (case hr => first | (go_simp; done) | (go_simp; rfl)); intro gb162 hg w28 hbox hb; have n0_ := m_ (Kd.R_below (rN HO_5.out) hb); have n1_ := m_ (below_step (bN HB.out) hb); have n2_ := m_ (hbox); have n3_ := m_ ((by rw [hg]; exact (below_size (bN HB.out)) : w.heap.size ≤ gb162)); have n4_ := m_ ((by rw [hg]; exact (below_size (bN HB.out)) : w.heap.size ≤ gb162)); clear HO_5; clear HB; have HO_5 := n0_; have HB := n1_; have BK162 := n2_; have GW162 := n3_; have GE162 := n4_; clear n0_ n1_ n2_ n3_ n4_; clear hb hbox hg; have hcz29_0 : w28.cell? ⟨gb162, 0, none⟩ = some (.bool false) := bc BK162 0; have hcz29_1 : w28.cell? ⟨gb162, 1, none⟩ = some (.int .i64 0) := bc BK162 1; have hcz29_2 : w28.cell? ⟨gb162, 2, none⟩ = some (.int .i64 0) := bc BK162 2; have hcz29_3 : w28.cell? ⟨gb162, 3, none⟩ = some (.string (⟨#[]⟩ : ByteArray)) := bc BK162 3; have hfz29_0 := blk_frozen BK162.out 0; have hfz29_1 := blk_frozen BK162.out 1; have hfz29_2 := blk_frozen BK162.out 2; have hfz29_3 := blk_frozen BK162.out 3) | ((with_reducible refine gate_builtin (b := .append) (xs := #[.tmp 38, .tmp 42]) rfl ?_); at_builtin; refine Kd.R_append Kd.string (w0 := w) w.heap.size rfl (.tmp 38) (.tmp 42) 29 9 (.string ⟨#[]⟩) 16 rfl Tryd.underlying29 info9 rfl (by decide) (by omega) u5 x5_1 (x0_1.extract 0 ((ji8) : Int).toNat) [.string (x0_1.extract 0 ((ji8) : Int).toNat)] (fun _ => True) (fun _ => False) rfl (by first | (go_simp; done) | (go_simp; rfl)) ?aP (fun _ hk => hk.elim) ?aF ?aO ?aB ?aS ?aL ?_; (case aP => exact rfl); (case aB => exact (bN HB.out)); (case aF => exact (fun _ _ => trivial)); (case aO => exact (by (with_reducible repeat (first | apply Kd.R_alloc | apply Kd.R_drewN | apply Kd.R_drew)); exact frM (Kd.R_types HO_5.out BK162.out (by decide)))); (case aS => exact (below_size (bN HB.out))); (case aL => have := LMc24.out; omega); intro v164 w30 ho hb hg hat; rw [← Ny163.out] at ho; have n0_ := m_ (blk_grown (g := gb162) (o := .cells #[.bool t157, .int .i64 t158, .int .i64 t159, .string t160] 53 (0, 0)) (kP BK162.out) hg (Kd.R_ne HO_5.out BK162.out (by decide))); have n1_ := m_ (hb); have n2_ := m_ (ho); clear BK162; clear HB; clear HO_5; have BK162 := n0_; have HB := n1_; have HO165 := n2_; clear n0_ n1_ n2_; clear ho hb hg hat))
           go_roundg k1
           case measure => have := HK1.out; omega
           case rel => exact ⟨(x0_1.extract ((ji8) : Int).toNat x0_1.size), (y163), (by first | rfl | (simp; done) | (simp only [← hji8] <;> (first | rfl | simp)) | (simp [*]; done)), H', ⟨by have := HK1.out; omega⟩, ⟨by (with_reducible repeat (first | apply Kd.R_alloc | apply Kd.R_drewN | apply Kd.R_drew)); exact HO165.out⟩, ⟨by repeat (first | (with_reducible first | exact HB.out | apply below_alloc | apply pw_below_drewN | apply below_drew1 | refine below_set ?_ GE162.out) | exact HB.out)⟩⟩
          ·rw [if_neg c24] at H
           exact absurd H (by simp)
       ·rw [if_neg c10] at H
        exact absurd H (by simp)
      ·rw [if_neg c9] at H
       exact absurd H (by simp)
   ·rw [if_neg c4] at H
    have c4b0 : decide (7 ≤ (x0_1.size : Int)) = false := decide_eq_false c4
    have c4b1 : decide (7 ≤ x0_1.size) = false := decide_eq_false (by omega)
    clear c4
    simp only [Option.some.injEq, Prod.mk.injEq] at H
    obtain ⟨rfl, rfl, rfl⟩ := H
    go_wp2
    go_ret3
    exact ⟨_, by first | rfl | (simp [errW_none, errW_some] <;> rfl) | (simp [*, errW_none, errW_some] <;> rfl), by (with_reducible repeat (first | apply Kd.R_alloc | apply Kd.R_drewN | apply Kd.R_drew)); exact HO_5.out, by repeat (first | (with_reducible first | exact HB.out | apply below_alloc | apply pw_below_drewN | apply below_drew1) | exact HB.out)⟩

end Go.Proofs.YtbldbjfmibhffaaDoor.P
