/- The machine side of these statements, function by function: what each Go function answers (as a Lean function), and that it does. Written by a program (mp.py) for this claim. -/
import Derived.Test.YtokpagopokkjfaaDoorPx0
import Derived.Test.YtokpagopokkjfaaDoorPx1
import Derived.Test.YtokpagopokkjfaaDoorPx2
namespace Go.Proofs.YtokpagopokkjfaaDoor.P
open Go.RowKit Go.Proofs.YtokpagopokkjfaaDoorW.PrintWords Go.Proofs.YtokpagopokkjfaaDoorW.PrintLast Go.Proofs.YtokpagopokkjfaaDoorW.PrintMore
attribute [local go_sem] max2_int min2_int max_two min_two max_three min_three max_four min_four   -- for this text's walks alone
set_option linter.unusedVariables false
set_option linter.unusedSimpArgs false

/-! ### spec_PacketGet: function 65 -/
def spec_PacketGet.f (k : Nat) (a0 : ByteArray) (a1 : Int) : Option (Bool × Int × Int × ByteArray × Int) := (spec_l1In.f a1 0 (wrap64 ((a0.size : Int) - 7))).bind fun t120 => (if t120 = true then ((spec_l1Get.f k a0 a1 2).bind fun t121 => ((spec_l1Get.f k a0 (wrap64 (a1 + 4)) 2).bind fun t122 => (if (wrap64 (t122 + 7)) > (wrap64 ((a0.size : Int) - a1)) then (some (false, 0, 0, (⟨#[]⟩ : ByteArray), 0)) else ((spec_l1Get.f k a0 (wrap64 (a1 + 2)) 2).bind fun t123 => (if 0 ≤ (wrap64 (a1 + 6)) then (if (wrap64 (a1 + 6)) ≤ (wrap64 (a1 + (wrap64 (t122 + 7)))) then (if (wrap64 (a1 + (wrap64 (t122 + 7)))) ≤ (a0.size : Int) then ((spec_PacketPut.f k ((Int.tmod (wrap64 (Int.tdiv t121 4096)) 2) == 1) (Int.tmod t121 2048) (Int.tmod t123 16384) (a0.extract ((wrap64 (a1 + 6)) : Int).toNat ((wrap64 (a1 + (wrap64 (t122 + 7)))) : Int).toNat)).bind fun t125 => (if 0 ≤ a1 then (if a1 ≤ (wrap64 (a1 + (wrap64 (t122 + 7)))) then (if t125.toList = (a0.extract (a1 : Int).toNat ((wrap64 (a1 + (wrap64 (t122 + 7)))) : Int).toNat).toList then (some (((Int.tmod (wrap64 (Int.tdiv t121 4096)) 2) == 1), Int.tmod t121 2048, Int.tmod t123 16384, a0.extract ((wrap64 (a1 + 6)) : Int).toNat ((wrap64 (a1 + (wrap64 (t122 + 7)))) : Int).toNat, wrap64 (t122 + 7))) else (some (false, 0, 0, (⟨#[]⟩ : ByteArray), 0))) else (none)) else (none))) else (none)) else (none)) else (none)))))) else (some (false, 0, 0, (⟨#[]⟩ : ByteArray), 0)))
theorem spec_PacketGet.mono : ∀ a0 a1 k, LeO (spec_PacketGet.f k a0 a1) (spec_PacketGet.f (k + 1) a0 a1) := by
 intro a0 a1 k
 unfold spec_PacketGet.f
 repeat' first
   | (with_reducible exact spec_PacketPut.mono _ _ _ _ _)
   | (with_reducible exact spec_l1Get.mono _ _ _ _)
   | (with_reducible exact LeO.refl _)
   | (with_reducible exact LeO.none _)
   | (with_reducible refine LeO.ite ?_ ?_)
   | (with_reducible refine LeO.bind ?_ (fun _ => ?_))
   | exact spec_PacketPut.mono _ _ _ _ _
   | exact spec_l1Get.mono _ _ _ _
   | exact LeO.none _
   | refine LeO.ite ?_ ?_
   | refine LeO.bind ?_ (fun _ => ?_)
def spec_PacketGet.T7 : Bool × List (List Nat × List Nat) := (true, [([], []), ([0], [0]), ([1], [1]), ([2], [2]), ([], []), ([4], [4]), ([], []), ([], []), ([7], [7]), ([6, 8], [6, 8]), ([9], [9]), ([], []), ([], []), ([12], [12]), ([], []), ([], []), ([14, 15], [14, 15]), ([11, 13, 16], [11, 13, 16]), ([3, 5, 10, 17], [3, 5, 10, 17]), ([], []), ([19, 18, 9, 0, 1, 2, 3, 4, 5, 6, 7, 8, 9, 10, 11, 12, 13, 14, 15, 16, 17, 18, 19], [18, 19])])
def spec_PacketGet.B7 : List Nat := [0, 1, 3, 7, 0, 16, 0, 0, 128, 448, 960, 0, 0, 4096, 0, 0, 49152, 129024, 262143, 0, 1048575]
theorem spec_PacketGet.tab7 : rtab .any (opsOf Tryd.f65 7) = spec_PacketGet.T7 := by kernel_rfl
theorem spec_PacketGet.bits7 : waitsOk spec_PacketGet.T7.2 spec_PacketGet.B7 = true := by kernel_rfl
def spec_PacketGet.T8 : Bool × List (List Nat × List Nat) := (true, [([], []), ([0], [0]), ([], []), ([], []), ([], []), ([], []), ([4, 5], [4, 5]), ([2, 3, 6], [2, 3, 6]), ([1, 7], [1, 7])])
def spec_PacketGet.B8 : List Nat := [0, 1, 0, 0, 0, 0, 48, 124, 255]
theorem spec_PacketGet.tab8 : rtab .any (opsOf Tryd.f65 8) = spec_PacketGet.T8 := by kernel_rfl
theorem spec_PacketGet.bits8 : waitsOk spec_PacketGet.T8.2 spec_PacketGet.B8 = true := by kernel_rfl
set_option maxHeartbeats 8000000 in
set_option maxRecDepth 100000 in
theorem spec_PacketGet.calls (k : Nat) (a0 : ByteArray) (a1 : Int) (r1 : Bool) (r2 : Int) (r3 : Int) (r4 : ByteArray) (r5 : Int) (w : World) (h : spec_PacketGet.f k a0 a1 = some (r1, r2, r3, r4, r5)) :
  Calls Tryd.prog 65 #[.string a0, .int .i64 a1] w fun e w' => e = .returned (.tuple #[.agg #[.bool r1, .int .i64 r2, .int .i64 r3, .string r4], .int .i64 r5]) ∧ Below w.heap.size w w' := by
 have hu53 := Tryd.underlying53
 have HB := m_ (Below.refl w.heap.size w)
 have H : ((spec_l1In.f a1 0 (wrap64 ((a0.size : Int) - 7))).bind fun t120 => (if t120 = true then ((spec_l1Get.f k a0 a1 2).bind fun t121 => ((spec_l1Get.f k a0 (wrap64 (a1 + 4)) 2).bind fun t122 => (if (wrap64 (t122 + 7)) > (wrap64 ((a0.size : Int) - a1)) then (some (false, 0, 0, (⟨#[]⟩ : ByteArray), 0)) else ((spec_l1Get.f k a0 (wrap64 (a1 + 2)) 2).bind fun t123 => (if 0 ≤ (wrap64 (a1 + 6)) then (if (wrap64 (a1 + 6)) ≤ (wrap64 (a1 + (wrap64 (t122 + 7)))) then (if (wrap64 (a1 + (wrap64 (t122 + 7)))) ≤ (a0.size : Int) then ((spec_PacketPut.f k ((Int.tmod (wrap64 (Int.tdiv t121 4096)) 2) == 1) (Int.tmod t121 2048) (Int.tmod t123 16384) (a0.extract ((wrap64 (a1 + 6)) : Int).toNat ((wrap64 (a1 + (wrap64 (t122 + 7)))) : Int).toNat)).bind fun t125 => (if 0 ≤ a1 then (if a1 ≤ (wrap64 (a1 + (wrap64 (t122 + 7)))) then (if t125.toList = (a0.extract (a1 : Int).toNat ((wrap64 (a1 + (wrap64 (t122 + 7)))) : Int).toNat).toList then (some (((Int.tmod (wrap64 (Int.tdiv t121 4096)) 2) == 1), Int.tmod t121 2048, Int.tmod t123 16384, a0.extract ((wrap64 (a1 + 6)) : Int).toNat ((wrap64 (a1 + (wrap64 (t122 + 7)))) : Int).toNat, wrap64 (t122 + 7))) else (some (false, 0, 0, (⟨#[]⟩ : ByteArray), 0))) else (none)) else (none))) else (none)) else (none)) else (none)))))) else (some (false, 0, 0, (⟨#[]⟩ : ByteArray), 0)))) = some (r1, r2, r3, r4, r5) := h
 clear h
 replace H := Option.bind_eq_some_iff.mp H
 obtain ⟨t120, A30, H⟩ := H
 replace H : (if t120 = true then ((spec_l1Get.f k a0 a1 2).bind fun t121 => ((spec_l1Get.f k a0 (wrap64 (a1 + 4)) 2).bind fun t122 => (if (wrap64 (t122 + 7)) > (wrap64 ((a0.size : Int) - a1)) then (some (false, 0, 0, (⟨#[]⟩ : ByteArray), 0)) else ((spec_l1Get.f k a0 (wrap64 (a1 + 2)) 2).bind fun t123 => (if 0 ≤ (wrap64 (a1 + 6)) then (if (wrap64 (a1 + 6)) ≤ (wrap64 (a1 + (wrap64 (t122 + 7)))) then (if (wrap64 (a1 + (wrap64 (t122 + 7)))) ≤ (a0.size : Int) then ((spec_PacketPut.f k ((Int.tmod (wrap64 (Int.tdiv t121 4096)) 2) == 1) (Int.tmod t121 2048) (Int.tmod t123 16384) (a0.extract ((wrap64 (a1 + 6)) : Int).toNat ((wrap64 (a1 + (wrap64 (t122 + 7)))) : Int).toNat)).bind fun t125 => (if 0 ≤ a1 then (if a1 ≤ (wrap64 (a1 + (wrap64 (t122 + 7)))) then (if t125.toList = (a0.extract (a1 : Int).toNat ((wrap64 (a1 + (wrap64 (t122 + 7)))) : Int).toNat).toList then (some (((Int.tmod (wrap64 (Int.tdiv t121 4096)) 2) == 1), Int.tmod t121 2048, Int.tmod t123 16384, a0.extract ((wrap64 (a1 + 6)) : Int).toNat ((wrap64 (a1 + (wrap64 (t122 + 7)))) : Int).toNat, wrap64 (t122 + 7))) else (some (false, 0, 0, (⟨#[]⟩ : ByteArray), 0))) else (none)) else (none))) else (none)) else (none)) else (none)))))) else (some (false, 0, 0, (⟨#[]⟩ : ByteArray), 0))) = some (r1, r2, r3, r4, r5) := H
 have A3 := Aside0.mk A30
 clear A30
 by_cases c4 : t120 = true
 ·subst c4
  have H1 : ((spec_l1Get.f k a0 a1 2).bind fun t121 => ((spec_l1Get.f k a0 (wrap64 (a1 + 4)) 2).bind fun t122 => (if (wrap64 (t122 + 7)) > (wrap64 ((a0.size : Int) - a1)) then (some (false, 0, 0, (⟨#[]⟩ : ByteArray), 0)) else ((spec_l1Get.f k a0 (wrap64 (a1 + 2)) 2).bind fun t123 => (if 0 ≤ (wrap64 (a1 + 6)) then (if (wrap64 (a1 + 6)) ≤ (wrap64 (a1 + (wrap64 (t122 + 7)))) then (if (wrap64 (a1 + (wrap64 (t122 + 7)))) ≤ (a0.size : Int) then ((spec_PacketPut.f k ((Int.tmod (wrap64 (Int.tdiv t121 4096)) 2) == 1) (Int.tmod t121 2048) (Int.tmod t123 16384) (a0.extract ((wrap64 (a1 + 6)) : Int).toNat ((wrap64 (a1 + (wrap64 (t122 + 7)))) : Int).toNat)).bind fun t125 => (if 0 ≤ a1 then (if a1 ≤ (wrap64 (a1 + (wrap64 (t122 + 7)))) then (if t125.toList = (a0.extract (a1 : Int).toNat ((wrap64 (a1 + (wrap64 (t122 + 7)))) : Int).toNat).toList then (some (((Int.tmod (wrap64 (Int.tdiv t121 4096)) 2) == 1), Int.tmod t121 2048, Int.tmod t123 16384, a0.extract ((wrap64 (a1 + 6)) : Int).toNat ((wrap64 (a1 + (wrap64 (t122 + 7)))) : Int).toNat, wrap64 (t122 + 7))) else (some (false, 0, 0, (⟨#[]⟩ : ByteArray), 0))) else (none)) else (none))) else (none)) else (none)) else (none)))))) = some (r1, r2, r3, r4, r5) := by rw [if_pos rfl] at H; exact H
  clear H
  have H := H1
  clear H1
  replace H := Option.bind_eq_some_iff.mp H
  obtain ⟨t121, A50, H⟩ := H
  replace H : ((spec_l1Get.f k a0 (wrap64 (a1 + 4)) 2).bind fun t122 => (if (wrap64 (t122 + 7)) > (wrap64 ((a0.size : Int) - a1)) then (some (false, 0, 0, (⟨#[]⟩ : ByteArray), 0)) else ((spec_l1Get.f k a0 (wrap64 (a1 + 2)) 2).bind fun t123 => (if 0 ≤ (wrap64 (a1 + 6)) then (if (wrap64 (a1 + 6)) ≤ (wrap64 (a1 + (wrap64 (t122 + 7)))) then (if (wrap64 (a1 + (wrap64 (t122 + 7)))) ≤ (a0.size : Int) then ((spec_PacketPut.f k ((Int.tmod (wrap64 (Int.tdiv t121 4096)) 2) == 1) (Int.tmod t121 2048) (Int.tmod t123 16384) (a0.extract ((wrap64 (a1 + 6)) : Int).toNat ((wrap64 (a1 + (wrap64 (t122 + 7)))) : Int).toNat)).bind fun t125 => (if 0 ≤ a1 then (if a1 ≤ (wrap64 (a1 + (wrap64 (t122 + 7)))) then (if t125.toList = (a0.extract (a1 : Int).toNat ((wrap64 (a1 + (wrap64 (t122 + 7)))) : Int).toNat).toList then (some (((Int.tmod (wrap64 (Int.tdiv t121 4096)) 2) == 1), Int.tmod t121 2048, Int.tmod t123 16384, a0.extract ((wrap64 (a1 + 6)) : Int).toNat ((wrap64 (a1 + (wrap64 (t122 + 7)))) : Int).toNat, wrap64 (t122 + 7))) else (some (false, 0, 0, (⟨#[]⟩ : ByteArray), 0))) else (none)) else (none))) else (none)) else (none)) else (none))))) = some (r1, r2, r3, r4, r5) := H
  have A5 := Aside0.mk A50
  clear A50
  replace H := Option.bind_eq_some_iff.mp H
  obtain ⟨t122, A60, H⟩ := H
  replace H : (if (wrap64 (t122 + 7)) > (wrap64 ((a0.size : Int) - a1)) then (some (false, 0, 0, (⟨#[]⟩ : ByteArray), 0)) else ((spec_l1Get.f k a0 (wrap64 (a1 + 2)) 2).bind fun t123 => (if 0 ≤ (wrap64 (a1 + 6)) then (if (wrap64 (a1 + 6)) ≤ (wrap64 (a1 + (wrap64 (t122 + 7)))) then (if (wrap64 (a1 + (wrap64 (t122 + 7)))) ≤ (a0.size : Int) then ((spec_PacketPut.f k ((Int.tmod (wrap64 (Int.tdiv t121 4096)) 2) == 1) (Int.tmod t121 2048) (Int.tmod t123 16384) (a0.extract ((wrap64 (a1 + 6)) : Int).toNat ((wrap64 (a1 + (wrap64 (t122 + 7)))) : Int).toNat)).bind fun t125 => (if 0 ≤ a1 then (if a1 ≤ (wrap64 (a1 + (wrap64 (t122 + 7)))) then (if t125.toList = (a0.extract (a1 : Int).toNat ((wrap64 (a1 + (wrap64 (t122 + 7)))) : Int).toNat).toList then (some (((Int.tmod (wrap64 (Int.tdiv t121 4096)) 2) == 1), Int.tmod t121 2048, Int.tmod t123 16384, a0.extract ((wrap64 (a1 + 6)) : Int).toNat ((wrap64 (a1 + (wrap64 (t122 + 7)))) : Int).toNat, wrap64 (t122 + 7))) else (some (false, 0, 0, (⟨#[]⟩ : ByteArray), 0))) else (none)) else (none))) else (none)) else (none)) else (none)))) = some (r1, r2, r3, r4, r5) := H
  have A6 := Aside0.mk A60
  clear A60
  by_cases c7 : (wrap64 (t122 + 7)) > (wrap64 ((a0.size : Int) - a1))
  ·rw [if_pos c7] at H
   have c7b0 : decide ((wrap64 ((a0.size : Int) - a1)) < (wrap64 (t122 + 7))) = true := decide_eq_true c7
   clear c7
   simp only [Option.some.injEq, Prod.mk.injEq] at H
   obtain ⟨rfl, rfl, rfl, rfl, rfl⟩ := H
   go_enter Tryd.func65, Tryd.ntmps65
   go_wp2_with (first | ((with_reducible refine gate_dst (N := 4) rfl ?_); refine box_event ?hg (N := 4) ?hd (cs := #[.bool false, .int .i64 0, .int .i64 0, .string (⟨#[]⟩ : ByteArray)]) (t := 53) ?hr ?_; (case hd => rfl); (case hg => rfl); (case hr => first | (go_simp; done) | (go_simp; rfl)); intro gb119 hg w8 hbox hb; have n0_ := m_ (below_step (bN HB.out) hb); have n1_ := m_ (hbox); have n2_ := m_ ((by rw [hg]; exact (below_size (bN HB.out)) : w.heap.size ≤ gb119)); have n3_ := m_ ((by rw [hg]; exact (below_size (bN HB.out)) : w.heap.size ≤ gb119)); clear HB; have HB := n0_; have BK119 := n1_; have GW119 := n2_; have GE119 := n3_; clear n0_ n1_ n2_ n3_; clear hb hbox hg) | ((with_reducible refine gate_callee (f := 30) rfl ?_); refine goesL_ (some 13) rfl rfl Tryd.func30 (by kernel_rfl) rfl #[.int .i64 a1, .int .i64 0, .int .i64 (wrap64 ((a0.size : Int) - 7))] rfl gl_ ?_; (with_reducible refine (spec_l1In.calls a1 0 (wrap64 ((a0.size : Int) - 7)) true _ A3.out).mono ?_); rintro e w' ⟨rfl, ⟨nd, rfl⟩⟩; refine ⟨_, rfl, ?_⟩; (try (rw [drewN_self w8]; generalize hq_ : World.drewN w8 _ = w8; have n0_ : Aside0 (w8.heap[gb119]? = some (.cells #[.bool false, .int .i64 0, .int .i64 0, .string (⟨#[]⟩ : ByteArray)] 53 (0, 0))) := ⟨by rw [← hq_]; exact (kN BK119.out)⟩; have n1_ : Aside0 (Below w.heap.size w w8) := ⟨by rw [← hq_]; exact (bN HB.out)⟩; clear BK119 HB hq_; have BK119 := n0_; have HB := n1_; clear n0_ n1_))) | ((with_reducible refine gate_callee (f := 90) rfl ?_); refine goesL_ (some 18) rfl rfl Tryd.func90 (by kernel_rfl) rfl #[.string a0, .int .i64 a1, .int .i64 2] rfl gl_ ?_; (with_reducible refine (spec_l1Get.calls k a0 a1 2 t121 _ A5.out).mono ?_); rintro e w' ⟨rfl, ⟨nd, rfl⟩⟩; refine ⟨_, rfl, ?_⟩; (try (rw [drewN_self w8]; generalize hq_ : World.drewN w8 _ = w8; have n0_ : Aside0 (w8.heap[gb119]? = some (.cells #[.bool false, .int .i64 0, .int .i64 0, .string (⟨#[]⟩ : ByteArray)] 53 (0, 0))) := ⟨by rw [← hq_]; exact (kN BK119.out)⟩; have n1_ : Aside0 (Below w.heap.size w w8) := ⟨by rw [← hq_]; exact (bN HB.out)⟩; clear BK119 HB hq_; have BK119 := n0_; have HB := n1_; clear n0_ n1_))) | ((with_reducible refine gate_callee (f := 90) rfl ?_); refine goesL_ (some 22) rfl rfl Tryd.func90 (by kernel_rfl) rfl #[.string a0, .int .i64 (wrap64 (a1 + 4)), .int .i64 2] rfl gl_ ?_; (with_reducible refine (spec_l1Get.calls k a0 (wrap64 (a1 + 4)) 2 t122 _ A6.out).mono ?_); rintro e w' ⟨rfl, ⟨nd, rfl⟩⟩; refine ⟨_, rfl, ?_⟩; (try (rw [drewN_self w8]; generalize hq_ : World.drewN w8 _ = w8; have n0_ : Aside0 (w8.heap[gb119]? = some (.cells #[.bool false, .int .i64 0, .int .i64 0, .string (⟨#[]⟩ : ByteArray)] 53 (0, 0))) := ⟨by rw [← hq_]; exact (kN BK119.out)⟩; have n1_ : Aside0 (Below w.heap.size w w8) := ⟨by rw [← hq_]; exact (bN HB.out)⟩; clear BK119 HB hq_; have BK119 := n0_; have HB := n1_; clear n0_ n1_)); have hcz9_0 : w8.cell? ⟨gb119, 0, none⟩ = some (.bool false) := bc BK119 0; have hcz9_1 : w8.cell? ⟨gb119, 1, none⟩ = some (.int .i64 0) := bc BK119 1; have hcz9_2 : w8.cell? ⟨gb119, 2, none⟩ = some (.int .i64 0) := bc BK119 2; have hcz9_3 : w8.cell? ⟨gb119, 3, none⟩ = some (.string (⟨#[]⟩ : ByteArray)) := bc BK119 3; have hfz9_0 := blk_frozen BK119.out 0; have hfz9_1 := blk_frozen BK119.out 1; have hfz9_2 := blk_frozen BK119.out 2; have hfz9_3 := blk_frozen BK119.out 3))
   refine bodyPost_ret (results_ct rfl _ _ gb119 53 #[.bool false, .int .i64 0, .int .i64 0, .string (⟨#[]⟩ : ByteArray)] (0, 0) _ rfl (kP BK119.out) Tryd.underlying53 rfl (by kernel_rfl)) rfl ?_
   exact ⟨by first | rfl | (simp [errW_none, errW_some] <;> rfl) | (simp [*, errW_none, errW_some] <;> rfl), by repeat (first | (with_reducible first | exact HB.out | apply below_alloc | apply pw_below_drewN | apply below_drew1 | refine below_set ?_ GE119.out) | exact HB.out)⟩
  ·rw [if_neg c7] at H
   have c7b0 : decide ((wrap64 ((a0.size : Int) - a1)) < (wrap64 (t122 + 7))) = false := decide_eq_false c7
   clear c7
   replace H := Option.bind_eq_some_iff.mp H
   obtain ⟨t123, A100, H⟩ := H
   replace H : (if 0 ≤ (wrap64 (a1 + 6)) then (if (wrap64 (a1 + 6)) ≤ (wrap64 (a1 + (wrap64 (t122 + 7)))) then (if (wrap64 (a1 + (wrap64 (t122 + 7)))) ≤ (a0.size : Int) then ((spec_PacketPut.f k ((Int.tmod (wrap64 (Int.tdiv t121 4096)) 2) == 1) (Int.tmod t121 2048) (Int.tmod t123 16384) (a0.extract ((wrap64 (a1 + 6)) : Int).toNat ((wrap64 (a1 + (wrap64 (t122 + 7)))) : Int).toNat)).bind fun t125 => (if 0 ≤ a1 then (if a1 ≤ (wrap64 (a1 + (wrap64 (t122 + 7)))) then (if t125.toList = (a0.extract (a1 : Int).toNat ((wrap64 (a1 + (wrap64 (t122 + 7)))) : Int).toNat).toList then (some (((Int.tmod (wrap64 (Int.tdiv t121 4096)) 2) == 1), Int.tmod t121 2048, Int.tmod t123 16384, a0.extract ((wrap64 (a1 + 6)) : Int).toNat ((wrap64 (a1 + (wrap64 (t122 + 7)))) : Int).toNat, wrap64 (t122 + 7))) else (some (false, 0, 0, (⟨#[]⟩ : ByteArray), 0))) else (none)) else (none))) else (none)) else (none)) else (none)) = some (r1, r2, r3, r4, r5) := H
   have A10 := Aside0.mk A100
   clear A100
   obtain ⟨ji11, hji11⟩ : ∃ j_ : Int, (wrap64 (a1 + 6)) = j_ := ⟨_, rfl⟩
   replace H : (if 0 ≤ (ji11) then (if (ji11) ≤ (wrap64 (a1 + (wrap64 (t122 + 7)))) then (if (wrap64 (a1 + (wrap64 (t122 + 7)))) ≤ (a0.size : Int) then ((spec_PacketPut.f k ((Int.tmod (wrap64 (Int.tdiv t121 4096)) 2) == 1) (Int.tmod t121 2048) (Int.tmod t123 16384) (a0.extract ((ji11) : Int).toNat ((wrap64 (a1 + (wrap64 (t122 + 7)))) : Int).toNat)).bind fun t125 => (if 0 ≤ a1 then (if a1 ≤ (wrap64 (a1 + (wrap64 (t122 + 7)))) then (if t125.toList = (a0.extract (a1 : Int).toNat ((wrap64 (a1 + (wrap64 (t122 + 7)))) : Int).toNat).toList then (some (((Int.tmod (wrap64 (Int.tdiv t121 4096)) 2) == 1), Int.tmod t121 2048, Int.tmod t123 16384, a0.extract ((ji11) : Int).toNat ((wrap64 (a1 + (wrap64 (t122 + 7)))) : Int).toNat, wrap64 (t122 + 7))) else (some (false, 0, 0, (⟨#[]⟩ : ByteArray), 0))) else (none)) else (none))) else (none)) else (none)) else (none)) = some (r1, r2, r3, r4, r5) := by first | (rw [hji11] at H; exact H) | (simp only [hji11] at H ⊢; exact H)
   (try rw [hji11] at A3)
   (try rw [hji11] at A5)
   (try rw [hji11] at A6)
   (try rw [hji11] at A10)
   have hji11w : (IntKind.i64.wrap (a1 + 6)) = ji11 := (i64_w _).trans hji11
   by_cases c12 : 0 ≤ (ji11)
   ·rw [if_pos c12] at H
    have c12b0 := eq_true c12
    have c12b1 : decide (0 ≤ (ji11)) = true := decide_eq_true c12
    clear c12
    by_cases c13 : (ji11) ≤ (wrap64 (a1 + (wrap64 (t122 + 7))))
    ·rw [if_pos c13] at H
     have c13b0 := eq_true c13
     have c13b1 : decide ((ji11) ≤ (wrap64 (a1 + (wrap64 (t122 + 7))))) = true := decide_eq_true c13
     by_cases c14 : (wrap64 (a1 + (wrap64 (t122 + 7)))) ≤ (a0.size : Int)
     ·rw [if_pos c14] at H
      have c14b0 := eq_true c14
      have c14b1 : decide ((wrap64 (a1 + (wrap64 (t122 + 7)))) ≤ (a0.size : Int)) = true := decide_eq_true c14
      replace H := Option.bind_eq_some_iff.mp H
      obtain ⟨t125, A150, H⟩ := H
      replace H : (if 0 ≤ a1 then (if a1 ≤ (wrap64 (a1 + (wrap64 (t122 + 7)))) then (if t125.toList = (a0.extract (a1 : Int).toNat ((wrap64 (a1 + (wrap64 (t122 + 7)))) : Int).toNat).toList then (some (((Int.tmod (wrap64 (Int.tdiv t121 4096)) 2) == 1), Int.tmod t121 2048, Int.tmod t123 16384, a0.extract ((ji11) : Int).toNat ((wrap64 (a1 + (wrap64 (t122 + 7)))) : Int).toNat, wrap64 (t122 + 7))) else (some (false, 0, 0, (⟨#[]⟩ : ByteArray), 0))) else (none)) else (none)) = some (r1, r2, r3, r4, r5) := H
      have A15 := Aside0.mk A150
      clear A150
      by_cases c16 : 0 ≤ a1
      ·rw [if_pos c16] at H
       have c16b0 := eq_true c16
       have c16b1 : decide (0 ≤ a1) = true := decide_eq_true c16
       clear c16
       by_cases c17 : a1 ≤ (wrap64 (a1 + (wrap64 (t122 + 7))))
       ·rw [if_pos c17] at H
        have c17b0 := eq_true c17
        have c17b1 : decide (a1 ≤ (wrap64 (a1 + (wrap64 (t122 + 7))))) = true := decide_eq_true c17
        have c18b0 := eq_true (of_decide_eq_true (by first | (with_reducible assumption) | assumption) : (wrap64 (a1 + (wrap64 (t122 + 7)))) ≤ (a0.size : Int))
        by_cases c19 : t125.toList = (a0.extract (a1 : Int).toNat ((wrap64 (a1 + (wrap64 (t122 + 7)))) : Int).toNat).toList
        ·rw [if_pos c19] at H
         have c19b0 : (t125.toList == (a0.extract (a1 : Int).toNat ((wrap64 (a1 + (wrap64 (t122 + 7)))) : Int).toNat).toList) = true := beq_iff_eq.mpr c19
         have c19b1 : (t125.toList != (a0.extract (a1 : Int).toNat ((wrap64 (a1 + (wrap64 (t122 + 7)))) : Int).toNat).toList) = false := bne_eq_false_iff_eq.mpr c19
         clear c19
         simp only [Option.some.injEq, Prod.mk.injEq] at H
         obtain ⟨rfl, rfl, rfl, rfl, rfl⟩ := H
         go_enter Tryd.func65, Tryd.ntmps65
         try go_wp2_with (first | ((with_reducible refine gate_dst (N := 4) rfl ?_); refine box_event ?hg (N := 4) ?hd (cs := #[.bool false, .int .i64 0, .int .i64 0, .string (⟨#[]⟩ : ByteArray)]) (t := 53) ?hr ?_; (case hd => rfl); (case hg => rfl); (case hr => first | (go_simp; done) | (go_simp; rfl)); intro gb119 hg w20 hbox hb; have n0_ := m_ (below_step (bN HB.out) hb); have n1_ := m_ (hbox); have n2_ := m_ ((by rw [hg]; exact (below_size (bN HB.out)) : w.heap.size ≤ gb119)); have n3_ := m_ ((by rw [hg]; exact (below_size (bN HB.out)) : w.heap.size ≤ gb119)); clear HB; have HB := n0_; have BK119 := n1_; have GW119 := n2_; have GE119 := n3_; clear n0_ n1_ n2_ n3_; clear hb hbox hg) | ((with_reducible refine gate_callee (f := 30) rfl ?_); refine goesL_ (some 13) rfl rfl Tryd.func30 (by kernel_rfl) rfl #[.int .i64 a1, .int .i64 0, .int .i64 (wrap64 ((a0.size : Int) - 7))] rfl gl_ ?_; (with_reducible refine (spec_l1In.calls a1 0 (wrap64 ((a0.size : Int) - 7)) true _ A3.out).mono ?_); rintro e w' ⟨rfl, ⟨nd, rfl⟩⟩; refine ⟨_, rfl, ?_⟩; (try (rw [drewN_self w20]; generalize hq_ : World.drewN w20 _ = w20; have n0_ : Aside0 (w20.heap[gb119]? = some (.cells #[.bool false, .int .i64 0, .int .i64 0, .string (⟨#[]⟩ : ByteArray)] 53 (0, 0))) := ⟨by rw [← hq_]; exact (kN BK119.out)⟩; have n1_ : Aside0 (Below w.heap.size w w20) := ⟨by rw [← hq_]; exact (bN HB.out)⟩; clear BK119 HB hq_; have BK119 := n0_; have HB := n1_; clear n0_ n1_))) | ((with_reducible refine gate_callee (f := 90) rfl ?_); refine goesL_ (some 18) rfl rfl Tryd.func90 (by kernel_rfl) rfl #[.string a0, .int .i64 a1, .int .i64 2] rfl gl_ ?_; (with_reducible refine (spec_l1Get.calls k a0 a1 2 t121 _ A5.out).mono ?_); rintro e w' ⟨rfl, ⟨nd, rfl⟩⟩; refine ⟨_, rfl, ?_⟩; (try (rw [drewN_self w20]; generalize hq_ : World.drewN w20 _ = w20; have n0_ : Aside0 (w20.heap[gb119]? = some (.cells #[.bool false, .int .i64 0, .int .i64 0, .string (⟨#[]⟩ : ByteArray)] 53 (0, 0))) := ⟨by rw [← hq_]; exact (kN BK119.out)⟩; have n1_ : Aside0 (Below w.heap.size w w20) := ⟨by rw [← hq_]; exact (bN HB.out)⟩; clear BK119 HB hq_; have BK119 := n0_; have HB := n1_; clear n0_ n1_))) | ((with_reducible refine gate_callee (f := 90) rfl ?_); refine goesL_ (some 22) rfl rfl Tryd.func90 (by kernel_rfl) rfl #[.string a0, .int .i64 (wrap64 (a1 + 4)), .int .i64 2] rfl gl_ ?_; (with_reducible refine (spec_l1Get.calls k a0 (wrap64 (a1 + 4)) 2 t122 _ A6.out).mono ?_); rintro e w' ⟨rfl, ⟨nd, rfl⟩⟩; refine ⟨_, rfl, ?_⟩; (try (rw [drewN_self w20]; generalize hq_ : World.drewN w20 _ = w20; have n0_ : Aside0 (w20.heap[gb119]? = some (.cells #[.bool false, .int .i64 0, .int .i64 0, .string (⟨#[]⟩ : ByteArray)] 53 (0, 0))) := ⟨by rw [← hq_]; exact (kN BK119.out)⟩; have n1_ : Aside0 (Below w.heap.size w w20) := ⟨by rw [← hq_]; exact (bN HB.out)⟩; clear BK119 HB hq_; have BK119 := n0_; have HB := n1_; clear n0_ n1_))))
         have n0_ := m_ (blk_drew BK119.out)
         have n1_ := m_ (below_drew1 HB.out)
         clear BK119
         clear HB
         have BK119 := n0_
         have HB := n1_
         clear n0_ n1_
         refine start_ (n := 21) (S := fun w' => True) (ds := []) #[false, false, false, false, false, false, false, false, false, false, false, false, false, false, false, false, false, false, false, false, false] (by kernel_rfl) rfl rfl trivial (fun hHeld => ?_); refine with_tabW spec_PacketGet.tab7 spec_PacketGet.bits7 (fun HT_ HW_ => ?_)
         generalize w20.drew = w21 at BK119 HB hHeld ⊢
         refine pu 0 31 HT_ (h := ?_)
         refine pu 1 32 HT_ (h := ?_)
         refine pu 2 33 HT_ (h := ?_)
         refine pu 3 34 HT_ (h := ?_)
         refine pu 4 35 HT_ (h := ?_)
         refine pu 5 36 HT_ (h := ?_)
         refine pu 6 37 HT_ (h := ?_)
         refine pu 7 38 HT_ (h := ?_)
         refine pu 8 39 HT_ (h := ?_)
         refine pu 11 42 HT_ (h := ?_)
         refine pu 12 43 HT_ (h := ?_)
         refine pu 13 44 HT_ (h := ?_)
         refine pu 14 45 HT_ (h := ?_)
         refine pu 15 46 HT_ (h := ?_)
         refine pu 16 47 HT_ (h := ?_)
         refine pu 17 48 HT_ (h := ?_)
         refine join_ (σ := Nat) 1 #[true, true, true, true, true, true, true, true, true, true, true, true, true, true, true, true, true, true, true, true, false] (fun s_ => [(40, .int .i64 t123), (8, .pointer (some ⟨s_, 0, none⟩)), (41, .int .i64 (Int.tmod t123 16384)), (49, .agg #[.bool ((Int.tmod (wrap64 (Int.tdiv t121 4096)) 2) == 1), .int .i64 (Int.tmod t121 2048), .int .i64 (Int.tmod t123 16384), .string (a0.extract ((ji11) : Int).toNat ((wrap64 (a1 + (wrap64 (t122 + 7)))) : Int).toNat)])]) (fun s_ w' => (w'.heap[gb119]? = some (.cells #[.bool false, .int .i64 0, .int .i64 0, .string (⟨#[]⟩ : ByteArray)] 53 (0, 0))) ∧ (w'.heap[s_]? = some (.cells #[.bool false, .int .i64 0, .int .i64 0, .string (⟨#[]⟩ : ByteArray)] 53 (0, 0))) ∧ (w.heap.size ≤ s_) ∧ (w.heap.size ≤ s_) ∧ (gb119 ≠ s_) ∧ (s_ ≠ gb119) ∧ (Below w.heap.size w w')) ?_ ?_
         rotate_left
         ·intro hCont
          refine two_ (i := 9) (j := 19) (Ni := some 40) (Nj := some 8) #[true, true, true, true, true, true, true, true, true, true, false, true, true, true, true, true, true, true, false, false, false] #[true, true, true, true, true, true, true, true, true, false, false, true, true, true, true, true, true, true, false, true, false] rfl rfl rfl rfl (two_of HT_.out (by kernel_rfl)) (by decide) (by decide) (fun K hK => ?_) (fun K hK => ?_)
          ·skip
           refine goes_ Tryd.func90 (by kernel_rfl) rfl #[.string a0, .int .i64 (wrap64 (a1 + 2)), .int .i64 2] (by rfl) rfl rfl gl_ ?_
           with_reducible refine (spec_l1Get.calls k a0 (wrap64 (a1 + 2)) 2 t123 _ A10.out).mono ?_
           rintro e w' ⟨rfl, ⟨nd, rfl⟩⟩
           refine ⟨_, rfl, ?_⟩
           refine hK.out _ _ trivial (fun hHeld => ?_)
           clear hK K
           refine np (h := ?_)
           refine pu 10 41 HT_ (h := ?_)
           refine pu 18 49 HT_ (h := ?_)
           refine one_ (i := 19) (N := some 8) #[true, true, true, true, true, true, true, true, true, true, true, true, true, true, true, true, true, true, true, true, false] rfl rfl (one_of HT_.out (by kernel_rfl)) (by decide) (fun K hK => ?_)
           refine box_step ?hg (N := 8) ?hd (cs := #[.bool false, .int .i64 0, .int .i64 0, .string (⟨#[]⟩ : ByteArray)]) (t := 53) ?hr ?_; (case hd => rfl); (case hg => rfl); (case hr => first | (go_simp; done) | (go_simp; rfl))
           intro gb124 hg w22 hbox hb
           have n0_ := m_ (blk_below (g := gb119) (o := .cells #[.bool false, .int .i64 0, .int .i64 0, .string (⟨#[]⟩ : ByteArray)] 53 (0, 0)) (kN BK119.out) hb)
           have n1_ := m_ (below_step (bN HB.out) hb)
           have n2_ := m_ (hbox)
           have n3_ := m_ ((by rw [hg]; exact (below_size (bN HB.out)) : w.heap.size ≤ gb124))
           have n4_ := m_ ((by rw [hg]; exact (below_size (bN HB.out)) : w.heap.size ≤ gb124))
           have n5_ := m_ ((by rw [hg]; exact Nat.ne_of_lt (blk_lt (g := gb119) (o := .cells #[.bool false, .int .i64 0, .int .i64 0, .string (⟨#[]⟩ : ByteArray)] 53 (0, 0)) (kN BK119.out)) : gb119 ≠ gb124))
           have n6_ := m_ ((by rw [hg]; exact Nat.ne_of_gt (blk_lt (g := gb119) (o := .cells #[.bool false, .int .i64 0, .int .i64 0, .string (⟨#[]⟩ : ByteArray)] 53 (0, 0)) (kN BK119.out)) : gb124 ≠ gb119))
           clear BK119
           clear HB
           have BK119 := n0_
           have HB := n1_
           have BK124 := n2_
           have GW124 := n3_
           have GE124 := n4_
           have NB119_124 := n5_
           have NB124_119 := n6_
           clear n0_ n1_ n2_ n3_ n4_ n5_ n6_
           clear hb hbox hg
           refine hK.out _ _ trivial (fun hHeld => ?_)
           clear hK K
           refine np (h := ?_)
           exact nq (hCont (gb124) _ ⟨(kN BK119.out), (kN BK124.out), GW124.out, GE124.out, NB119_124.out, NB124_119.out, (bN HB.out)⟩)
          ·skip
           refine box_step ?hg (N := 8) ?hd (cs := #[.bool false, .int .i64 0, .int .i64 0, .string (⟨#[]⟩ : ByteArray)]) (t := 53) ?hr ?_; (case hd => rfl); (case hg => rfl); (case hr => first | (go_simp; done) | (go_simp; rfl))
           intro gb124 hg w22 hbox hb
           have n0_ := m_ (blk_below (g := gb119) (o := .cells #[.bool false, .int .i64 0, .int .i64 0, .string (⟨#[]⟩ : ByteArray)] 53 (0, 0)) (kN BK119.out) hb)
           have n1_ := m_ (below_step (bN HB.out) hb)
           have n2_ := m_ (hbox)
           have n3_ := m_ ((by rw [hg]; exact (below_size (bN HB.out)) : w.heap.size ≤ gb124))
           have n4_ := m_ ((by rw [hg]; exact (below_size (bN HB.out)) : w.heap.size ≤ gb124))
           have n5_ := m_ ((by rw [hg]; exact Nat.ne_of_lt (blk_lt (g := gb119) (o := .cells #[.bool false, .int .i64 0, .int .i64 0, .string (⟨#[]⟩ : ByteArray)] 53 (0, 0)) (kN BK119.out)) : gb119 ≠ gb124))
           have n6_ := m_ ((by rw [hg]; exact Nat.ne_of_gt (blk_lt (g := gb119) (o := .cells #[.bool false, .int .i64 0, .int .i64 0, .string (⟨#[]⟩ : ByteArray)] 53 (0, 0)) (kN BK119.out)) : gb124 ≠ gb119))
           clear BK119
           clear HB
           have BK119 := n0_
           have HB := n1_
           have BK124 := n2_
           have GW124 := n3_
           have GE124 := n4_
           have NB119_124 := n5_
           have NB124_119 := n6_
           clear n0_ n1_ n2_ n3_ n4_ n5_ n6_
           clear hb hbox hg
           refine hK.out _ _ trivial (fun hHeld => ?_)
           clear hK K
           refine np (h := ?_)
           refine one_ (i := 9) (N := some 40) #[true, true, true, true, true, true, true, true, true, true, false, true, true, true, true, true, true, true, false, true, false] rfl rfl (one_of HT_.out (by kernel_rfl)) (by decide) (fun K hK => ?_)
           refine goes_ Tryd.func90 (by kernel_rfl) rfl #[.string a0, .int .i64 (wrap64 (a1 + 2)), .int .i64 2] (by rfl) rfl rfl gl_ ?_
           with_reducible refine (spec_l1Get.calls k a0 (wrap64 (a1 + 2)) 2 t123 _ A10.out).mono ?_
           rintro e w' ⟨rfl, ⟨nd, rfl⟩⟩
           refine ⟨_, rfl, ?_⟩
           refine hK.out _ _ trivial (fun hHeld => ?_)
           clear hK K
           refine np (h := ?_)
           refine pu 10 41 HT_ (h := ?_)
           refine pu 18 49 HT_ (h := ?_)
           exact nq (hCont (gb124) _ ⟨(kN BK119.out), (kN BK124.out), GW124.out, GE124.out, NB119_124.out, NB124_119.out, (bN HB.out)⟩)
         rintro gb124 w23 ⟨h0_, h1_, h2_, h3_, h4_, h5_, h6_⟩
         have n0_ : Aside0 (w23.heap[gb119]? = some (.cells #[.bool false, .int .i64 0, .int .i64 0, .string (⟨#[]⟩ : ByteArray)] 53 (0, 0))) := ⟨h0_⟩
         have n1_ : Aside0 (w23.heap[gb124]? = some (.cells #[.bool false, .int .i64 0, .int .i64 0, .string (⟨#[]⟩ : ByteArray)] 53 (0, 0))) := ⟨h1_⟩
         have n2_ : Aside0 (w.heap.size ≤ gb124) := ⟨h2_⟩
         have n3_ : Aside0 (w.heap.size ≤ gb124) := ⟨h3_⟩
         have n4_ : Aside0 (gb119 ≠ gb124) := ⟨h4_⟩
         have n5_ : Aside0 (gb124 ≠ gb119) := ⟨h5_⟩
         have n6_ : Aside0 (Below w.heap.size w w23) := ⟨h6_⟩
         clear BK119
         clear HB
         clear h0_ h1_ h2_ h3_ h4_ h5_ h6_
         have BK119 := n0_
         have BK124 := n1_
         have GW124 := n2_
         have GE124 := n3_
         have NB119_124 := n4_
         have NB124_119 := n5_
         have HB := n6_
         clear n0_ n1_ n2_ n3_ n4_ n5_ n6_
         have hHeld := trivial
         refine norm_ (a' := ?_) ?_ ?_
         rotate_left
         ·simp only [putAll, Act.put, List.setIfInBounds_toArray, List.set_cons_zero, List.set_cons_succ]
          rfl
         refine one_ (i := 20) (N := none) #[true, true, true, true, true, true, true, true, true, true, true, true, true, true, true, true, true, true, true, true, true] rfl rfl (one_of HT_.out (by kernel_rfl)) (by decide) (fun K hK => ?_)
         have hs24 : w23.cell? ⟨gb124, 0, none⟩ = some (.bool false) := bc BK124 0
         have hfs24 := blk_frozen BK124.out 0
         have hns24_0 := NB119_124.out
         have hms24_0 := NB124_119.out
         have hs25 : w23.cell? ⟨gb124, 1, none⟩ = some (.int .i64 0) := bc BK124 1
         have hfs25 := blk_frozen BK124.out 1
         have hns25_0 := NB119_124.out
         have hms25_0 := NB124_119.out
         have hs26 : w23.cell? ⟨gb124, 2, none⟩ = some (.int .i64 0) := bc BK124 2
         have hfs26 := blk_frozen BK124.out 2
         have hns26_0 := NB119_124.out
         have hms26_0 := NB124_119.out
         have hs27 : w23.cell? ⟨gb124, 3, none⟩ = some (.string (⟨#[]⟩ : ByteArray)) := bc BK124 3
         have hfs27 := blk_frozen BK124.out 3
         have hns27_0 := NB119_124.out
         have hms27_0 := NB124_119.out
         refine skip_ (w1 := ?_) (by rfl) rfl ?_ ?_
         rotate_left
         ·go_simp
          rfl
         refine hK.out _ _ trivial (fun hHeld => ?_)
         clear hK K
         refine done_ (done_of HT_.out (by kernel_rfl)) ?_
         try go_wp2
         have n0_ : Aside0 (((((w23.setCell ⟨gb124, 0, none⟩ (.bool ((Int.tmod (wrap64 (Int.tdiv t121 4096)) 2) == 1))).setCell ⟨gb124, 1, none⟩ (.int .i64 (Int.tmod t121 2048))).setCell ⟨gb124, 2, none⟩ (.int .i64 (Int.tmod t123 16384))).setCell ⟨gb124, 3, none⟩ (.string (a0.extract ((ji11) : Int).toNat ((wrap64 (a1 + (wrap64 (t122 + 7)))) : Int).toNat))).heap[gb119]? = some (.cells #[.bool false, .int .i64 0, .int .i64 0, .string (⟨#[]⟩ : ByteArray)] 53 (0, 0))) := ⟨kF BK119.out NB119_124.out⟩
         have n1_ : Aside0 (((((w23.setCell ⟨gb124, 0, none⟩ (.bool ((Int.tmod (wrap64 (Int.tdiv t121 4096)) 2) == 1))).setCell ⟨gb124, 1, none⟩ (.int .i64 (Int.tmod t121 2048))).setCell ⟨gb124, 2, none⟩ (.int .i64 (Int.tmod t123 16384))).setCell ⟨gb124, 3, none⟩ (.string (a0.extract ((ji11) : Int).toNat ((wrap64 (a1 + (wrap64 (t122 + 7)))) : Int).toNat))).heap[gb124]? = some (.cells #[.bool ((Int.tmod (wrap64 (Int.tdiv t121 4096)) 2) == 1), .int .i64 (Int.tmod t121 2048), .int .i64 (Int.tmod t123 16384), .string (a0.extract ((ji11) : Int).toNat ((wrap64 (a1 + (wrap64 (t122 + 7)))) : Int).toNat)] 53 (0, 0))) := ⟨kP BK124.out⟩
         have n2_ : Aside0 (Below w.heap.size w ((((w23.setCell ⟨gb124, 0, none⟩ (.bool ((Int.tmod (wrap64 (Int.tdiv t121 4096)) 2) == 1))).setCell ⟨gb124, 1, none⟩ (.int .i64 (Int.tmod t121 2048))).setCell ⟨gb124, 2, none⟩ (.int .i64 (Int.tmod t123 16384))).setCell ⟨gb124, 3, none⟩ (.string (a0.extract ((ji11) : Int).toNat ((wrap64 (a1 + (wrap64 (t122 + 7)))) : Int).toNat)))) := ⟨by repeat (first | (with_reducible first | exact HB.out | apply below_alloc | apply pw_below_drewN | apply below_drew1 | refine below_set ?_ GE119.out | refine below_set ?_ GE124.out) | exact HB.out)⟩
         (try clear BK119)
         (try clear BK124)
         (try clear HB)
         generalize ((((w23.setCell ⟨gb124, 0, none⟩ (.bool ((Int.tmod (wrap64 (Int.tdiv t121 4096)) 2) == 1))).setCell ⟨gb124, 1, none⟩ (.int .i64 (Int.tmod t121 2048))).setCell ⟨gb124, 2, none⟩ (.int .i64 (Int.tmod t123 16384))).setCell ⟨gb124, 3, none⟩ (.string (a0.extract ((ji11) : Int).toNat ((wrap64 (a1 + (wrap64 (t122 + 7)))) : Int).toNat))) = w28 at n0_ n1_ n2_ ⊢
         have BK119 := n0_
         have BK124 := n1_
         have HB := n2_
         clear n0_ n1_ n2_
         have n0_ := m_ (blk_drew BK119.out)
         have n1_ := m_ (blk_drew BK124.out)
         have n2_ := m_ (below_drew1 HB.out)
         clear BK119
         clear BK124
         clear HB
         have BK119 := n0_
         have BK124 := n1_
         have HB := n2_
         clear n0_ n1_ n2_
         refine start_ (n := 9) (S := fun w' => w'.cell? ⟨gb124, 0, none⟩ = some (.bool ((Int.tmod (wrap64 (Int.tdiv t121 4096)) 2) == 1)) ∧ w'.cell? ⟨gb124, 1, none⟩ = some (.int .i64 (Int.tmod t121 2048)) ∧ w'.cell? ⟨gb124, 2, none⟩ = some (.int .i64 (Int.tmod t123 16384)) ∧ w'.cell? ⟨gb124, 3, none⟩ = some (.string (a0.extract ((ji11) : Int).toNat ((wrap64 (a1 + (wrap64 (t122 + 7)))) : Int).toNat))) (ds := []) #[false, false, false, false, false, false, false, false, false] (by kernel_rfl) rfl rfl ⟨bc BK124 0, bc BK124 1, bc BK124 2, bc BK124 3⟩ (fun hHeld => ?_); refine with_tabW spec_PacketGet.tab8 spec_PacketGet.bits8 (fun HT_ HW_ => ?_)
         generalize w28.drew = w29 at BK119 BK124 HB hHeld ⊢
         refine pu 2 52 HT_ (h := ?_)
         refine pu 3 53 HT_ (h := ?_)
         refine pu 4 54 HT_ (h := ?_)
         refine pu 5 55 HT_ (h := ?_)
         refine pu 6 56 HT_ (h := ?_)
         refine pu 7 57 HT_ (h := ?_)
         refine take_ (i := 0) (N := some 50) (v := ?_) (a' := ?_) #[true, false, true, true, true, true, true, true, false] rfl rfl (take_ofW HT_.out HW_.out (by kernel_rfl)) (fun _ _ _ h => h) (Or.inl ⟨by rfl, ?_⟩) hHeld ?_ ?_
         rotate_left
         ·rintro w' ⟨s0, s1, s2, s3⟩
          go_simp
          with_reducible rfl
         rotate_left
         ·simp only [Act.put, List.setIfInBounds_toArray, List.set_cons_zero, List.set_cons_succ, i64_w, i32_w]
          rfl
         refine one_ (i := 1) (N := some 51) #[true, true, true, true, true, true, true, true, false] rfl rfl (one_of HT_.out (by kernel_rfl)) (by decide) (fun K hK => ?_)
         refine goes_ Tryd.func91 (by kernel_rfl) rfl #[.agg #[.bool ((Int.tmod (wrap64 (Int.tdiv t121 4096)) 2) == 1), .int .i64 (Int.tmod t121 2048), .int .i64 (Int.tmod t123 16384), .string (a0.extract ((ji11) : Int).toNat ((wrap64 (a1 + (wrap64 (t122 + 7)))) : Int).toNat)]] (by rfl) rfl rfl (by (try simp only [List.map_toArray, List.map_cons, List.map_nil]); first | done | (simp only [hji11]; rfl) | rfl | (simp only [List.length_drop, List.length_take]; rfl)) ?_
         with_reducible refine (spec_PacketPut.calls k ((Int.tmod (wrap64 (Int.tdiv t121 4096)) 2) == 1) (Int.tmod t121 2048) (Int.tmod t123 16384) (a0.extract ((ji11) : Int).toNat ((wrap64 (a1 + (wrap64 (t122 + 7)))) : Int).toNat) t125 _ A15.out).mono ?_
         rintro e w30 ⟨rfl, hb⟩
         refine ⟨_, rfl, ?_⟩
         have n0_ := m_ (blk_below (g := gb119) (o := .cells #[.bool false, .int .i64 0, .int .i64 0, .string (⟨#[]⟩ : ByteArray)] 53 (0, 0)) (kN BK119.out) hb)
         have n1_ := m_ (blk_below (kN BK124.out) hb)
         have n2_ := m_ (below_step (bN HB.out) hb)
         clear BK119
         clear BK124
         clear HB
         have BK119 := n0_
         have BK124 := n1_
         have HB := n2_
         clear n0_ n1_ n2_
         (try clear hb)
         (try clear hb2)
         (try clear hk)
         (try clear hi)
         refine hK.out _ _ ⟨bc BK124 0, bc BK124 1, bc BK124 2, bc BK124 3⟩ (fun hHeld => ?_)
         clear hK K
         refine np (h := ?_)
         refine pu 8 58 HT_ (h := ?_)
         refine done_ (done_of HT_.out (by kernel_rfl)) ?_
         have hnb31 := NB124_119.out
         have hnc31 := NB119_124.out
         have hcz32_0 : w30.cell? ⟨gb124, 0, none⟩ = some (.bool ((Int.tmod (wrap64 (Int.tdiv t121 4096)) 2) == 1)) := bc BK124 0
         have hcz32_1 : w30.cell? ⟨gb124, 1, none⟩ = some (.int .i64 (Int.tmod t121 2048)) := bc BK124 1
         have hcz32_2 : w30.cell? ⟨gb124, 2, none⟩ = some (.int .i64 (Int.tmod t123 16384)) := bc BK124 2
         have hcz32_3 : w30.cell? ⟨gb124, 3, none⟩ = some (.string (a0.extract ((ji11) : Int).toNat ((wrap64 (a1 + (wrap64 (t122 + 7)))) : Int).toNat)) := bc BK124 3
         have hfz32_0 := blk_frozen BK124.out 0
         have hfz32_1 := blk_frozen BK124.out 1
         have hfz32_2 := blk_frozen BK124.out 2
         have hfz32_3 := blk_frozen BK124.out 3
         have hcz33_0 : w30.cell? ⟨gb119, 0, none⟩ = some (.bool false) := bc BK119 0
         have hcz33_1 : w30.cell? ⟨gb119, 1, none⟩ = some (.int .i64 0) := bc BK119 1
         have hcz33_2 : w30.cell? ⟨gb119, 2, none⟩ = some (.int .i64 0) := bc BK119 2
         have hcz33_3 : w30.cell? ⟨gb119, 3, none⟩ = some (.string (⟨#[]⟩ : ByteArray)) := bc BK119 3
         have hfz33_0 := blk_frozen BK119.out 0
         have hfz33_1 := blk_frozen BK119.out 1
         have hfz33_2 := blk_frozen BK119.out 2
         have hfz33_3 := blk_frozen BK119.out 3
         try go_wp2
         refine bodyPost_ret (results_ct rfl _ _ gb119 53 #[.bool ((Int.tmod (wrap64 (Int.tdiv t121 4096)) 2) == 1), .int .i64 (Int.tmod t121 2048), .int .i64 (Int.tmod t123 16384), .string (a0.extract ((ji11) : Int).toNat ((wrap64 (a1 + (wrap64 (t122 + 7)))) : Int).toNat)] (0, 0) _ rfl (kP BK119.out) Tryd.underlying53 rfl (by kernel_rfl)) rfl ?_
         exact ⟨by first | rfl | (simp [errW_none, errW_some] <;> rfl) | (simp only [← hji11]; first | rfl | (simp [errW_none, errW_some] <;> rfl)) | (simp [*, errW_none, errW_some] <;> rfl), by repeat (first | (with_reducible first | exact HB.out | apply below_alloc | apply pw_below_drewN | apply below_drew1 | refine below_set ?_ GE119.out | refine below_set ?_ GE124.out) | exact HB.out)⟩
        ·rw [if_neg c19] at H
         have c19b0 : (t125.toList == (a0.extract (a1 : Int).toNat ((wrap64 (a1 + (wrap64 (t122 + 7)))) : Int).toNat).toList) = false := beq_eq_false_iff_ne.mpr c19
         have c19b1 : (t125.toList != (a0.extract (a1 : Int).toNat ((wrap64 (a1 + (wrap64 (t122 + 7)))) : Int).toNat).toList) = true := bne_iff_ne.mpr c19
         simp only [Option.some.injEq, Prod.mk.injEq] at H
         obtain ⟨rfl, rfl, rfl, rfl, rfl⟩ := H
         go_enter Tryd.func65, Tryd.ntmps65
         try go_wp2_with (first | ((with_reducible refine gate_dst (N := 4) rfl ?_); refine box_event ?hg (N := 4) ?hd (cs := #[.bool false, .int .i64 0, .int .i64 0, .string (⟨#[]⟩ : ByteArray)]) (t := 53) ?hr ?_; (case hd => rfl); (case hg => rfl); (case hr => first | (go_simp; done) | (go_simp; rfl)); intro gb119 hg w34 hbox hb; have n0_ := m_ (below_step (bN HB.out) hb); have n1_ := m_ (hbox); have n2_ := m_ ((by rw [hg]; exact (below_size (bN HB.out)) : w.heap.size ≤ gb119)); have n3_ := m_ ((by rw [hg]; exact (below_size (bN HB.out)) : w.heap.size ≤ gb119)); clear HB; have HB := n0_; have BK119 := n1_; have GW119 := n2_; have GE119 := n3_; clear n0_ n1_ n2_ n3_; clear hb hbox hg) | ((with_reducible refine gate_callee (f := 30) rfl ?_); refine goesL_ (some 13) rfl rfl Tryd.func30 (by kernel_rfl) rfl #[.int .i64 a1, .int .i64 0, .int .i64 (wrap64 ((a0.size : Int) - 7))] rfl gl_ ?_; (with_reducible refine (spec_l1In.calls a1 0 (wrap64 ((a0.size : Int) - 7)) true _ A3.out).mono ?_); rintro e w' ⟨rfl, ⟨nd, rfl⟩⟩; refine ⟨_, rfl, ?_⟩; (try (rw [drewN_self w34]; generalize hq_ : World.drewN w34 _ = w34; have n0_ : Aside0 (w34.heap[gb119]? = some (.cells #[.bool false, .int .i64 0, .int .i64 0, .string (⟨#[]⟩ : ByteArray)] 53 (0, 0))) := ⟨by rw [← hq_]; exact (kN BK119.out)⟩; have n1_ : Aside0 (Below w.heap.size w w34) := ⟨by rw [← hq_]; exact (bN HB.out)⟩; clear BK119 HB hq_; have BK119 := n0_; have HB := n1_; clear n0_ n1_))) | ((with_reducible refine gate_callee (f := 90) rfl ?_); refine goesL_ (some 18) rfl rfl Tryd.func90 (by kernel_rfl) rfl #[.string a0, .int .i64 a1, .int .i64 2] rfl gl_ ?_; (with_reducible refine (spec_l1Get.calls k a0 a1 2 t121 _ A5.out).mono ?_); rintro e w' ⟨rfl, ⟨nd, rfl⟩⟩; refine ⟨_, rfl, ?_⟩; (try (rw [drewN_self w34]; generalize hq_ : World.drewN w34 _ = w34; have n0_ : Aside0 (w34.heap[gb119]? = some (.cells #[.bool false, .int .i64 0, .int .i64 0, .string (⟨#[]⟩ : ByteArray)] 53 (0, 0))) := ⟨by rw [← hq_]; exact (kN BK119.out)⟩; have n1_ : Aside0 (Below w.heap.size w w34) := ⟨by rw [← hq_]; exact (bN HB.out)⟩; clear BK119 HB hq_; have BK119 := n0_; have HB := n1_; clear n0_ n1_))) | ((with_reducible refine gate_callee (f := 90) rfl ?_); refine goesL_ (some 22) rfl rfl Tryd.func90 (by kernel_rfl) rfl #[.string a0, .int .i64 (wrap64 (a1 + 4)), .int .i64 2] rfl gl_ ?_; (with_reducible refine (spec_l1Get.calls k a0 (wrap64 (a1 + 4)) 2 t122 _ A6.out).mono ?_); rintro e w' ⟨rfl, ⟨nd, rfl⟩⟩; refine ⟨_, rfl, ?_⟩; (try (rw [drewN_self w34]; generalize hq_ : World.drewN w34 _ = w34; have n0_ : Aside0 (w34.heap[gb119]? = some (.cells #[.bool false, .int .i64 0, .int .i64 0, .string (⟨#[]⟩ : ByteArray)] 53 (0, 0))) := ⟨by rw [← hq_]; exact (kN BK119.out)⟩; have n1_ : Aside0 (Below w.heap.size w w34) := ⟨by rw [← hq_]; exact (bN HB.out)⟩; clear BK119 HB hq_; have BK119 := n0_; have HB := n1_; clear n0_ n1_))))
         have n0_ := m_ (blk_drew BK119.out)
         have n1_ := m_ (below_drew1 HB.out)
         clear BK119
         clear HB
         have BK119 := n0_
         have HB := n1_
         clear n0_ n1_
         refine start_ (n := 21) (S := fun w' => True) (ds := []) #[false, false, false, false, false, false, false, false, false, false, false, false, false, false, false, false, false, false, false, false, false] (by kernel_rfl) rfl rfl trivial (fun hHeld => ?_); refine with_tabW spec_PacketGet.tab7 spec_PacketGet.bits7 (fun HT_ HW_ => ?_)
         generalize w34.drew = w35 at BK119 HB hHeld ⊢
         refine pu 0 31 HT_ (h := ?_)
         refine pu 1 32 HT_ (h := ?_)
         refine pu 2 33 HT_ (h := ?_)
         refine pu 3 34 HT_ (h := ?_)
         refine pu 4 35 HT_ (h := ?_)
         refine pu 5 36 HT_ (h := ?_)
         refine pu 6 37 HT_ (h := ?_)
         refine pu 7 38 HT_ (h := ?_)
         refine pu 8 39 HT_ (h := ?_)
         refine pu 11 42 HT_ (h := ?_)
         refine pu 12 43 HT_ (h := ?_)
         refine pu 13 44 HT_ (h := ?_)
         refine pu 14 45 HT_ (h := ?_)
         refine pu 15 46 HT_ (h := ?_)
         refine pu 16 47 HT_ (h := ?_)
         refine pu 17 48 HT_ (h := ?_)
         refine join_ (σ := Nat) 1 #[true, true, true, true, true, true, true, true, true, true, true, true, true, true, true, true, true, true, true, true, false] (fun s_ => [(40, .int .i64 t123), (8, .pointer (some ⟨s_, 0, none⟩)), (41, .int .i64 (Int.tmod t123 16384)), (49, .agg #[.bool ((Int.tmod (wrap64 (Int.tdiv t121 4096)) 2) == 1), .int .i64 (Int.tmod t121 2048), .int .i64 (Int.tmod t123 16384), .string (a0.extract ((ji11) : Int).toNat ((wrap64 (a1 + (wrap64 (t122 + 7)))) : Int).toNat)])]) (fun s_ w' => (w'.heap[gb119]? = some (.cells #[.bool false, .int .i64 0, .int .i64 0, .string (⟨#[]⟩ : ByteArray)] 53 (0, 0))) ∧ (w'.heap[s_]? = some (.cells #[.bool false, .int .i64 0, .int .i64 0, .string (⟨#[]⟩ : ByteArray)] 53 (0, 0))) ∧ (w.heap.size ≤ s_) ∧ (w.heap.size ≤ s_) ∧ (gb119 ≠ s_) ∧ (s_ ≠ gb119) ∧ (Below w.heap.size w w')) ?_ ?_
         rotate_left
         ·intro hCont
          refine two_ (i := 9) (j := 19) (Ni := some 40) (Nj := some 8) #[true, true, true, true, true, true, true, true, true, true, false, true, true, true, true, true, true, true, false, false, false] #[true, true, true, true, true, true, true, true, true, false, false, true, true, true, true, true, true, true, false, true, false] rfl rfl rfl rfl (two_of HT_.out (by kernel_rfl)) (by decide) (by decide) (fun K hK => ?_) (fun K hK => ?_)
          ·skip
           refine goes_ Tryd.func90 (by kernel_rfl) rfl #[.string a0, .int .i64 (wrap64 (a1 + 2)), .int .i64 2] (by rfl) rfl rfl gl_ ?_
           with_reducible refine (spec_l1Get.calls k a0 (wrap64 (a1 + 2)) 2 t123 _ A10.out).mono ?_
           rintro e w' ⟨rfl, ⟨nd, rfl⟩⟩
           refine ⟨_, rfl, ?_⟩
           refine hK.out _ _ trivial (fun hHeld => ?_)
           clear hK K
           refine np (h := ?_)
           refine pu 10 41 HT_ (h := ?_)
           refine pu 18 49 HT_ (h := ?_)
           refine one_ (i := 19) (N := some 8) #[true, true, true, true, true, true, true, true, true, true, true, true, true, true, true, true, true, true, true, true, false] rfl rfl (one_of HT_.out (by kernel_rfl)) (by decide) (fun K hK => ?_)
           refine box_step ?hg (N := 8) ?hd (cs := #[.bool false, .int .i64 0, .int .i64 0, .string (⟨#[]⟩ : ByteArray)]) (t := 53) ?hr ?_; (case hd => rfl); (case hg => rfl); (case hr => first | (go_simp; done) | (go_simp; rfl))
           intro gb124 hg w36 hbox hb
           have n0_ := m_ (blk_below (g := gb119) (o := .cells #[.bool false, .int .i64 0, .int .i64 0, .string (⟨#[]⟩ : ByteArray)] 53 (0, 0)) (kN BK119.out) hb)
           have n1_ := m_ (below_step (bN HB.out) hb)
           have n2_ := m_ (hbox)
           have n3_ := m_ ((by rw [hg]; exact (below_size (bN HB.out)) : w.heap.size ≤ gb124))
           have n4_ := m_ ((by rw [hg]; exact (below_size (bN HB.out)) : w.heap.size ≤ gb124))
           have n5_ := m_ ((by rw [hg]; exact Nat.ne_of_lt (blk_lt (g := gb119) (o := .cells #[.bool false, .int .i64 0, .int .i64 0, .string (⟨#[]⟩ : ByteArray)] 53 (0, 0)) (kN BK119.out)) : gb119 ≠ gb124))
           have n6_ := m_ ((by rw [hg]; exact Nat.ne_of_gt (blk_lt (g := gb119) (o := .cells #[.bool false, .int .i64 0, .int .i64 0, .string (⟨#[]⟩ : ByteArray)] 53 (0, 0)) (kN BK119.out)) : gb124 ≠ gb119))
           clear BK119
           clear HB
           have BK119 := n0_
           have HB := n1_
           have BK124 := n2_
           have GW124 := n3_
           have GE124 := n4_
           have NB119_124 := n5_
           have NB124_119 := n6_
           clear n0_ n1_ n2_ n3_ n4_ n5_ n6_
           clear hb hbox hg
           refine hK.out _ _ trivial (fun hHeld => ?_)
           clear hK K
           refine np (h := ?_)
           exact nq (hCont (gb124) _ ⟨(kN BK119.out), (kN BK124.out), GW124.out, GE124.out, NB119_124.out, NB124_119.out, (bN HB.out)⟩)
          ·skip
           refine box_step ?hg (N := 8) ?hd (cs := #[.bool false, .int .i64 0, .int .i64 0, .string (⟨#[]⟩ : ByteArray)]) (t := 53) ?hr ?_; (case hd => rfl); (case hg => rfl); (case hr => first | (go_simp; done) | (go_simp; rfl))
           intro gb124 hg w36 hbox hb
           have n0_ := m_ (blk_below (g := gb119) (o := .cells #[.bool false, .int .i64 0, .int .i64 0, .string (⟨#[]⟩ : ByteArray)] 53 (0, 0)) (kN BK119.out) hb)
           have n1_ := m_ (below_step (bN HB.out) hb)
           have n2_ := m_ (hbox)
           have n3_ := m_ ((by rw [hg]; exact (below_size (bN HB.out)) : w.heap.size ≤ gb124))
           have n4_ := m_ ((by rw [hg]; exact (below_size (bN HB.out)) : w.heap.size ≤ gb124))
           have n5_ := m_ ((by rw [hg]; exact Nat.ne_of_lt (blk_lt (g := gb119) (o := .cells #[.bool false, .int .i64 0, .int .i64 0, .string (⟨#[]⟩ : ByteArray)] 53 (0, 0)) (kN BK119.out)) : gb119 ≠ gb124))
           have n6_ := m_ ((by rw [hg]; exact Nat.ne_of_gt (blk_lt (g := gb119) (o := .cells #[.bool false, .int .i64 0, .int .i64 0, .string (⟨#[]⟩ : ByteArray)] 53 (0, 0)) (kN BK119.out)) : gb124 ≠ gb119))
           clear BK119
           clear HB
           have BK119 := n0_
           have HB := n1_
           have BK124 := n2_
           have GW124 := n3_
           have GE124 := n4_
           have NB119_124 := n5_
           have NB124_119 := n6_
           clear n0_ n1_ n2_ n3_ n4_ n5_ n6_
           clear hb hbox hg
           refine hK.out _ _ trivial (fun hHeld => ?_)
           clear hK K
           refine np (h := ?_)
           refine one_ (i := 9) (N := some 40) #[true, true, true, true, true, true, true, true, true, true, false, true, true, true, true, true, true, true, false, true, false] rfl rfl (one_of HT_.out (by kernel_rfl)) (by decide) (fun K hK => ?_)
           refine goes_ Tryd.func90 (by kernel_rfl) rfl #[.string a0, .int .i64 (wrap64 (a1 + 2)), .int .i64 2] (by rfl) rfl rfl gl_ ?_
           with_reducible refine (spec_l1Get.calls k a0 (wrap64 (a1 + 2)) 2 t123 _ A10.out).mono ?_
           rintro e w' ⟨rfl, ⟨nd, rfl⟩⟩
           refine ⟨_, rfl, ?_⟩
           refine hK.out _ _ trivial (fun hHeld => ?_)
           clear hK K
           refine np (h := ?_)
           refine pu 10 41 HT_ (h := ?_)
           refine pu 18 49 HT_ (h := ?_)
           exact nq (hCont (gb124) _ ⟨(kN BK119.out), (kN BK124.out), GW124.out, GE124.out, NB119_124.out, NB124_119.out, (bN HB.out)⟩)
         rintro gb124 w37 ⟨h0_, h1_, h2_, h3_, h4_, h5_, h6_⟩
         have n0_ : Aside0 (w37.heap[gb119]? = some (.cells #[.bool false, .int .i64 0, .int .i64 0, .string (⟨#[]⟩ : ByteArray)] 53 (0, 0))) := ⟨h0_⟩
         have n1_ : Aside0 (w37.heap[gb124]? = some (.cells #[.bool false, .int .i64 0, .int .i64 0, .string (⟨#[]⟩ : ByteArray)] 53 (0, 0))) := ⟨h1_⟩
         have n2_ : Aside0 (w.heap.size ≤ gb124) := ⟨h2_⟩
         have n3_ : Aside0 (w.heap.size ≤ gb124) := ⟨h3_⟩
         have n4_ : Aside0 (gb119 ≠ gb124) := ⟨h4_⟩
         have n5_ : Aside0 (gb124 ≠ gb119) := ⟨h5_⟩
         have n6_ : Aside0 (Below w.heap.size w w37) := ⟨h6_⟩
         clear BK119
         clear HB
         clear h0_ h1_ h2_ h3_ h4_ h5_ h6_
         have BK119 := n0_
         have BK124 := n1_
         have GW124 := n2_
         have GE124 := n3_
         have NB119_124 := n4_
         have NB124_119 := n5_
         have HB := n6_
         clear n0_ n1_ n2_ n3_ n4_ n5_ n6_
         have hHeld := trivial
         refine norm_ (a' := ?_) ?_ ?_
         rotate_left
         ·simp only [putAll, Act.put, List.setIfInBounds_toArray, List.set_cons_zero, List.set_cons_succ]
          rfl
         refine one_ (i := 20) (N := none) #[true, true, true, true, true, true, true, true, true, true, true, true, true, true, true, true, true, true, true, true, true] rfl rfl (one_of HT_.out (by kernel_rfl)) (by decide) (fun K hK => ?_)
         have hs38 : w37.cell? ⟨gb124, 0, none⟩ = some (.bool false) := bc BK124 0
         have hfs38 := blk_frozen BK124.out 0
         have hns38_0 := NB119_124.out
         have hms38_0 := NB124_119.out
         have hs39 : w37.cell? ⟨gb124, 1, none⟩ = some (.int .i64 0) := bc BK124 1
         have hfs39 := blk_frozen BK124.out 1
         have hns39_0 := NB119_124.out
         have hms39_0 := NB124_119.out
         have hs40 : w37.cell? ⟨gb124, 2, none⟩ = some (.int .i64 0) := bc BK124 2
         have hfs40 := blk_frozen BK124.out 2
         have hns40_0 := NB119_124.out
         have hms40_0 := NB124_119.out
         have hs41 : w37.cell? ⟨gb124, 3, none⟩ = some (.string (⟨#[]⟩ : ByteArray)) := bc BK124 3
         have hfs41 := blk_frozen BK124.out 3
         have hns41_0 := NB119_124.out
         have hms41_0 := NB124_119.out
         refine skip_ (w1 := ?_) (by rfl) rfl ?_ ?_
         rotate_left
         ·go_simp
          rfl
         refine hK.out _ _ trivial (fun hHeld => ?_)
         clear hK K
         refine done_ (done_of HT_.out (by kernel_rfl)) ?_
         try go_wp2
         have n0_ : Aside0 (((((w37.setCell ⟨gb124, 0, none⟩ (.bool ((Int.tmod (wrap64 (Int.tdiv t121 4096)) 2) == 1))).setCell ⟨gb124, 1, none⟩ (.int .i64 (Int.tmod t121 2048))).setCell ⟨gb124, 2, none⟩ (.int .i64 (Int.tmod t123 16384))).setCell ⟨gb124, 3, none⟩ (.string (a0.extract ((ji11) : Int).toNat ((wrap64 (a1 + (wrap64 (t122 + 7)))) : Int).toNat))).heap[gb119]? = some (.cells #[.bool false, .int .i64 0, .int .i64 0, .string (⟨#[]⟩ : ByteArray)] 53 (0, 0))) := ⟨kF BK119.out NB119_124.out⟩
         have n1_ : Aside0 (((((w37.setCell ⟨gb124, 0, none⟩ (.bool ((Int.tmod (wrap64 (Int.tdiv t121 4096)) 2) == 1))).setCell ⟨gb124, 1, none⟩ (.int .i64 (Int.tmod t121 2048))).setCell ⟨gb124, 2, none⟩ (.int .i64 (Int.tmod t123 16384))).setCell ⟨gb124, 3, none⟩ (.string (a0.extract ((ji11) : Int).toNat ((wrap64 (a1 + (wrap64 (t122 + 7)))) : Int).toNat))).heap[gb124]? = some (.cells #[.bool ((Int.tmod (wrap64 (Int.tdiv t121 4096)) 2) == 1), .int .i64 (Int.tmod t121 2048), .int .i64 (Int.tmod t123 16384), .string (a0.extract ((ji11) : Int).toNat ((wrap64 (a1 + (wrap64 (t122 + 7)))) : Int).toNat)] 53 (0, 0))) := ⟨kP BK124.out⟩
         have n2_ : Aside0 (Below w.heap.size w ((((w37.setCell ⟨gb124, 0, none⟩ (.bool ((Int.tmod (wrap64 (Int.tdiv t121 4096)) 2) == 1))).setCell ⟨gb124, 1, none⟩ (.int .i64 (Int.tmod t121 2048))).setCell ⟨gb124, 2, none⟩ (.int .i64 (Int.tmod t123 16384))).setCell ⟨gb124, 3, none⟩ (.string (a0.extract ((ji11) : Int).toNat ((wrap64 (a1 + (wrap64 (t122 + 7)))) : Int).toNat)))) := ⟨by repeat (first | (with_reducible first | exact HB.out | apply below_alloc | apply pw_below_drewN | apply below_drew1 | refine below_set ?_ GE119.out | refine below_set ?_ GE124.out) | exact HB.out)⟩
         (try clear BK119)
         (try clear BK124)
         (try clear HB)
         generalize ((((w37.setCell ⟨gb124, 0, none⟩ (.bool ((Int.tmod (wrap64 (Int.tdiv t121 4096)) 2) == 1))).setCell ⟨gb124, 1, none⟩ (.int .i64 (Int.tmod t121 2048))).setCell ⟨gb124, 2, none⟩ (.int .i64 (Int.tmod t123 16384))).setCell ⟨gb124, 3, none⟩ (.string (a0.extract ((ji11) : Int).toNat ((wrap64 (a1 + (wrap64 (t122 + 7)))) : Int).toNat))) = w42 at n0_ n1_ n2_ ⊢
         have BK119 := n0_
         have BK124 := n1_
         have HB := n2_
         clear n0_ n1_ n2_
         have n0_ := m_ (blk_drew BK119.out)
         have n1_ := m_ (blk_drew BK124.out)
         have n2_ := m_ (below_drew1 HB.out)
         clear BK119
         clear BK124
         clear HB
         have BK119 := n0_
         have BK124 := n1_
         have HB := n2_
         clear n0_ n1_ n2_
         refine start_ (n := 9) (S := fun w' => w'.cell? ⟨gb124, 0, none⟩ = some (.bool ((Int.tmod (wrap64 (Int.tdiv t121 4096)) 2) == 1)) ∧ w'.cell? ⟨gb124, 1, none⟩ = some (.int .i64 (Int.tmod t121 2048)) ∧ w'.cell? ⟨gb124, 2, none⟩ = some (.int .i64 (Int.tmod t123 16384)) ∧ w'.cell? ⟨gb124, 3, none⟩ = some (.string (a0.extract ((ji11) : Int).toNat ((wrap64 (a1 + (wrap64 (t122 + 7)))) : Int).toNat))) (ds := []) #[false, false, false, false, false, false, false, false, false] (by kernel_rfl) rfl rfl ⟨bc BK124 0, bc BK124 1, bc BK124 2, bc BK124 3⟩ (fun hHeld => ?_); refine with_tabW spec_PacketGet.tab8 spec_PacketGet.bits8 (fun HT_ HW_ => ?_)
         generalize w42.drew = w43 at BK119 BK124 HB hHeld ⊢
         refine pu 2 52 HT_ (h := ?_)
         refine pu 3 53 HT_ (h := ?_)
         refine pu 4 54 HT_ (h := ?_)
         refine pu 5 55 HT_ (h := ?_)
         refine pu 6 56 HT_ (h := ?_)
         refine pu 7 57 HT_ (h := ?_)
         refine take_ (i := 0) (N := some 50) (v := ?_) (a' := ?_) #[true, false, true, true, true, true, true, true, false] rfl rfl (take_ofW HT_.out HW_.out (by kernel_rfl)) (fun _ _ _ h => h) (Or.inl ⟨by rfl, ?_⟩) hHeld ?_ ?_
         rotate_left
         ·rintro w' ⟨s0, s1, s2, s3⟩
          go_simp
          with_reducible rfl
         rotate_left
         ·simp only [Act.put, List.setIfInBounds_toArray, List.set_cons_zero, List.set_cons_succ, i64_w, i32_w]
          rfl
         refine one_ (i := 1) (N := some 51) #[true, true, true, true, true, true, true, true, false] rfl rfl (one_of HT_.out (by kernel_rfl)) (by decide) (fun K hK => ?_)
         refine goes_ Tryd.func91 (by kernel_rfl) rfl #[.agg #[.bool ((Int.tmod (wrap64 (Int.tdiv t121 4096)) 2) == 1), .int .i64 (Int.tmod t121 2048), .int .i64 (Int.tmod t123 16384), .string (a0.extract ((ji11) : Int).toNat ((wrap64 (a1 + (wrap64 (t122 + 7)))) : Int).toNat)]] (by rfl) rfl rfl (by (try simp only [List.map_toArray, List.map_cons, List.map_nil]); first | done | (simp only [hji11]; rfl) | rfl | (simp only [List.length_drop, List.length_take]; rfl)) ?_
         with_reducible refine (spec_PacketPut.calls k ((Int.tmod (wrap64 (Int.tdiv t121 4096)) 2) == 1) (Int.tmod t121 2048) (Int.tmod t123 16384) (a0.extract ((ji11) : Int).toNat ((wrap64 (a1 + (wrap64 (t122 + 7)))) : Int).toNat) t125 _ A15.out).mono ?_
         rintro e w44 ⟨rfl, hb⟩
         refine ⟨_, rfl, ?_⟩
         have n0_ := m_ (blk_below (g := gb119) (o := .cells #[.bool false, .int .i64 0, .int .i64 0, .string (⟨#[]⟩ : ByteArray)] 53 (0, 0)) (kN BK119.out) hb)
         have n1_ := m_ (blk_below (kN BK124.out) hb)
         have n2_ := m_ (below_step (bN HB.out) hb)
         clear BK119
         clear BK124
         clear HB
         have BK119 := n0_
         have BK124 := n1_
         have HB := n2_
         clear n0_ n1_ n2_
         (try clear hb)
         (try clear hb2)
         (try clear hk)
         (try clear hi)
         refine hK.out _ _ ⟨bc BK124 0, bc BK124 1, bc BK124 2, bc BK124 3⟩ (fun hHeld => ?_)
         clear hK K
         refine np (h := ?_)
         refine pu 8 58 HT_ (h := ?_)
         refine done_ (done_of HT_.out (by kernel_rfl)) ?_
         have hnb45 := NB119_124.out
         have hnc45 := NB124_119.out
         have hcz46_0 : w44.cell? ⟨gb119, 0, none⟩ = some (.bool false) := bc BK119 0
         have hcz46_1 : w44.cell? ⟨gb119, 1, none⟩ = some (.int .i64 0) := bc BK119 1
         have hcz46_2 : w44.cell? ⟨gb119, 2, none⟩ = some (.int .i64 0) := bc BK119 2
         have hcz46_3 : w44.cell? ⟨gb119, 3, none⟩ = some (.string (⟨#[]⟩ : ByteArray)) := bc BK119 3
         have hfz46_0 := blk_frozen BK119.out 0
         have hfz46_1 := blk_frozen BK119.out 1
         have hfz46_2 := blk_frozen BK119.out 2
         have hfz46_3 := blk_frozen BK119.out 3
         try go_wp2
         refine bodyPost_ret (results_ct rfl _ _ gb119 53 #[.bool false, .int .i64 0, .int .i64 0, .string (⟨#[]⟩ : ByteArray)] (0, 0) _ rfl (kP BK119.out) Tryd.underlying53 rfl (by kernel_rfl)) rfl ?_
         exact ⟨by first | rfl | (simp [errW_none, errW_some] <;> rfl) | (simp only [← hji11]; first | rfl | (simp [errW_none, errW_some] <;> rfl)) | (simp [*, errW_none, errW_some] <;> rfl), by repeat (first | (with_reducible first | exact HB.out | apply below_alloc | apply pw_below_drewN | apply below_drew1 | refine below_set ?_ GE119.out | refine below_set ?_ GE124.out) | exact HB.out)⟩
       ·rw [if_neg c17] at H
        exact absurd H (by simp)
      ·rw [if_neg c16] at H
       exact absurd H (by simp)
     ·rw [if_neg c14] at H
      exact absurd H (by simp)
    ·rw [if_neg c13] at H
     exact absurd H (by simp)
   ·rw [if_neg c12] at H
    exact absurd H (by simp)
 ·replace c4 := Bool.eq_false_iff.mpr c4
  subst c4
  have H1 : (some (false, 0, 0, (⟨#[]⟩ : ByteArray), 0)) = some (r1, r2, r3, r4, r5) := by rw [if_neg (show ¬ (false = true) by decide)] at H; exact H
  clear H
  have H := H1
  clear H1
  simp only [Option.some.injEq, Prod.mk.injEq] at H
  obtain ⟨rfl, rfl, rfl, rfl, rfl⟩ := H
  go_enter Tryd.func65, Tryd.ntmps65
  go_wp2_with (first | ((with_reducible refine gate_dst (N := 4) rfl ?_); refine box_event ?hg (N := 4) ?hd (cs := #[.bool false, .int .i64 0, .int .i64 0, .string (⟨#[]⟩ : ByteArray)]) (t := 53) ?hr ?_; (case hd => rfl); (case hg => rfl); (case hr => first | (go_simp; done) | (go_simp; rfl)); intro gb119 hg w47 hbox hb; have n0_ := m_ (below_step (bN HB.out) hb); have n1_ := m_ (hbox); have n2_ := m_ ((by rw [hg]; exact (below_size (bN HB.out)) : w.heap.size ≤ gb119)); have n3_ := m_ ((by rw [hg]; exact (below_size (bN HB.out)) : w.heap.size ≤ gb119)); clear HB; have HB := n0_; have BK119 := n1_; have GW119 := n2_; have GE119 := n3_; clear n0_ n1_ n2_ n3_; clear hb hbox hg) | ((with_reducible refine gate_callee (f := 30) rfl ?_); refine goesL_ (some 13) rfl rfl Tryd.func30 (by kernel_rfl) rfl #[.int .i64 a1, .int .i64 0, .int .i64 (wrap64 ((a0.size : Int) - 7))] rfl gl_ ?_; (with_reducible refine (spec_l1In.calls a1 0 (wrap64 ((a0.size : Int) - 7)) false _ A3.out).mono ?_); rintro e w' ⟨rfl, ⟨nd, rfl⟩⟩; refine ⟨_, rfl, ?_⟩; (try (rw [drewN_self w47]; generalize hq_ : World.drewN w47 _ = w47; have n0_ : Aside0 (w47.heap[gb119]? = some (.cells #[.bool false, .int .i64 0, .int .i64 0, .string (⟨#[]⟩ : ByteArray)] 53 (0, 0))) := ⟨by rw [← hq_]; exact (kN BK119.out)⟩; have n1_ : Aside0 (Below w.heap.size w w47) := ⟨by rw [← hq_]; exact (bN HB.out)⟩; clear BK119 HB hq_; have BK119 := n0_; have HB := n1_; clear n0_ n1_)); have hcz48_0 : w47.cell? ⟨gb119, 0, none⟩ = some (.bool false) := bc BK119 0; have hcz48_1 : w47.cell? ⟨gb119, 1, none⟩ = some (.int .i64 0) := bc BK119 1; have hcz48_2 : w47.cell? ⟨gb119, 2, none⟩ = some (.int .i64 0) := bc BK119 2; have hcz48_3 : w47.cell? ⟨gb119, 3, none⟩ = some (.string (⟨#[]⟩ : ByteArray)) := bc BK119 3; have hfz48_0 := blk_frozen BK119.out 0; have hfz48_1 := blk_frozen BK119.out 1; have hfz48_2 := blk_frozen BK119.out 2; have hfz48_3 := blk_frozen BK119.out 3))
  refine bodyPost_ret (results_ct rfl _ _ gb119 53 #[.bool false, .int .i64 0, .int .i64 0, .string (⟨#[]⟩ : ByteArray)] (0, 0) _ rfl (kP BK119.out) Tryd.underlying53 rfl (by kernel_rfl)) rfl ?_
  exact ⟨by first | rfl | (simp [errW_none, errW_some] <;> rfl) | (simp [*, errW_none, errW_some] <;> rfl), by repeat (first | (with_reducible first | exact HB.out | apply below_alloc | apply pw_below_drewN | apply below_drew1 | refine below_set ?_ GE119.out) | exact HB.out)⟩

/-! ### spec_l12Pack: function 29 -/
def spec_l12Pack.f (k : Nat) (a0 : ByteArray) : Option (Bool) := (spec_PacketGet.f k a0 0).bind fun bt126 => (if bt126.2.2.2.2 > 0 then (some (bt126.2.2.2.2 == (a0.size : Int))) else (some false))
theorem spec_l12Pack.mono : ∀ a0 k, LeO (spec_l12Pack.f k a0) (spec_l12Pack.f (k + 1) a0) := by
 intro a0 k
 unfold spec_l12Pack.f
 repeat' first
   | (with_reducible exact spec_PacketGet.mono _ _ _)
   | (with_reducible exact LeO.refl _)
   | (with_reducible exact LeO.none _)
   | (with_reducible refine LeO.ite ?_ ?_)
   | (with_reducible refine LeO.bind ?_ (fun _ => ?_))
   | exact spec_PacketGet.mono _ _ _
   | exact LeO.none _
   | refine LeO.ite ?_ ?_
   | refine LeO.bind ?_ (fun _ => ?_)
set_option maxHeartbeats 8000000 in
set_option maxRecDepth 100000 in
theorem spec_l12Pack.calls (k : Nat) (a0 : ByteArray) (r : Bool) (w : World) (h : spec_l12Pack.f k a0 = some r) :
  Calls Tryd.prog 29 #[.string a0] w fun e w' => e = .returned (.bool r) ∧ Below w.heap.size w w' := by
 have hu53 := Tryd.underlying53
 have HB := m_ (Below.refl w.heap.size w)
 have H : ((spec_PacketGet.f k a0 0).bind fun bt126 => (if bt126.2.2.2.2 > 0 then (some (bt126.2.2.2.2 == (a0.size : Int))) else (some false))) = some r := h
 clear h
 replace H := Option.bind_eq_some_iff.mp H
 obtain ⟨⟨t126, t127, t128, t129, t130⟩, A20, H⟩ := H
 replace H : (if t130 > 0 then (some (t130 == (a0.size : Int))) else (some false)) = some r := H
 have A2 := Aside0.mk A20
 clear A20
 by_cases c3 : t130 > 0
 ·rw [if_pos c3] at H
  have c3b0 : decide (0 < t130) = true := decide_eq_true c3
  clear c3
  obtain rfl := Option.some.inj H
  go_enter Tryd.func29, Tryd.ntmps29
  go_wp2_with (first | ((with_reducible refine gate_callee (f := 65) rfl ?_); refine goesL_ (some 7) rfl rfl Tryd.func65 (by kernel_rfl) rfl #[.string a0, .int .i64 0] rfl gl_ ?_; (with_reducible refine (spec_PacketGet.calls k a0 0 t126 t127 t128 t129 t130 _ A2.out).mono ?_); rintro e w4 ⟨rfl, hb⟩; refine ⟨_, rfl, ?_⟩; have n0_ := m_ (below_step (bN HB.out) hb); clear HB; have HB := n0_; clear n0_; (try clear hb); (try clear hb2); (try clear hk); (try clear hi)) | ((with_reducible refine gate_dst (N := 3) rfl ?_); (try (refine gate_guard (by rfl) ?_; dsimp only)); refine box_event ?hg (N := 3) ?hd (cs := #[.bool false, .int .i64 0, .int .i64 0, .string (⟨#[]⟩ : ByteArray)]) (t := 53) ?hr ?_; (case hd => rfl); (case hg => rfl); (case hr => first | (go_simp; done) | (go_simp; rfl)); intro gb131 hg w5 hbox hb; have n0_ := m_ (below_step (bN HB.out) hb); have n1_ := m_ (hbox); have n2_ := m_ ((by rw [hg]; exact (below_size (bN HB.out)) : w.heap.size ≤ gb131)); have n3_ := m_ ((by rw [hg]; exact (below_size (bN HB.out)) : w.heap.size ≤ gb131)); clear HB; have HB := n0_; have BK131 := n1_; have GW131 := n2_; have GE131 := n3_; clear n0_ n1_ n2_ n3_; clear hb hbox hg; have hcz6_0 : w5.cell? ⟨gb131, 0, none⟩ = some (.bool false) := bc BK131 0; have hcz6_1 : w5.cell? ⟨gb131, 1, none⟩ = some (.int .i64 0) := bc BK131 1; have hcz6_2 : w5.cell? ⟨gb131, 2, none⟩ = some (.int .i64 0) := bc BK131 2; have hcz6_3 : w5.cell? ⟨gb131, 3, none⟩ = some (.string (⟨#[]⟩ : ByteArray)) := bc BK131 3; have hfz6_0 := blk_frozen BK131.out 0; have hfz6_1 := blk_frozen BK131.out 1; have hfz6_2 := blk_frozen BK131.out 2; have hfz6_3 := blk_frozen BK131.out 3))
  go_ret
  exact ⟨by first | rfl | (simp [errW_none, errW_some] <;> rfl) | (simp [*, errW_none, errW_some] <;> rfl), by repeat (first | (with_reducible first | exact HB.out | apply below_alloc | apply pw_below_drewN | apply below_drew1 | refine below_set ?_ GE131.out) | exact HB.out)⟩
 ·rw [if_neg c3] at H
  have c3b0 : decide (0 < t130) = false := decide_eq_false c3
  clear c3
  obtain rfl := Option.some.inj H
  go_enter Tryd.func29, Tryd.ntmps29
  go_wp2_with (first | ((with_reducible refine gate_callee (f := 65) rfl ?_); refine goesL_ (some 7) rfl rfl Tryd.func65 (by kernel_rfl) rfl #[.string a0, .int .i64 0] rfl gl_ ?_; (with_reducible refine (spec_PacketGet.calls k a0 0 t126 t127 t128 t129 t130 _ A2.out).mono ?_); rintro e w7 ⟨rfl, hb⟩; refine ⟨_, rfl, ?_⟩; have n0_ := m_ (below_step (bN HB.out) hb); clear HB; have HB := n0_; clear n0_; (try clear hb); (try clear hb2); (try clear hk); (try clear hi)) | ((with_reducible refine gate_dst (N := 3) rfl ?_); (try (refine gate_guard (by rfl) ?_; dsimp only)); refine box_event ?hg (N := 3) ?hd (cs := #[.bool false, .int .i64 0, .int .i64 0, .string (⟨#[]⟩ : ByteArray)]) (t := 53) ?hr ?_; (case hd => rfl); (case hg => rfl); (case hr => first | (go_simp; done) | (go_simp; rfl)); intro gb131 hg w8 hbox hb; have n0_ := m_ (below_step (bN HB.out) hb); have n1_ := m_ (hbox); have n2_ := m_ ((by rw [hg]; exact (below_size (bN HB.out)) : w.heap.size ≤ gb131)); have n3_ := m_ ((by rw [hg]; exact (below_size (bN HB.out)) : w.heap.size ≤ gb131)); clear HB; have HB := n0_; have BK131 := n1_; have GW131 := n2_; have GE131 := n3_; clear n0_ n1_ n2_ n3_; clear hb hbox hg; have hcz9_0 : w8.cell? ⟨gb131, 0, none⟩ = some (.bool false) := bc BK131 0; have hcz9_1 : w8.cell? ⟨gb131, 1, none⟩ = some (.int .i64 0) := bc BK131 1; have hcz9_2 : w8.cell? ⟨gb131, 2, none⟩ = some (.int .i64 0) := bc BK131 2; have hcz9_3 : w8.cell? ⟨gb131, 3, none⟩ = some (.string (⟨#[]⟩ : ByteArray)) := bc BK131 3; have hfz9_0 := blk_frozen BK131.out 0; have hfz9_1 := blk_frozen BK131.out 1; have hfz9_2 := blk_frozen BK131.out 2; have hfz9_3 := blk_frozen BK131.out 3))
  go_ret
  exact ⟨by first | rfl | (simp [errW_none, errW_some] <;> rfl) | (simp [*, errW_none, errW_some] <;> rfl), by repeat (first | (with_reducible first | exact HB.out | apply below_alloc | apply pw_below_drewN | apply below_drew1 | refine below_set ?_ GE131.out) | exact HB.out)⟩

/-! ### spec_QueueOk: function 10 -/
def spec_QueueOk.l0 : Nat → Int → List ByteArray → Int → Option (Bool)
 | 0, _, _, _ => none
 | k + 1, x3, x133000, x133001 => if x3 < (x133000.length : Int) then (if 0 ≤ x3 then ((spec_l12Pack.f k (rdOf ByteArray.empty x133000 x3)).bind fun t134 => (if t134 = true then (spec_QueueOk.l0 k (wrap64 (x3 + 1)) x133000 x133001) else (some false))) else (none)) else (if (x133000.length : Int) = 0 then (some (x133001 == 0)) else (if (x133000.length : Int) ≤ 9 then (if 0 < (x133000.length : Int) then ((spec_l1In.f x133001 0 (wrap64 (((rdOf ByteArray.empty x133000 0).size : Int) - 1))).bind fun t136 => (some t136)) else (none)) else (some false)))
def spec_QueueOk.f (k : Nat) (l0_0 : List ByteArray) (a0_1 : Int) : Option (Bool) := spec_QueueOk.l0 k 0 l0_0 a0_1
theorem spec_QueueOk.mono_l : ∀ k, (∀ y0 y1 y2, LeO (spec_QueueOk.l0 k y0 y1 y2) (spec_QueueOk.l0 (k + 1) y0 y1 y2))
 | 0 => fun _ _ _ r h => by simp [spec_QueueOk.l0] at h
 | k + 1 => by
  have ih0 := spec_QueueOk.mono_l k
  ·intro y0 y1 y2
   unfold spec_QueueOk.l0
   repeat' first
   | (with_reducible exact ih0 _ _ _)
   | (with_reducible exact spec_l12Pack.mono _ _)
   | (with_reducible exact LeO.refl _)
   | (with_reducible exact LeO.none _)
   | (with_reducible refine LeO.ite ?_ ?_)
   | (with_reducible refine LeO.bind ?_ (fun _ => ?_))
   | exact ih0 _ _ _
   | exact spec_l12Pack.mono _ _
   | exact LeO.none _
   | refine LeO.ite ?_ ?_
   | refine LeO.bind ?_ (fun _ => ?_)
theorem spec_QueueOk.mono : ∀ a0 a1 k, LeO (spec_QueueOk.f k a0 a1) (spec_QueueOk.f (k + 1) a0 a1) := by
 intro a0 a1 k
 have ih0 := spec_QueueOk.mono_l k
 unfold spec_QueueOk.f
 repeat' first
   | (with_reducible exact ih0 _ _ _)
   | (with_reducible exact spec_l12Pack.mono _ _)
   | (with_reducible exact LeO.refl _)
   | (with_reducible exact LeO.none _)
   | (with_reducible refine LeO.ite ?_ ?_)
   | (with_reducible refine LeO.bind ?_ (fun _ => ?_))
   | exact ih0 _ _ _
   | exact spec_l12Pack.mono _ _
   | exact LeO.none _
   | refine LeO.ite ?_ ?_
   | refine LeO.bind ?_ (fun _ => ?_)
set_option maxHeartbeats 8000000 in
set_option maxRecDepth 100000 in
theorem spec_QueueOk.calls (k : Nat) (A0_0 : Option Addr) (c0_0 : Nat) (l0_0 : List ByteArray) (a0_1 : Int) (r : Bool) (w : World) (hr0_0 : Kd.C Kd.string w A0_0 l0_0.length l0_0) (hc0_0 : l0_0.length ≤ c0_0) (h : spec_QueueOk.f k l0_0 a0_1 = some r) :
  Calls Tryd.prog 10 #[.agg #[.slice A0_0 l0_0.length c0_0, .int .i64 a0_1]] w fun e w' => e = .returned (.bool r) ∧ Below w.heap.size w w' := by
 have hu27 := Tryd.underlying27
 have HR0_0 := Aside0.mk hr0_0
 have HC0_0 := Aside0.mk hc0_0
 clear hr0_0 hc0_0
 have HB := m_ (Below.refl w.heap.size w)
 have H : (spec_QueueOk.l0 k 0 l0_0 a0_1) = some r := h
 clear h
 have H' := Aside0.mk H
 clear H
 go_enter Tryd.func10, Tryd.ntmps10
 go_wp2_with (first | ((with_reducible refine gate_dst (N := 1) rfl ?_); (try (refine gate_guard (by rfl) ?_; dsimp only)); refine box_event ?hg (N := 1) ?hd (cs := #[.slice A0_0 l0_0.length c0_0, .int .i64 a0_1]) (t := 27) ?hr ?_; (case hd => rfl); (case hg => rfl); (case hr => first | (go_simp; done) | (go_simp; rfl)); intro gb132 hg w2 hbox hb; have n0_ := m_ (below_step (bN HB.out) hb); have n1_ := m_ (hbox); have n2_ := m_ ((by rw [hg]; exact (below_size (bN HB.out)) : w.heap.size ≤ gb132)); have n3_ := m_ ((by rw [hg]; exact (below_size (bN HB.out)) : w.heap.size ≤ gb132)); clear HB; have HB := n0_; have BK132 := n1_; have GW132 := n2_; have GE132 := n3_; clear n0_ n1_ n2_ n3_; clear hb hbox hg))
 repeat (go_quiet (first | ((with_reducible refine gate_dst (N := 1) rfl ?_); (try (refine gate_guard (by rfl) ?_; dsimp only)); refine box_event ?hg (N := 1) ?hd (cs := #[.slice A0_0 l0_0.length c0_0, .int .i64 a0_1]) (t := 27) ?hr ?_; (case hd => rfl); (case hg => rfl); (case hr => first | (go_simp; done) | (go_simp; rfl)); intro gb132 hg w2 hbox hb; have n0_ := m_ (below_step (bN HB.out) hb); have n1_ := m_ (hbox); have n2_ := m_ ((by rw [hg]; exact (below_size (bN HB.out)) : w.heap.size ≤ gb132)); have n3_ := m_ ((by rw [hg]; exact (below_size (bN HB.out)) : w.heap.size ≤ gb132)); clear HB; have HB := n0_; have BK132 := n1_; have GW132 := n2_; have GE132 := n3_; clear n0_ n1_ n2_ n3_; clear hb hbox hg)); try go_wp2_with (first | ((with_reducible refine gate_dst (N := 1) rfl ?_); (try (refine gate_guard (by rfl) ?_; dsimp only)); refine box_event ?hg (N := 1) ?hd (cs := #[.slice A0_0 l0_0.length c0_0, .int .i64 a0_1]) (t := 27) ?hr ?_; (case hd => rfl); (case hg => rfl); (case hr => first | (go_simp; done) | (go_simp; rfl)); intro gb132 hg w2 hbox hb; have n0_ := m_ (below_step (bN HB.out) hb); have n1_ := m_ (hbox); have n2_ := m_ ((by rw [hg]; exact (below_size (bN HB.out)) : w.heap.size ≤ gb132)); have n3_ := m_ ((by rw [hg]; exact (below_size (bN HB.out)) : w.heap.size ≤ gb132)); clear HB; have HB := n0_; have BK132 := n1_; have GW132 := n2_; have GE132 := n3_; clear n0_ n1_ n2_ n3_; clear hb hbox hg)))
 go_loopg [3] k (fun kq v3 w' => ∃ (x3_1 : Int), v3 = .int .i64 x3_1 ∧ Aside0 (spec_QueueOk.l0 kq x3_1 l0_0 a0_1 = some r) ∧ Aside0 (kq ≤ k) ∧ Aside0 (w'.heap[gb132]? = some (.cells #[(.slice A0_0 l0_0.length c0_0), .int .i64 a0_1] 27 (0, 0))) ∧ Aside0 (Below w.heap.size w w'))
 case atStart => exact ⟨(0), (by first | rfl | (simp; done) | (simp [*]; done)), H', ⟨Nat.le_refl _⟩, ⟨kN BK132.out⟩, ⟨by repeat (first | (with_reducible first | exact HB.out | apply below_alloc | apply pw_below_drewN | apply below_drew1 | refine below_set ?_ GE132.out) | exact HB.out)⟩⟩
 case round =>
  clear H'
  try clear c1
  try clear p2
  obtain ⟨x3_1, rfl, HA, HK1, BK132, HB⟩ := hrel
  cases gk with
  | zero => exact absurd HA.out (by simp [spec_QueueOk.l0])
  | succ k1 =>
   have H := HA.out
   clear HA
   simp only [spec_QueueOk.l0] at H
   by_cases c3 : x3_1 < (l0_0.length : Int)
   ·rw [if_pos c3] at H
    have c3b0 : decide (x3_1 < (l0_0.length : Int)) = true := decide_eq_true c3
    clear c3
    by_cases c4 : 0 ≤ x3_1
    ·rw [if_pos c4] at H
     have c4b0 : decide (0 ≤ x3_1) = true := decide_eq_true c4
     clear c4
     replace H := Option.bind_eq_some_iff.mp H
     obtain ⟨t134, A50, H⟩ := H
     replace H : (if t134 = true then (spec_QueueOk.l0 k1 (wrap64 (x3_1 + 1)) l0_0 a0_1) else (some false)) = some r := H
     have A5 := Aside0.mk A50
     clear A50
     by_cases c6 : t134 = true
     ·subst c6
      have H1 : (spec_QueueOk.l0 k1 (wrap64 (x3_1 + 1)) l0_0 a0_1) = some r := by rw [if_pos rfl] at H; exact H
      clear H
      have H := H1
      clear H1
      have H' := Aside0.mk H
      clear H
      have hcz7_0 : wr.cell? ⟨gb132, 0, none⟩ = some (.slice A0_0 l0_0.length c0_0) := bc BK132 0
      have hcz7_1 : wr.cell? ⟨gb132, 1, none⟩ = some (.int .i64 a0_1) := bc BK132 1
      have hfz7_0 := blk_frozen BK132.out 0
      have hfz7_1 := blk_frozen BK132.out 1
      have p133 : 0 ≤ (x3_1 : Int) := of_decide_eq_true (by first | (with_reducible assumption) | assumption)
      have q133 : x3_1 < (l0_0.length : Int) := of_decide_eq_true (by first | (with_reducible assumption) | assumption)
      obtain ⟨ad133, e133, hx133_0⟩ := Kd.at_string HR0_0.out x3_1 p133 q133
      cases e133
      replace hx133_0 := (HB.out.cell (World.block_lt_of_cell? w _ hx133_0)).trans hx133_0
      replace p133 := eq_true p133
      replace q133 := eq_true q133
      go_wp2_with (first | (go_at_call 29; (with_reducible refine (spec_l12Pack.calls k1 (rdOf ByteArray.empty l0_0 x3_1) true _ A5.out).mono ?_); rintro e w8 ⟨rfl, hb⟩; have n0_ := m_ (blk_below (kN BK132.out) hb); have n1_ := m_ (below_step (bN HB.out) hb); clear BK132; clear HB; have BK132 := n0_; have HB := n1_; clear n0_ n1_; (try clear hb); (try clear hb2); (try clear hk); (try clear hi)))
      repeat (go_quiet (first | (go_at_call 29; (with_reducible refine (spec_l12Pack.calls k1 (rdOf ByteArray.empty l0_0 x3_1) true _ A5.out).mono ?_); rintro e w8 ⟨rfl, hb⟩; have n0_ := m_ (blk_below (kN BK132.out) hb); have n1_ := m_ (below_step (bN HB.out) hb); clear BK132; clear HB; have BK132 := n0_; have HB := n1_; clear n0_ n1_; (try clear hb); (try clear hb2); (try clear hk); (try clear hi))); try go_wp2_with (first | (go_at_call 29; (with_reducible refine (spec_l12Pack.calls k1 (rdOf ByteArray.empty l0_0 x3_1) true _ A5.out).mono ?_); rintro e w8 ⟨rfl, hb⟩; have n0_ := m_ (blk_below (kN BK132.out) hb); have n1_ := m_ (below_step (bN HB.out) hb); clear BK132; clear HB; have BK132 := n0_; have HB := n1_; clear n0_ n1_; (try clear hb); (try clear hb2); (try clear hk); (try clear hi))))
      go_roundg k1
      case measure => have := HK1.out; omega
      case rel => exact ⟨(wrap64 (x3_1 + 1)), (by first | rfl | (simp; done) | (simp [*]; done)), H', ⟨by have := HK1.out; omega⟩, ⟨kN BK132.out⟩, ⟨by repeat (first | (with_reducible first | exact HB.out | apply below_alloc | apply pw_below_drewN | apply below_drew1 | refine below_set ?_ GE132.out) | exact HB.out)⟩⟩
     ·replace c6 := Bool.eq_false_iff.mpr c6
      subst c6
      have H1 : (some false) = some r := by rw [if_neg (show ¬ (false = true) by decide)] at H; exact H
      clear H
      have H := H1
      clear H1
      obtain rfl := Option.some.inj H
      have hcz9_0 : wr.cell? ⟨gb132, 0, none⟩ = some (.slice A0_0 l0_0.length c0_0) := bc BK132 0
      have hcz9_1 : wr.cell? ⟨gb132, 1, none⟩ = some (.int .i64 a0_1) := bc BK132 1
      have hfz9_0 := blk_frozen BK132.out 0
      have hfz9_1 := blk_frozen BK132.out 1
      have p133 : 0 ≤ (x3_1 : Int) := of_decide_eq_true (by first | (with_reducible assumption) | assumption)
      have q133 : x3_1 < (l0_0.length : Int) := of_decide_eq_true (by first | (with_reducible assumption) | assumption)
      obtain ⟨ad133, e133, hx133_0⟩ := Kd.at_string HR0_0.out x3_1 p133 q133
      cases e133
      replace hx133_0 := (HB.out.cell (World.block_lt_of_cell? w _ hx133_0)).trans hx133_0
      replace p133 := eq_true p133
      replace q133 := eq_true q133
      go_wp2_with (first | (go_at_call 29; (with_reducible refine (spec_l12Pack.calls k1 (rdOf ByteArray.empty l0_0 x3_1) false _ A5.out).mono ?_); rintro e w10 ⟨rfl, hb⟩; have n0_ := m_ (blk_below (kN BK132.out) hb); have n1_ := m_ (below_step (bN HB.out) hb); clear BK132; clear HB; have BK132 := n0_; have HB := n1_; clear n0_ n1_; (try clear hb); (try clear hb2); (try clear hk); (try clear hi)))
      repeat (go_quiet (first | (go_at_call 29; (with_reducible refine (spec_l12Pack.calls k1 (rdOf ByteArray.empty l0_0 x3_1) false _ A5.out).mono ?_); rintro e w10 ⟨rfl, hb⟩; have n0_ := m_ (blk_below (kN BK132.out) hb); have n1_ := m_ (below_step (bN HB.out) hb); clear BK132; clear HB; have BK132 := n0_; have HB := n1_; clear n0_ n1_; (try clear hb); (try clear hb2); (try clear hk); (try clear hi))); try go_wp2_with (first | (go_at_call 29; (with_reducible refine (spec_l12Pack.calls k1 (rdOf ByteArray.empty l0_0 x3_1) false _ A5.out).mono ?_); rintro e w10 ⟨rfl, hb⟩; have n0_ := m_ (blk_below (kN BK132.out) hb); have n1_ := m_ (below_step (bN HB.out) hb); clear BK132; clear HB; have BK132 := n0_; have HB := n1_; clear n0_ n1_; (try clear hb); (try clear hb2); (try clear hk); (try clear hi))))
      go_ret
      exact ⟨by first | rfl | (simp [errW_none, errW_some] <;> rfl) | (simp [*, errW_none, errW_some] <;> rfl), by repeat (first | (with_reducible first | exact HB.out | apply below_alloc | apply pw_below_drewN | apply below_drew1 | refine below_set ?_ GE132.out) | exact HB.out)⟩
    ·rw [if_neg c4] at H
     exact absurd H (by simp)
   ·rw [if_neg c3] at H
    have c3b0 : decide (x3_1 < (l0_0.length : Int)) = false := decide_eq_false c3
    clear c3
    by_cases c11 : (l0_0.length : Int) = 0
    ·rw [if_pos c11] at H
     have c11b0 : ((l0_0.length : Int) == 0) = true := beq_iff_eq.mpr c11
     have c11b1 : ((l0_0.length : Int) != 0) = false := bne_eq_false_iff_eq.mpr c11
     clear c11
     obtain rfl := Option.some.inj H
     have hcz12_0 : wr.cell? ⟨gb132, 0, none⟩ = some (.slice A0_0 l0_0.length c0_0) := bc BK132 0
     have hcz12_1 : wr.cell? ⟨gb132, 1, none⟩ = some (.int .i64 a0_1) := bc BK132 1
     have hfz12_0 := blk_frozen BK132.out 0
     have hfz12_1 := blk_frozen BK132.out 1
     go_wp2
     repeat (go_quiet (fail); try go_wp2)
     go_ret
     exact ⟨by first | rfl | (simp [errW_none, errW_some] <;> rfl) | (simp [*, errW_none, errW_some] <;> rfl), by repeat (first | (with_reducible first | exact HB.out | apply below_alloc | apply pw_below_drewN | apply below_drew1 | refine below_set ?_ GE132.out) | exact HB.out)⟩
    ·rw [if_neg c11] at H
     have c11b0 : ((l0_0.length : Int) == 0) = false := beq_eq_false_iff_ne.mpr c11
     have c11b1 : ((l0_0.length : Int) != 0) = true := bne_iff_ne.mpr c11
     have c11b2 : ¬ (l0_0 = []) := fun h_ => c11 (by rw [h_]; rfl)
     by_cases c13 : (l0_0.length : Int) ≤ 9
     ·rw [if_pos c13] at H
      have c13b0 : decide ((l0_0.length : Int) ≤ 9) = true := decide_eq_true c13
      have c13b1 : decide (l0_0.length ≤ 9) = true := decide_eq_true (by omega)
      clear c13
      by_cases c14 : 0 < (l0_0.length : Int)
      ·rw [if_pos c14] at H
       have c14b0 : decide (0 < (l0_0.length : Int)) = true := decide_eq_true c14
       have c14b1 : decide (0 < l0_0.length) = true := decide_eq_true (by omega)
       clear c14
       replace H := Option.bind_eq_some_iff.mp H
       obtain ⟨t136, A150, H⟩ := H
       replace H : (some t136) = some r := H
       have A15 := Aside0.mk A150
       clear A150
       obtain rfl := Option.some.inj H
       have hcz16_0 : wr.cell? ⟨gb132, 0, none⟩ = some (.slice A0_0 l0_0.length c0_0) := bc BK132 0
       have hcz16_1 : wr.cell? ⟨gb132, 1, none⟩ = some (.int .i64 a0_1) := bc BK132 1
       have hfz16_0 := blk_frozen BK132.out 0
       have hfz16_1 := blk_frozen BK132.out 1
       have p135 : 0 ≤ (0 : Int) := (by omega)
       have q135 : 0 < (l0_0.length : Int) := of_decide_eq_true (by first | (with_reducible assumption) | assumption)
       obtain ⟨ad135, e135, hx135_0⟩ := Kd.at_string HR0_0.out 0 p135 q135
       cases e135
       have qi135 : (0 < l0_0.length) = True := eq_true (by omega)
       (try rw [show ((0 : Int)).toNat = 0 from rfl] at hx135_0)
       (try rw [Addr.add_zero'] at hx135_0)
       replace hx135_0 := (HB.out.cell (World.block_lt_of_cell? w _ hx135_0)).trans hx135_0
       replace p135 := eq_true p135
       replace q135 := eq_true q135
       go_wp2_with (first | (go_at_call 30; (with_reducible refine (spec_l1In.calls a0_1 0 (wrap64 (((rdOf ByteArray.empty l0_0 0).size : Int) - 1)) t136 _ A15.out).mono ?_); rintro e w' ⟨rfl, ⟨nd, rfl⟩⟩; (try first | exact ⟨rfl, _, World.drewN_drewN _ _ _⟩ | exact ⟨rfl, _, Eq.trans (World.drewN_drewN _ _ _) (congrArg (World.drewN _) (Nat.add_assoc _ _ _))⟩)))
       repeat (go_quiet (first | (go_at_call 30; (with_reducible refine (spec_l1In.calls a0_1 0 (wrap64 (((rdOf ByteArray.empty l0_0 0).size : Int) - 1)) t136 _ A15.out).mono ?_); rintro e w' ⟨rfl, ⟨nd, rfl⟩⟩; (try first | exact ⟨rfl, _, World.drewN_drewN _ _ _⟩ | exact ⟨rfl, _, Eq.trans (World.drewN_drewN _ _ _) (congrArg (World.drewN _) (Nat.add_assoc _ _ _))⟩))); try go_wp2_with (first | (go_at_call 30; (with_reducible refine (spec_l1In.calls a0_1 0 (wrap64 (((rdOf ByteArray.empty l0_0 0).size : Int) - 1)) t136 _ A15.out).mono ?_); rintro e w' ⟨rfl, ⟨nd, rfl⟩⟩; (try first | exact ⟨rfl, _, World.drewN_drewN _ _ _⟩ | exact ⟨rfl, _, Eq.trans (World.drewN_drewN _ _ _) (congrArg (World.drewN _) (Nat.add_assoc _ _ _))⟩))))
       go_ret
       exact ⟨by first | rfl | (simp [errW_none, errW_some] <;> rfl) | (simp [*, errW_none, errW_some] <;> rfl), by repeat (first | (with_reducible first | exact HB.out | apply below_alloc | apply pw_below_drewN | apply below_drew1 | refine below_set ?_ GE132.out) | exact HB.out)⟩
      ·rw [if_neg c14] at H
       exact absurd H (by simp)
     ·rw [if_neg c13] at H
      have c13b0 : decide ((l0_0.length : Int) ≤ 9) = false := decide_eq_false c13
      have c13b1 : decide (l0_0.length ≤ 9) = false := decide_eq_false (by omega)
      clear c13
      obtain rfl := Option.some.inj H
      have hcz17_0 : wr.cell? ⟨gb132, 0, none⟩ = some (.slice A0_0 l0_0.length c0_0) := bc BK132 0
      have hcz17_1 : wr.cell? ⟨gb132, 1, none⟩ = some (.int .i64 a0_1) := bc BK132 1
      have hfz17_0 := blk_frozen BK132.out 0
      have hfz17_1 := blk_frozen BK132.out 1
      go_wp2
      repeat (go_quiet (fail); try go_wp2)
      go_ret
      exact ⟨by first | rfl | (simp [errW_none, errW_some] <;> rfl) | (simp [*, errW_none, errW_some] <;> rfl), by repeat (first | (with_reducible first | exact HB.out | apply below_alloc | apply pw_below_drewN | apply below_drew1 | refine below_set ?_ GE132.out) | exact HB.out)⟩

/-! ### impl_readerOf: function 60 -/
def impl_readerOf.f (a0 : ByteArray) : Option (ByteArray × Int × Int × Bool) := some (a0, 0, -1, false)
set_option maxHeartbeats 8000000 in
set_option maxRecDepth 100000 in
theorem rd_reset_new (s : ByteArray) (W : World) :
    Calls Tryd.prog 83 #[.pointer (some ⟨W.heap.size, 0, none⟩), .string s] (W.alloc (.cells #[.string ⟨#[]⟩, .int .i64 0, .int .i64 0, .bool false] 95)) fun e w' => e = .returned (.tuple #[]) ∧ w' = W.alloc (.cells #[.string s, .int .i64 0, .int .i64 (-1), .bool false] 95) := by
  go_enter Tryd.func83, Tryd.ntmps83
  go_wp2_with fail
  first | go_end0 | ((try simp only [Exit.inBlock, Exit.then]); refine bodyPost_ret (results_none rfl _ _ _) rfl ?_)
  exact ⟨rfl, rfl⟩
set_option maxHeartbeats 8000000 in
set_option maxRecDepth 100000 in
theorem impl_readerOf.calls (a0 : ByteArray) (r1 : ByteArray) (r2 : Int) (r3 : Int) (r4 : Bool) (w0 w : World) (hB : Below w0.heap.size w0 w) (h : impl_readerOf.f a0 = some (r1, r2, r3, r4)) :
  Calls Tryd.prog 60 #[.string a0] w fun e w' => ∃ g_ : Nat, e = .returned (.pointer (some ⟨g_, 0, none⟩)) ∧ IsS95 w0 w' g_ r1 r2 r3 r4 ∧ Below w0.heap.size w0 w' ∧ Below w.heap.size w w' := by
  unfold impl_readerOf.f at h
  simp only [Option.some.injEq, Prod.mk.injEq] at h
  obtain ⟨rfl, rfl, rfl, rfl⟩ := h
  have hz := hB.size
  go_enter Tryd.func60, Tryd.ntmps60
  go_wp2_with (go_at_call 83; refine (rd_reset_new _ _).mono ?_; rintro e w' ⟨rfl, rfl⟩)
  go_ret
  exact ⟨_, rfl, ⟨heap_alloc_new _ _, hz⟩, hB.alloc hz _, (Below.refl _ _).alloc (Nat.le_refl _) _⟩

end Go.Proofs.YtokpagopokkjfaaDoor.P
