/- The machine side of these statements, function by function: what each Go function answers (as a Lean function), and that it does. Written by a program (mp.py) for this claim. -/
import Derived.Test.YtllchgipnfdneaaDoorPx0
import Derived.Test.YtllchgipnfdneaaDoorPx4
import Derived.Test.YtllchgipnfdneaaDoorPx10
namespace Go.Proofs.YtllchgipnfdneaaDoor.P
open Go.RowKit Go.Proofs.YtllchgipnfdneaaDoorW.PrintWords Go.Proofs.YtllchgipnfdneaaDoorW.PrintLast Go.Proofs.YtllchgipnfdneaaDoorW.PrintMore
attribute [local go_sem] max2_int min2_int max_two min_two max_three min_three max_four min_four   -- for this text's walks alone
set_option linter.unusedVariables false
set_option linter.unusedSimpArgs false

/-! ### spec_l14Spoil: function 72 -/
/-- '[]byte(s)': a new row, of which nothing else is. -/
theorem bytes_made {P : Program} (W0 : World) (src dst e : TypeId) (s : ByteArray) {u : TypeDesc} (hl : s.size ≤ 9223372036854775807) (hs : P.underlying src = some u) (hd : P.underlying dst = some (.slice e)) (he : P.underlying e = some (.int .u8)) :
    ∃ W c, (convert src dst (.string s)).run P W0 = .ok (.slice (some ⟨W0.heap.size, 0, none⟩) s.size c) W ∧ Aside0 (Below W0.heap.size W0 W) ∧ Aside0 (ReadsInt W .u8 (some ⟨W0.heap.size, 0, none⟩) s.size (bytesOf s)) ∧
      Aside0 (∀ j, j < s.size → W.frozen? ⟨W0.heap.size, j, none⟩ = false) := by
  refine ⟨_, _, Lib.run_convert_string_bytes W0 src dst e s hs hd he, ⟨bytes_below (Below.refl _ _) (Nat.le_refl _) e s⟩, ⟨bytes_reads W0 e s hl⟩, ⟨fun j hj => ?_⟩⟩
  have hz : s.size ≤ (Lib.bytesCells W0 e s).size := by simp [Lib.bytesCells]
  simp only [World.frozen?, Lib.bytesWorld_at_new, Bool.and_eq_false_iff, decide_eq_false_iff_not]
  left
  omega
def spoilK (s : ByteArray) (n : Int) : Nat := (n % 4096 % (s.size : Int)).toNat
def spoilV (s : ByteArray) (n : Int) : Int := Go.bits .xor .u8 ((bytesOf s).getD (spoilK s n) 0) (1 + n / 4096 % 127)
def spoilS (s : ByteArray) (n : Int) : ByteArray := strOfNums ((bytesOf s).set (spoilK s n) (spoilV s n))
def spec_l14Spoil.f (a0 : ByteArray) (a1 : Int) : Option (ByteArray × Bool) := if 0 < a0.size ∧ a0.size ≤ 9223372036854775807 ∧ 0 ≤ a1 ∧ a1 ≤ 9223372036854775807 then some (spoilS a0 a1, true) else none
theorem bytes_range (s : ByteArray) (k : Nat) : 0 ≤ (bytesOf s).getD k 0 ∧ (bytesOf s).getD k 0 ≤ 255 := by
  rw [List.getD_eq_getElem?_getD]
  cases e : (bytesOf s)[k]? with
  | none => simp
  | some x =>
    have := List.mem_of_getElem? e
    simp only [bytesOf, List.mem_map] at this
    obtain ⟨b, _, rfl⟩ := this
    have := b.toNat_lt
    simp
    omega
/-- A byte of a row that is read is written. -/
theorem reads_set {W : World} {g n k : Nat} {xs : List Int} {v : Int} (h : ReadsInt W .u8 (some ⟨g, 0, none⟩) n xs) (hk : k < n) : ReadsInt (W.setCell ⟨g, k, none⟩ (.int .u8 v)) .u8 (some ⟨g, 0, none⟩) n (xs.set k v) := by
  obtain ⟨h0, h1, h2⟩ := h
  refine ⟨by simpa using h0, h1, fun hn => ⟨_, rfl, fun j hj => ?_⟩⟩
  obtain ⟨ad, e, hc⟩ := h2 hn
  cases e
  have hj' := hc j hj
  have hk' := hc k hk
  rw [add_plain] at hj' hk' ⊢
  by_cases e : j = k
  · subst e
    rw [World.cell?_setCell_same _ _ _ hk']
    have : j < xs.length := by omega
    simp [List.getD_eq_getElem?_getD, this]
  · rw [World.cell?_setCell_other _ _ _ _ (by first | (simp; done) | (simp; exact fun h => e (Eq.symm h))), hj']
    have e2 : ¬ k = j := fun h => e (Eq.symm h)
    simp [List.getD_eq_getElem?_getD, e2]
set_option maxHeartbeats 8000000 in
set_option maxRecDepth 100000 in
theorem spec_l14Spoil.calls (a0 : ByteArray) (a1 : Int) (r1 : ByteArray) (r2 : Bool) (w : World) (h : spec_l14Spoil.f a0 a1 = some (r1, r2)) :
  Calls Tryd.prog 72 #[.string a0, .int .i64 a1] w fun e w' => e = .returned (.agg #[.string r1, .bool r2]) ∧ Below w.heap.size w w' := by
  unfold spec_l14Spoil.f at h
  split at h
  case isFalse => cases h
  rename_i hh
  obtain ⟨hp, hl, h0, h1⟩ := hh
  obtain ⟨rfl, rfl⟩ := Prod.mk.inj (Option.some.inj h)
  clear h
  obtain ⟨W, c, hrun, HB, HR, HF⟩ := bytes_made (P := Tryd.prog) (w.alloc (.cells #[.string ⟨#[]⟩, .bool false] 96)) 9 28 5 a0 hl Tryd.underlying9 Tryd.underlying28 Tryd.underlying5
  have hX : a1 % 4096 % (a0.size : Int) = (spoilK a0 a1 : Int) := by
    have := Int.emod_nonneg (a1 % 4096) (show (a0.size : Int) ≠ 0 by omega)
    unfold spoilK
    omega
  have hk : spoilK a0 a1 < a0.size := by
    have := Int.emod_lt_of_pos (a1 % 4096) (show (0 : Int) < a0.size by omega)
    omega
  obtain ⟨b0, b1⟩ := bytes_range a0 (spoilK a0 a1)
  have hcell : W.cell? ⟨w.heap.size + 1, spoilK a0 a1, none⟩ = some (.int .u8 ((bytesOf a0).getD (spoilK a0 a1) 0)) := by
    obtain ⟨ad, e, hc⟩ := HR.out.2.2 hp
    cases e
    have := hc _ hk
    rw [add_plain] at this
    simpa using this
  have hfz : W.frozen? ⟨w.heap.size + 1, spoilK a0 a1, none⟩ = false := by simpa using HF.out _ hk
  have hcv : ∀ v : Int, (convert 28 9 (.slice (some ⟨w.heap.size + 1, 0, none⟩) a0.size c)).run Tryd.prog (W.setCell ⟨w.heap.size + 1, spoilK a0 a1, none⟩ (.int .u8 v)) = .ok (.string (strOfNums ((bytesOf a0).set (spoilK a0 a1) v))) (W.setCell ⟨w.heap.size + 1, spoilK a0 a1, none⟩ (.int .u8 v)) := fun v =>
    string_of_reads Tryd.underlying28 Tryd.underlying5 Tryd.underlying9 (reads_set (by simpa using HR.out) hk)
  unfold spoilS spoilV
  generalize spoilK a0 a1 = k at hX hk hcell hfz hcv b0 b1 ⊢
  generalize (bytesOf a0).getD k 0 = b at hcell b0 b1 ⊢
  have hc0 : W.cell? ⟨w.heap.size, 0, none⟩ = some (.string ⟨#[]⟩) := by
    rw [HB.out.cell (p := ⟨w.heap.size, 0, none⟩) (by simp)]; simp
  have hc1 : W.cell? ⟨w.heap.size, 1, none⟩ = some (.bool false) := by
    rw [HB.out.cell (p := ⟨w.heap.size, 1, none⟩) (by simp)]; simp
  have hf0 : W.frozen? ⟨w.heap.size, 0, none⟩ = false := by
    rw [HB.out.frozen (p := ⟨w.heap.size, 0, none⟩) (by simp)]; simp
  have hf1 : W.frozen? ⟨w.heap.size, 1, none⟩ = false := by
    rw [HB.out.frozen (p := ⟨w.heap.size, 1, none⟩) (by simp)]; simp
  have hz : (w.alloc (.cells #[.string ⟨#[]⟩, .bool false] 96)).heap.size = w.heap.size + 1 := by simp
  rw [hz] at hrun
  go_enter Tryd.func72, Tryd.ntmps72
  go_wp2
  refine bodyPost_ret (v := .agg #[.string (strOfNums ((bytesOf a0).set k (Go.bits .xor .u8 b (1 + a1 / 4096 % 127)))), .bool true]) (by simp [results, Tryd.results72, go_sem, hc0, hc1]) rfl ⟨rfl, ?_⟩
  exact ((((((Below.refl _ _).alloc (Nat.le_refl _) _).trans (HB.out.mono (by simp))).setCell (by simp) _).setCell (by simp) _).setCell (by simp) _)

/-! ### spec_l15Turn: function 47 -/
def spec_l15Turn.f (k : Nat) (s0_0 : List Int) (s0_1 : Int) (a1 : ByteArray) : Option (ByteArray × Int) := if a1.toList = ([] : List UInt8) then (some (a1, s0_1)) else ((spec_l1Rd_pick.f k s0_0 s0_1 256).bind fun bt270 => ((spec_l1Rd_pick.f k s0_0 bt270.2 16).bind fun bt272 => ((spec_l1Rd_pick.f k s0_0 bt272.2 127).bind fun bt274 => ((spec_l14Spoil.f a1 (wrap64 ((wrap64 (bt270.1 + (wrap64 (bt272.1 * 256)))) + (wrap64 (bt274.1 * 4096))))).bind fun bt276 => (some (bt276.1, bt274.2))))))
theorem spec_l15Turn.mono : ∀ a0 a1 a2 k, LeO (spec_l15Turn.f k a0 a1 a2) (spec_l15Turn.f (k + 1) a0 a1 a2) := by
 intro a0 a1 a2 k
 unfold spec_l15Turn.f
 repeat' first
   | (with_reducible exact spec_l1Rd_pick.mono _ _ _ _)
   | (with_reducible exact LeO.refl _)
   | (with_reducible exact LeO.none _)
   | (with_reducible refine LeO.ite ?_ ?_)
   | (with_reducible refine LeO.bind ?_ (fun _ => ?_))
   | exact spec_l1Rd_pick.mono _ _ _ _
   | exact LeO.none _
   | refine LeO.ite ?_ ?_
   | refine LeO.bind ?_ (fun _ => ?_)
set_option maxHeartbeats 8000000 in
set_option maxRecDepth 100000 in
theorem spec_l15Turn.calls (k : Nat) (g : Nat) (s0_0 : List Int) (s0_1 : Int) (a1 : ByteArray) (r1 : ByteArray) (r2 : Int) (w0 w : World) (hI : IsS91 w0 w g s0_0 s0_1) (hB : Below w0.heap.size w0 w) (h : spec_l15Turn.f k s0_0 s0_1 a1 = some (r1, r2)) :
  Calls Tryd.prog 47 #[.pointer (some ⟨g, 0, none⟩), .string a1] w fun e w' => e = .returned (.string r1) ∧ IsS91 w0 w' g s0_0 r2 ∧ Below w0.heap.size w0 w' ∧ KeepBut w w' g none := by
 have hu96 := Tryd.underlying96
 have hf96_0 : ∀ (x0 : ByteArray) (x1 : Bool) (W : World), (Instr.field 96 (.agg #[.string x0, .bool x1]) 0).run Tryd.prog W = .ok (.string x0) W := fun _ _ _  => by rfl
 have HI0 := Aside0.mk hI
 have HK := m_ (KeepBut.refl w g none)
 have HL := Aside0.mk hB.size
 clear hI
 have HW0 := Aside0.mk hB.size
 have HB := Aside0.mk hB
 clear hB
 have H : (if a1.toList = ([] : List UInt8) then (some (a1, s0_1)) else ((spec_l1Rd_pick.f k s0_0 s0_1 256).bind fun bt270 => ((spec_l1Rd_pick.f k s0_0 bt270.2 16).bind fun bt272 => ((spec_l1Rd_pick.f k s0_0 bt272.2 127).bind fun bt274 => ((spec_l14Spoil.f a1 (wrap64 ((wrap64 (bt270.1 + (wrap64 (bt272.1 * 256)))) + (wrap64 (bt274.1 * 4096))))).bind fun bt276 => (some (bt276.1, bt274.2))))))) = some (r1, r2) := h
 clear h
 by_cases c3 : a1.toList = ([] : List UInt8)
 ·rw [if_pos c3] at H
  have c3b0 : (a1.toList == ([] : List UInt8)) = true := beq_iff_eq.mpr c3
  try have c3b7 : a1.toList.isEmpty = true := (by rw [← c3b0]; cases a1.toList <;> rfl)
  have c3b1 : (a1.toList != ([] : List UInt8)) = false := bne_eq_false_iff_eq.mpr c3
  clear c3
  simp only [Option.some.injEq, Prod.mk.injEq] at H
  obtain ⟨rfl, rfl⟩ := H
  go_enter Tryd.func47, Tryd.ntmps47
  go_wp2
  go_ret
  exact ⟨by first | rfl | (simp [errW_none, errW_some] <;> rfl) | (simp [*, errW_none, errW_some] <;> rfl), by repeat (first | (with_reducible first | exact HI0.out | apply IsS91.alloc | apply IsS91.drewN | apply IsS91.drew | apply IsS91.set_1) | exact HI0.out), by repeat (first | (with_reducible first | exact HB.out | apply below_alloc | apply pw_below_drewN | apply below_drew1 | refine below_set ?_ (IsS91.ge HI0.out)) | exact HB.out), by repeat (first | (with_reducible first | exact HK.out | apply KeepBut.set_ | apply keep_drewN | apply keep_drew | apply keep_alloc) | exact HK.out)⟩
 ·rw [if_neg c3] at H
  have c3b0 : (a1.toList == ([] : List UInt8)) = false := beq_eq_false_iff_ne.mpr c3
  try have c3b7 : a1.toList.isEmpty = false := (by rw [← c3b0]; cases a1.toList <;> rfl)
  have c3b1 : (a1.toList != ([] : List UInt8)) = true := bne_iff_ne.mpr c3
  replace H := Option.bind_eq_some_iff.mp H
  obtain ⟨⟨t270, t271⟩, A40, H⟩ := H
  replace H : ((spec_l1Rd_pick.f k s0_0 t271 16).bind fun bt272 => ((spec_l1Rd_pick.f k s0_0 bt272.2 127).bind fun bt274 => ((spec_l14Spoil.f a1 (wrap64 ((wrap64 (t270 + (wrap64 (bt272.1 * 256)))) + (wrap64 (bt274.1 * 4096))))).bind fun bt276 => (some (bt276.1, bt274.2))))) = some (r1, r2) := H
  have A4 := Aside0.mk A40
  clear A40
  replace H := Option.bind_eq_some_iff.mp H
  obtain ⟨⟨t272, t273⟩, A50, H⟩ := H
  replace H : ((spec_l1Rd_pick.f k s0_0 t273 127).bind fun bt274 => ((spec_l14Spoil.f a1 (wrap64 ((wrap64 (t270 + (wrap64 (t272 * 256)))) + (wrap64 (bt274.1 * 4096))))).bind fun bt276 => (some (bt276.1, bt274.2)))) = some (r1, r2) := H
  have A5 := Aside0.mk A50
  clear A50
  replace H := Option.bind_eq_some_iff.mp H
  obtain ⟨⟨t274, t275⟩, A60, H⟩ := H
  replace H : ((spec_l14Spoil.f a1 (wrap64 ((wrap64 (t270 + (wrap64 (t272 * 256)))) + (wrap64 (t274 * 4096))))).bind fun bt276 => (some (bt276.1, t275))) = some (r1, r2) := H
  have A6 := Aside0.mk A60
  clear A60
  replace H := Option.bind_eq_some_iff.mp H
  obtain ⟨⟨t276, t277⟩, A70, H⟩ := H
  replace H : (some (t276, t275)) = some (r1, r2) := H
  have A7 := Aside0.mk A70
  clear A70
  simp only [Option.some.injEq, Prod.mk.injEq] at H
  obtain ⟨rfl, rfl⟩ := H
  go_enter Tryd.func47, Tryd.ntmps47
  go_wp2_with (first | ((with_reducible refine gate_callee (f := 46) rfl ?_); refine goesL_ (some 10) rfl rfl Tryd.func46 (by kernel_rfl) rfl #[.pointer (some ⟨g, 0, none⟩), .int .i64 256] rfl gl_ ?_; (with_reducible refine (spec_l1Rd_pick.calls k g s0_0 s0_1 256 t270 t271 w0 _ ?side1 ?side2 A4.out).mono ?_); (case side1 => repeat (first | (with_reducible first | exact HI0.out | apply IsS91.alloc | apply IsS91.drewN | apply IsS91.drew | apply IsS91.set_1) | exact HI0.out)); (case side2 => repeat (first | (with_reducible first | exact HB.out | apply below_alloc | apply pw_below_drewN | apply below_drew1 | refine below_set ?_ (IsS91.ge HI0.out)) | exact HB.out)); rintro e w8 ⟨rfl, hi, hb, hk⟩; refine ⟨_, rfl, ?_⟩; have n0_ := m_ (KeepBut.trans (by repeat (first | (with_reducible first | exact HK.out | apply KeepBut.set_ | apply keep_drewN | apply keep_drew | apply keep_alloc) | exact HK.out)) hk (.inl rfl)); have n1_ := m_ (hb); have n2_ := m_ (hi); clear HK; clear HB; clear HI0; have HK := n0_; have HB := n1_; have HI0 := n2_; clear n0_ n1_ n2_; (try clear hb); (try clear hb2); (try clear hk); (try clear hi)) | ((with_reducible refine gate_callee (f := 46) rfl ?_); refine goesL_ (some 12) rfl rfl Tryd.func46 (by kernel_rfl) rfl #[.pointer (some ⟨g, 0, none⟩), .int .i64 16] rfl gl_ ?_; (with_reducible refine (spec_l1Rd_pick.calls k g s0_0 t271 16 t272 t273 w0 _ ?side1 ?side2 A5.out).mono ?_); (case side1 => repeat (first | (with_reducible first | exact HI0.out | apply IsS91.alloc | apply IsS91.drewN | apply IsS91.drew | apply IsS91.set_1) | exact HI0.out)); (case side2 => repeat (first | (with_reducible first | exact HB.out | apply below_alloc | apply pw_below_drewN | apply below_drew1 | refine below_set ?_ (IsS91.ge HI0.out)) | exact HB.out)); rintro e w9 ⟨rfl, hi, hb, hk⟩; refine ⟨_, rfl, ?_⟩; have n0_ := m_ (KeepBut.trans (by repeat (first | (with_reducible first | exact HK.out | apply KeepBut.set_ | apply keep_drewN | apply keep_drew | apply keep_alloc) | exact HK.out)) hk (.inl rfl)); have n1_ := m_ (hb); have n2_ := m_ (hi); clear HK; clear HB; clear HI0; have HK := n0_; have HB := n1_; have HI0 := n2_; clear n0_ n1_ n2_; (try clear hb); (try clear hb2); (try clear hk); (try clear hi)) | ((with_reducible refine gate_callee (f := 46) rfl ?_); refine goesL_ (some 16) rfl rfl Tryd.func46 (by kernel_rfl) rfl #[.pointer (some ⟨g, 0, none⟩), .int .i64 127] rfl gl_ ?_; (with_reducible refine (spec_l1Rd_pick.calls k g s0_0 t273 127 t274 t275 w0 _ ?side1 ?side2 A6.out).mono ?_); (case side1 => repeat (first | (with_reducible first | exact HI0.out | apply IsS91.alloc | apply IsS91.drewN | apply IsS91.drew | apply IsS91.set_1) | exact HI0.out)); (case side2 => repeat (first | (with_reducible first | exact HB.out | apply below_alloc | apply pw_below_drewN | apply below_drew1 | refine below_set ?_ (IsS91.ge HI0.out)) | exact HB.out)); rintro e w10 ⟨rfl, hi, hb, hk⟩; refine ⟨_, rfl, ?_⟩; have n0_ := m_ (KeepBut.trans (by repeat (first | (with_reducible first | exact HK.out | apply KeepBut.set_ | apply keep_drewN | apply keep_drew | apply keep_alloc) | exact HK.out)) hk (.inl rfl)); have n1_ := m_ (hb); have n2_ := m_ (hi); clear HK; clear HB; clear HI0; have HK := n0_; have HB := n1_; have HI0 := n2_; clear n0_ n1_ n2_; (try clear hb); (try clear hb2); (try clear hk); (try clear hi)) | ((with_reducible refine gate_callee (f := 72) rfl ?_); refine goesL_ (some 19) rfl rfl Tryd.func72 (by kernel_rfl) rfl #[.string a1, .int .i64 (wrap64 ((wrap64 (t270 + (wrap64 (t272 * 256)))) + (wrap64 (t274 * 4096))))] rfl gl_ ?_; (with_reducible refine (spec_l14Spoil.calls a1 (wrap64 ((wrap64 (t270 + (wrap64 (t272 * 256)))) + (wrap64 (t274 * 4096)))) t276 t277 _ A7.out).mono ?_); rintro e w11 ⟨rfl, hb⟩; refine ⟨_, rfl, ?_⟩; have n0_ := m_ (IsS91.below (by repeat (first | (with_reducible first | exact HI0.out | apply IsS91.alloc | apply IsS91.drewN | apply IsS91.drew | apply IsS91.set_1) | exact HI0.out)) hb); have n1_ := m_ (KeepBut.trans (by repeat (first | (with_reducible first | exact HK.out | apply KeepBut.set_ | apply keep_drewN | apply keep_drew | apply keep_alloc) | exact HK.out)) (KeepBut.of_below hb g none) (.inl rfl)); have n2_ := m_ (below_step (by repeat (first | (with_reducible first | exact HB.out | apply below_alloc | apply pw_below_drewN | apply below_drew1 | refine below_set ?_ (IsS91.ge HI0.out)) | exact HB.out)) hb); clear HI0; clear HK; clear HB; have HI0 := n0_; have HK := n1_; have HB := n2_; clear n0_ n1_ n2_; (try clear hb); (try clear hb2); (try clear hk); (try clear hi)))
  go_ret
  exact ⟨by first | rfl | (simp [errW_none, errW_some] <;> rfl) | (simp [*, errW_none, errW_some] <;> rfl), by repeat (first | (with_reducible first | exact HI0.out | apply IsS91.alloc | apply IsS91.drewN | apply IsS91.drew | apply IsS91.set_1) | exact HI0.out), by repeat (first | (with_reducible first | exact HB.out | apply below_alloc | apply pw_below_drewN | apply below_drew1 | refine below_set ?_ (IsS91.ge HI0.out)) | exact HB.out), by repeat (first | (with_reducible first | exact HK.out | apply KeepBut.set_ | apply keep_drewN | apply keep_drew | apply keep_alloc) | exact HK.out)⟩

end Go.Proofs.YtllchgipnfdneaaDoor.P
