/- The machine side of these statements, function by function: what each Go function answers (as a Lean function), and that it does. Written by a program (mp.py) for this claim. -/
import Derived.Test.YtbldbjfmibhffaaDoorPx0
import Derived.Test.YtbldbjfmibhffaaDoorPx1
import Derived.Test.YtbldbjfmibhffaaDoorPx5
import Derived.Test.YtbldbjfmibhffaaDoorPx6
import Derived.Test.YtbldbjfmibhffaaDoorPx7
namespace Go.Proofs.YtbldbjfmibhffaaDoor.P
open Go.RowKit Go.Proofs.YtbldbjfmibhffaaDoorW.PrintWords Go.Proofs.YtbldbjfmibhffaaDoorW.PrintLast Go.Proofs.YtbldbjfmibhffaaDoorW.PrintMore
attribute [local go_sem] max2_int min2_int max_two min_two max_three min_three max_four min_four   -- for this text's walks alone
set_option linter.unusedVariables false
set_option linter.unusedSimpArgs false

/-! ### impl_reader_take: function 42 -/
theorem info5r_ : (Tryd.prog.info? 5).map (fun i => (i.zero, i.size, i.bytes)) = some (some (.int .u8 0), 1, 1) := by kernel_rfl
def RdAt (W : World) (g : Nat) (s : ByteArray) (i p : Int) (bad : Bool) : Prop := W.heap[g]? = some (.cells #[.string s, .int .i64 i, .int .i64 p, .bool bad] 75 (0, 0))
theorem RdAt.cells {W : World} {g : Nat} {s : ByteArray} {i p : Int} {bad : Bool} (h : RdAt W g s i p bad) :
    (W.cell? ⟨g, 0, none⟩ = some (.string s) ∧ W.cell? ⟨g, 1, none⟩ = some (.int .i64 i) ∧ W.cell? ⟨g, 2, none⟩ = some (.int .i64 p) ∧ W.cell? ⟨g, 3, none⟩ = some (.bool bad)) ∧
    (W.frozen? ⟨g, 0, none⟩ = false ∧ W.frozen? ⟨g, 1, none⟩ = false ∧ W.frozen? ⟨g, 2, none⟩ = false ∧ W.frozen? ⟨g, 3, none⟩ = false) := by
  have c := fun j => cell_of_row W g j _ _ _ h
  have f := fun j => frozen_of_row W g j _ _ h
  exact ⟨⟨c 0, c 1, c 2, c 3⟩, f 0, f 1, f 2, f 3⟩
set_option maxHeartbeats 8000000 in
set_option maxRecDepth 100000 in
theorem rd_len (g : Nat) (s : ByteArray) (i p : Int) (bad : Bool) (W : World) (h : RdAt W g s i p bad) (h0 : 0 ≤ i) (h1 : i ≤ s.size) (hs : s.size ≤ 4611686018427387904) :
    Calls Tryd.prog 46 #[.pointer (some ⟨g, 0, none⟩)] W fun e w' => e = .returned (.int .i64 ((s.size : Int) - i)) ∧ ∃ n, w' = W.drewN n := by
  obtain ⟨⟨c0, c1, c2, c3⟩, _⟩ := h.cells
  clear h
  by_cases hi : i = s.size
  · subst hi
    go_enter Tryd.func46, Tryd.ntmps46
    go_wp2_with fail
    go_quiet (fail)
    go_wp2_with fail
    go_ret
    exact ⟨by simp, _, rfl⟩
  · have h2 : i < s.size := by omega
    go_enter Tryd.func46, Tryd.ntmps46
    go_wp2_with fail
    go_quiet (fail)
    go_wp2_with fail
    go_quiet (fail)
    go_wp2_with fail
    go_ret
    exact ⟨rfl, _, World.drewN_drewN _ _ _⟩
set_option maxHeartbeats 8000000 in
set_option maxRecDepth 100000 in
theorem rd_byte_ (g : Nat) (s : ByteArray) (i p : Int) (bad : Bool) (W : World) (h : RdAt W g s i p bad) (h0 : 0 ≤ i) (h1 : i < s.size) (hs : s.size ≤ 4611686018427387904) :
    Calls Tryd.prog 47 #[.pointer (some ⟨g, 0, none⟩)] W fun e w' => e = .returned (.tuple #[.int .u8 (bt s i), .nilIface]) ∧ RdAt w' g s (i + 1) (-1) bad ∧ KeepBut W w' g none ∧ Below g W w' := by
  obtain ⟨⟨c0, c1, c2, c3⟩, f0, f1, f2, f3⟩ := h.cells
  have eB : bt s i = (s[i.toNat]'(by omega)).toNat := by unfold bt; rw [dif_pos (by omega)]
  have hb := (s[i.toNat]'(by omega)).toNat_lt
  go_enter Tryd.func47, Tryd.ntmps47
  go_wp2_with fail
  go_quiet (fail)
  go_wp2_with fail
  go_quiet (fail)
  go_wp2_with fail
  go_ret2
  refine ⟨by rw [eB]; rfl, ?_, ?_⟩
  · have b2 : (W.setCell ⟨g, 2, none⟩ (.int .i64 (-1))).heap[g]? = some (.cells #[.string s, .int .i64 i, .int .i64 (-1), .bool bad] 75 (0, 0)) := (blk_set h 2 _).trans rfl
    exact (blk_set (blk_drewN b2 _) 1 _).trans rfl
  · exact ⟨(keep_drewN ((KeepBut.refl W g none).set_ 2 _) _).set_ 1 _, (pw_below_drewN ((Below.refl g W).setCell (Nat.le_refl _) _) _).setCell (Nat.le_refl _) _⟩
theorem rd_bad {W : World} {g : Nat} {s : ByteArray} {i p : Int} {b c : Bool} (h : RdAt W g s i p b) : RdAt (W.setCell ⟨g, 3, none⟩ (.bool c)) g s i p c := (blk_set h 3 _).trans rfl
set_option maxHeartbeats 8000000 in
set_option maxRecDepth 100000 in
theorem rd_take_no (g : Nat) (s : ByteArray) (i p n : Int) (bad : Bool) (W : World) (h : RdAt W g s i p bad) (h0 : 0 ≤ i) (h1 : i ≤ s.size) (hs : s.size ≤ 4611686018427387904) (hn : bad = true ∨ n < 0 ∨ (s.size : Int) - i < n) :
    Calls Tryd.prog 42 #[.pointer (some ⟨g, 0, none⟩), .int .i64 n] W fun e w' => e = .returned (.string ⟨#[]⟩) ∧ RdAt w' g s i p true ∧ KeepBut W w' g none ∧ Below g W w' := by
  obtain ⟨⟨c0, c1, c2, c3⟩, f0, f1, f2, f3⟩ := h.cells
  by_cases hb : bad = true
  · subst hb
    clear hn
    go_enter Tryd.func42, Tryd.ntmps42
    go_wp2_with fail
    go_ret
    exact ⟨rfl, rd_bad h, (KeepBut.refl W g none).set_ 3 _, (Below.refl g W).setCell (Nat.le_refl _) _⟩
  · obtain rfl : bad = false := by simpa using hb
    clear hb
    by_cases hb : n < 0
    · have hd : decide (n < 0) = true := decide_eq_true hb
      clear hn
      go_enter Tryd.func42, Tryd.ntmps42
      go_wp2_with fail
      go_ret
      exact ⟨rfl, rd_bad h, (KeepBut.refl W g none).set_ 3 _, (Below.refl g W).setCell (Nat.le_refl _) _⟩
    · have h2 : (s.size : Int) - i < n := by rcases hn with h | h | h <;> first | cases h | omega
      have hd : decide (n < 0) = false := decide_eq_false hb
      have hd2 : decide ((s.size : Int) - i < n) = true := decide_eq_true h2
      clear hn hb
      go_enter Tryd.func42, Tryd.ntmps42
      go_wp2_with (go_at_call 46; refine (rd_len g s i p false _ h h0 h1 hs).mono ?_; rintro e w' ⟨rfl, m, rfl⟩)
      go_ret
      exact ⟨rfl, rd_bad (show RdAt (W.drewN _) g s i p false from h), (keep_drewN (KeepBut.refl W g none) _).set_ 3 _, (pw_below_drewN (Below.refl g W) _).setCell (Nat.le_refl _) _⟩
def prevOf (n : Nat) (p : Int) : Int := if n = 0 then p else -1
/-- The bytes read so far, zeros behind. -/
def outA (s : ByteArray) (i n j : Nat) : Array Value := (nums .u8 ((((bytesOf s).drop i).take j) ++ List.replicate (n - j) 0)).toArray
theorem outA_list (s : ByteArray) (i n j : Nat) (h : i + n ≤ s.size) (hj : j < n) : ((((bytesOf s).drop i).take j) ++ List.replicate (n - j) 0).set j (bt s ((i : Int) + (j : Int))) = (((bytesOf s).drop i).take (j + 1)) ++ List.replicate (n - (j + 1)) 0 := by
  have hl : j < ((bytesOf s).drop i).length := by rw [List.length_drop, bytesOf_length]; omega
  have ht : (((bytesOf s).drop i).take j).length = j := by rw [List.length_take]; omega
  rw [List.set_append_right _ _ (by omega), ht, Nat.sub_self, show n - j = (n - (j + 1)) + 1 by omega, List.replicate_succ, List.set_cons_zero, List.take_succ_eq_append_getElem hl, List.append_assoc]
  congr 1
  have e : bt s ((i : Int) + (j : Int)) = ((bytesOf s).drop i)[j] := by
    unfold bt
    rw [dif_pos (by omega)]
    simp [bytesOf]
    congr 2
  rw [e]
  rfl
theorem outA_next (s : ByteArray) (i n j : Nat) (h : i + n ≤ s.size) (hj : j < n) : (outA s i n j).setIfInBounds j (.int .u8 (bt s ((i : Int) + (j : Int)))) = outA s i n (j + 1) := by
  unfold outA
  rw [← outA_list s i n j h hj]
  unfold nums
  rw [List.setIfInBounds_toArray, ← List.map_set]
theorem outA_at (s : ByteArray) (i n j : Nat) (h : i + n ≤ s.size) (hj : j < n) : (outA s i n j)[j]? = some (.int .u8 0) := by
  have ht : (((bytesOf s).drop i).take j).length = j := by rw [List.length_take, List.length_drop, bytesOf_length]; omega
  unfold outA nums
  rw [List.getElem?_toArray, List.getElem?_map, List.getElem?_append_right (by omega), ht, Nat.sub_self]
  rw [show n - j = (n - (j + 1)) + 1 by omega, List.replicate_succ]
  rfl
theorem outA_made (s : ByteArray) (i n : Nat) : madeCells #[.int .u8 0] (n * 1) = outA s i n 0 := by
  unfold outA nums madeCells
  apply Array.ext
  · simp
  · intro k h1 h2
    simp [Nat.mod_one]
theorem outA_text (s : ByteArray) (i n : Nat) (h : i + n ≤ s.size) : strOfNums (((bytesOf s).drop i).take n ++ List.replicate (n - n) 0) = s.extract i (i + n) := by
  rw [Nat.sub_self, List.replicate_zero, List.append_nil]
  apply ByteArray.ext
  unfold strOfNums bytesOf
  apply Array.toList_inj.1
  rw [ByteArray.data_extract, Array.toList_extract, List.extract_eq_take_drop]
  simp only [List.toList_toArray, Nat.add_sub_cancel_left]
  rw [← List.map_drop, ← List.map_take, List.map_map]
  conv => rhs; rw [← List.map_id ((s.data.toList.drop i).take n)]
  apply List.map_congr_left
  intro x _
  simp
theorem outA_reads {W : World} {o : Nat} {s : ByteArray} {i n : Nat} (h : i + n ≤ s.size) (hs : s.size ≤ 140737488355328) (hb : W.heap[o]? = some (.cells (outA s i n n) 5 (0, 0))) : ReadsInt W .u8 (some ⟨o, 0, none⟩) n (((bytesOf s).drop i).take n ++ List.replicate (n - n) 0) := by
  have hl : (((bytesOf s).drop i).take n ++ List.replicate (n - n) (0 : Int)).length = n := by simp [bytesOf_length]; omega
  refine ⟨hl, by omega, fun hn => ⟨_, rfl, fun j hj => ?_⟩⟩
  rw [add_plain, cell_of_row _ _ _ _ _ _ hb]
  unfold outA nums
  rw [List.getElem?_toArray, List.getElem?_map, List.getElem?_eq_getElem (by omega)]
  simp only [Option.map_some, List.getD_eq_getElem?_getD]
  rw [List.getElem?_eq_getElem (by omega)]
  rfl
set_option maxHeartbeats 8000000 in
set_option maxRecDepth 100000 in
theorem rd_take_yes (g : Nat) (s : ByteArray) (i n : Nat) (p : Int) (W : World) (h : RdAt W g s i p false) (h1 : i + n ≤ s.size) (hs : s.size ≤ 140737488355328) :
    Calls Tryd.prog 42 #[.pointer (some ⟨g, 0, none⟩), .int .i64 n] W fun e w' => e = .returned (.string (s.extract i (i + n))) ∧ RdAt w' g s ((i : Int) + (n : Int)) (prevOf n p) false ∧ KeepBut W w' g none ∧ Below g W w' := by
  obtain ⟨⟨c0, c1, c2, c3⟩, f0, f1, f2, f3⟩ := h.cells
  have hg : g < W.heap.size := blk_lt h
  have hd : decide ((n : Int) < 0) = false := decide_eq_false (by omega)
  have hd2 : decide ((s.size : Int) - (i : Int) < (n : Int)) = false := decide_eq_false (by omega)
  obtain ⟨i0, hi, hzz⟩ := Option.map_eq_some_iff.1 info5r_
  simp only [Prod.mk.injEq] at hzz
  obtain ⟨hz0, hz1, hz2⟩ := hzz
  have hmk : ∀ W' : World, (Instr.makeSlice 61 (.int .i64 (n : Int)) (.int .i64 (n : Int))).run Tryd.prog W' = .ok (.slice (some ⟨W'.heap.size, 0, none⟩) n n) (W'.alloc (.cells (outA s i n 0) 5)) := fun W' => by
    have := run_make (P := Tryd.prog) (w := W') 61 5 i0 (.int .u8 0) Tryd.underlying61 hi hz0 .i64 .i64 (n : Int) (n : Int) (by omega) (by omega) (by rw [hz2]; omega) (by omega)
    rw [this, hz1]
    simp only [Int.toNat_natCast]
    rw [← outA_made s i n]
    rfl
  replace hi := Aside0.mk hi
  clear hz0 hz1 hz2
  have hn0 : (n : Int) ≤ 140737488355328 := by omega
  go_enter Tryd.func42, Tryd.ntmps42
  go_wp2_with (go_at_call 46; refine (rd_len g s i p false _ h (by omega) (by omega) (by omega)).mono ?_; rintro e w' ⟨rfl, m, rfl⟩)
  have R0 : RdAt ((W.drewN m).alloc (.cells (outA s i n 0) 5)) g s ((i : Int) + ((0 : Nat) : Int)) (prevOf 0 p) false := by
    rw [show prevOf 0 p = p from if_pos rfl]
    rw [show (i : Int) + ((0 : Nat) : Int) = (i : Int) by omega]
    exact blk_alloc (blk_drewN h m) _
  have O0 : ((W.drewN m).alloc (.cells (outA s i n 0) 5)).heap[W.heap.size]? = some (.cells (outA s i n 0) 5 (0, 0)) := heap_alloc_new (W.drewN m) _
  have K0 : KeepBut W ((W.drewN m).alloc (.cells (outA s i n 0) 5)) g none := keep_alloc (keep_drewN (KeepBut.refl W g none) m) _
  have Q0 : Below g W ((W.drewN m).alloc (.cells (outA s i n 0) 5)) := (pw_below_drewN (Below.refl g W) _).alloc (Nat.le_of_lt hg) _
  replace Q0 := Aside0.mk Q0
  replace R0 := Aside0.mk R0
  replace O0 := Aside0.mk O0
  replace K0 := Aside0.mk K0
  clear hmk c0 c1 c2 c3 f0 f1 f2 f3 hd hd2
  replace hi := trivial
  go_loopw [30] (fun x wr => ∃ j : Nat, j ≤ n ∧ x = .int .i64 j ∧ Aside0 (RdAt wr g s ((i : Int) + (j : Int)) (prevOf j p) false) ∧ Aside0 (wr.heap[W.heap.size]? = some (.cells (outA s i n j) 5 (0, 0))) ∧ Aside0 (KeepBut W wr g none) ∧ Aside0 (Below g W wr)) (fun x _ => n - (intOf x).toNat)
  case atStart => exact ⟨0, by omega, rfl, R0, O0, K0, Q0⟩
  case round =>
    clear R0 O0 K0 Q0
    obtain ⟨j, hj, rfl, R1, O1, K1, Q1⟩ := hrel
    by_cases hlt : j < n
    · have hlt2 : decide ((j : Int) < (n : Int)) = true := decide_eq_true (by omega)
      go_wp2_with fail
      refine (rd_byte_ g s ((i : Int) + (j : Int)) _ false _ R1.out (by omega) (by omega) (by omega)).mono ?_
      rintro e w2 ⟨rfl, R2, K2, B2⟩
      have QQ := Aside0.mk (Q1.out.trans B2)
      have O2 := K2.blk O1.out (by omega) (by simp)
      have KK := Aside0.mk (KeepBut.trans K1.out K2 (.inl rfl))
      have hO2 := Aside0.mk O2
      have oc : w2.cell? ⟨W.heap.size, j, none⟩ = some (.int .u8 0) := (cell_of_row _ _ _ _ _ _ O2).trans (outA_at s i n j h1 hlt)
      have of : w2.frozen? ⟨W.heap.size, j, none⟩ = false := frozen_of_row _ _ _ _ _ O2
      have RR := Aside0.mk R2
      clear O2 R2 K2 R1 O1 K1 B2 Q1
      go_wp2_with fail
      go_roundw
      case rel => exact ⟨j + 1, by omega, by go_num, ⟨by
        have := RR.out
        rw [show prevOf (j + 1) p = -1 from if_neg (by omega), show (i : Int) + ((j + 1 : Nat) : Int) = (i : Int) + (j : Int) + 1 by omega]
        exact (Below.heap_setCell _ _ _ _ (by simp; omega)).trans this⟩, ⟨by rw [← outA_next s i n j h1 hlt]; exact blk_set hO2.out _ _⟩, ⟨keep_far KK.out (Nat.le_refl _) _⟩, ⟨QQ.out.setCell (Nat.le_of_lt hg) _⟩⟩
      case measure => simp [intOf]; omega
    · obtain rfl : j = n := by omega
      have hcv : (convert 61 9 (.slice (some ⟨W.heap.size, 0, none⟩) j j)).run Tryd.prog wr = .ok (.string (s.extract i (i + j))) wr := by
        have := string_of_reads (P := Tryd.prog) (src := 61) (dst := 9) (c := j) Tryd.underlying61 Tryd.underlying5 Tryd.underlying9 (outA_reads h1 hs O1.out)
        rw [outA_text s i j h1] at this
        exact this
      go_wp2_with fail
      go_ret
      exact ⟨rfl, R1.out, K1.out, Q1.out⟩
def impl_reader_take.f (s0_0 : ByteArray) (s0_1 : Int) (s0_2 : Int) (s0_3 : Bool) (a1 : Int) : Option (ByteArray × ByteArray × Int × Int × Bool) :=
  if 0 ≤ s0_1 ∧ s0_1 ≤ (s0_0.size : Int) ∧ s0_0.size ≤ 140737488355328 then
    if s0_3 = true ∨ a1 < 0 ∨ (s0_0.size : Int) - s0_1 < a1 then some (⟨#[]⟩, s0_0, s0_1, s0_2, true) else some (s0_0.extract s0_1.toNat (s0_1.toNat + a1.toNat), s0_0, s0_1 + a1, prevOf a1.toNat s0_2, false)
  else none
theorem impl_reader_take.calls (g : Nat) (s0_0 : ByteArray) (s0_1 : Int) (s0_2 : Int) (s0_3 : Bool) (a1 : Int) (r1 : ByteArray) (r2 : ByteArray) (r3 : Int) (r4 : Int) (r5 : Bool) (w0 w : World) (hI : IsS75 w0 w g s0_0 s0_1 s0_2 s0_3) (hB : Below w0.heap.size w0 w) (h : impl_reader_take.f s0_0 s0_1 s0_2 s0_3 a1 = some (r1, r2, r3, r4, r5)) :
  Calls Tryd.prog 42 #[.pointer (some ⟨g, 0, none⟩), .int .i64 a1] w fun e w' => e = .returned (.string r1) ∧ IsS75 w0 w' g r2 r3 r4 r5 ∧ Below w0.heap.size w0 w' ∧ KeepBut w w' g none := by
  unfold impl_reader_take.f at h
  split at h
  case isFalse => cases h
  rename_i hh
  obtain ⟨h0, h1, hs⟩ := hh
  split at h
  · rename_i hn
    simp only [Option.some.injEq, Prod.mk.injEq] at h
    obtain ⟨rfl, rfl, rfl, rfl, rfl⟩ := h
    refine (rd_take_no g s0_0 s0_1 s0_2 a1 s0_3 w hI.1 h0 h1 (by omega) hn).mono ?_
    rintro e w' ⟨rfl, hR, hK, hG⟩
    exact ⟨rfl, ⟨hR, hI.2⟩, hB.trans (hG.mono hI.2), hK⟩
  · rename_i hn
    simp only [Option.some.injEq, Prod.mk.injEq] at h
    obtain ⟨rfl, rfl, rfl, rfl, rfl⟩ := h
    obtain ⟨hb, hn1, hn2⟩ : s0_3 = false ∧ 0 ≤ a1 ∧ a1 ≤ (s0_0.size : Int) - s0_1 := by
      refine ⟨?_, ?_, ?_⟩
      · cases s0_3 with
        | false => rfl
        | true => exact absurd (.inl rfl) hn
      · exact Int.not_lt.1 fun h => hn (.inr (.inl h))
      · exact Int.not_lt.1 fun h => hn (.inr (.inr h))
    subst hb
    obtain ⟨i, rfl⟩ := Int.eq_ofNat_of_zero_le h0
    obtain ⟨n, rfl⟩ := Int.eq_ofNat_of_zero_le hn1
    refine (rd_take_yes g s0_0 i n s0_2 w hI.1 (by omega) hs).mono ?_
    rintro e w' ⟨rfl, hR, hK, hG⟩
    exact ⟨rfl, ⟨hR, hI.2⟩, hB.trans (hG.mono hI.2), hK⟩

/-! ### impl_reader_number: function 41 -/
def impl_reader_number.f (k : Nat) (s0_0 : ByteArray) (s0_1 : Int) (s0_2 : Int) (s0_3 : Bool) (a1 : Int) : Option (Int × ByteArray × Int × Int × Bool) := (impl_reader_take.f s0_0 s0_1 s0_2 s0_3 a1).bind fun bt231 => ((impl_NumGet.f k bt231.1 0 a1).bind fun bt236 => (if bt236.2 = true then (some (bt236.1, bt231.2.1, bt231.2.2.1, bt231.2.2.2.1, bt231.2.2.2.2)) else (some (bt236.1, bt231.2.1, bt231.2.2.1, bt231.2.2.2.1, true))))
theorem impl_reader_number.mono : ∀ a0 a1 a2 a3 a4 k, LeO (impl_reader_number.f k a0 a1 a2 a3 a4) (impl_reader_number.f (k + 1) a0 a1 a2 a3 a4) := by
 intro a0 a1 a2 a3 a4 k
 unfold impl_reader_number.f
 repeat' first
   | (with_reducible exact impl_NumGet.mono _ _ _ _)
   | (with_reducible exact LeO.refl _)
   | (with_reducible exact LeO.none _)
   | (with_reducible refine LeO.ite ?_ ?_)
   | (with_reducible refine LeO.bind ?_ (fun _ => ?_))
   | exact impl_NumGet.mono _ _ _ _
   | exact LeO.none _
   | refine LeO.ite ?_ ?_
   | refine LeO.bind ?_ (fun _ => ?_)
set_option maxHeartbeats 8000000 in
set_option maxRecDepth 100000 in
theorem impl_reader_number.calls (k : Nat) (g : Nat) (s0_0 : ByteArray) (s0_1 : Int) (s0_2 : Int) (s0_3 : Bool) (a1 : Int) (r1 : Int) (r2 : ByteArray) (r3 : Int) (r4 : Int) (r5 : Bool) (w0 w : World) (hI : IsS75 w0 w g s0_0 s0_1 s0_2 s0_3) (hB : Below w0.heap.size w0 w) (h : impl_reader_number.f k s0_0 s0_1 s0_2 s0_3 a1 = some (r1, r2, r3, r4, r5)) :
  Calls Tryd.prog 41 #[.pointer (some ⟨g, 0, none⟩), .int .i64 a1] w fun e w' => e = .returned (.int .i64 r1) ∧ IsS75 w0 w' g r2 r3 r4 r5 ∧ Below w0.heap.size w0 w' ∧ KeepBut w w' g none := by
 have HI0 := Aside0.mk hI
 have HK := m_ (KeepBut.refl w g none)
 have HL := Aside0.mk hB.size
 clear hI
 have HW0 := Aside0.mk hB.size
 have HB := Aside0.mk hB
 clear hB
 have H : ((impl_reader_take.f s0_0 s0_1 s0_2 s0_3 a1).bind fun bt231 => ((impl_NumGet.f k bt231.1 0 a1).bind fun bt236 => (if bt236.2 = true then (some (bt236.1, bt231.2.1, bt231.2.2.1, bt231.2.2.2.1, bt231.2.2.2.2)) else (some (bt236.1, bt231.2.1, bt231.2.2.1, bt231.2.2.2.1, true))))) = some (r1, r2, r3, r4, r5) := h
 clear h
 replace H := Option.bind_eq_some_iff.mp H
 obtain ⟨⟨t231, t232, t233, t234, t235⟩, A30, H⟩ := H
 replace H : ((impl_NumGet.f k t231 0 a1).bind fun bt236 => (if bt236.2 = true then (some (bt236.1, t232, t233, t234, t235)) else (some (bt236.1, t232, t233, t234, true)))) = some (r1, r2, r3, r4, r5) := H
 have A3 := Aside0.mk A30
 clear A30
 replace H := Option.bind_eq_some_iff.mp H
 obtain ⟨⟨t236, t237⟩, A40, H⟩ := H
 replace H : (if t237 = true then (some (t236, t232, t233, t234, t235)) else (some (t236, t232, t233, t234, true))) = some (r1, r2, r3, r4, r5) := H
 have A4 := Aside0.mk A40
 clear A40
 by_cases c5 : t237 = true
 ·subst c5
  have H1 : (some (t236, t232, t233, t234, t235)) = some (r1, r2, r3, r4, r5) := by rw [if_pos rfl] at H; exact H
  clear H
  have H := H1
  clear H1
  simp only [Option.some.injEq, Prod.mk.injEq] at H
  obtain ⟨rfl, rfl, rfl, rfl, rfl⟩ := H
  go_enter Tryd.func41, Tryd.ntmps41
  go_wp2_with (first | ((with_reducible refine gate_callee (f := 42) rfl ?_); refine goesL_ (some 10) rfl rfl Tryd.func42 (by kernel_rfl) rfl #[.pointer (some ⟨g, 0, none⟩), .int .i64 a1] rfl gl_ ?_; (with_reducible refine (impl_reader_take.calls g s0_0 s0_1 s0_2 s0_3 a1 t231 t232 t233 t234 t235 w0 _ ?side1 ?side2 A3.out).mono ?_); (case side1 => repeat (first | (with_reducible first | exact HI0.out | apply IsS75.alloc | apply IsS75.drewN | apply IsS75.drew | apply IsS75.set_0 | apply IsS75.set_1 | apply IsS75.set_2 | apply IsS75.set_3) | exact HI0.out)); (case side2 => repeat (first | (with_reducible first | exact HB.out | apply below_alloc | apply pw_below_drewN | apply below_drew1 | refine below_set ?_ (IsS75.ge HI0.out)) | exact HB.out)); rintro e w6 ⟨rfl, hi, hb, hk⟩; refine ⟨_, rfl, ?_⟩; have n0_ := m_ (KeepBut.trans (by repeat (first | (with_reducible first | exact HK.out | apply KeepBut.set_ | apply keep_drewN | apply keep_drew | apply keep_alloc) | exact HK.out)) hk (.inl rfl)); have n1_ := m_ (hb); have n2_ := m_ (hi); clear HK; clear HB; clear HI0; have HK := n0_; have HB := n1_; have HI0 := n2_; clear n0_ n1_ n2_; (try clear hb); (try clear hb2); (try clear hk); (try clear hi)) | ((with_reducible refine gate_callee (f := 27) rfl ?_); refine goesL_ (some 12) rfl rfl Tryd.func27 (by kernel_rfl) rfl #[.string t231, .int .i64 0, .int .i64 a1] rfl gl_ ?_; (with_reducible refine (impl_NumGet.calls k t231 0 a1 t236 true _ A4.out).mono ?_); rintro e w' ⟨rfl, ⟨nd, rfl⟩⟩; refine ⟨_, rfl, ?_⟩))
  go_ret
  exact ⟨by first | rfl | (simp [errW_none, errW_some] <;> rfl) | (simp [*, errW_none, errW_some] <;> rfl), by repeat (first | (with_reducible first | exact HI0.out | apply IsS75.alloc | apply IsS75.drewN | apply IsS75.drew | apply IsS75.set_0 | apply IsS75.set_1 | apply IsS75.set_2 | apply IsS75.set_3) | exact HI0.out), by repeat (first | (with_reducible first | exact HB.out | apply below_alloc | apply pw_below_drewN | apply below_drew1 | refine below_set ?_ (IsS75.ge HI0.out)) | exact HB.out), by repeat (first | (with_reducible first | exact HK.out | apply KeepBut.set_ | apply keep_drewN | apply keep_drew | apply keep_alloc) | exact HK.out)⟩
 ·replace c5 := Bool.eq_false_iff.mpr c5
  subst c5
  have H1 : (some (t236, t232, t233, t234, true)) = some (r1, r2, r3, r4, r5) := by rw [if_neg (show ¬ (false = true) by decide)] at H; exact H
  clear H
  have H := H1
  clear H1
  simp only [Option.some.injEq, Prod.mk.injEq] at H
  obtain ⟨rfl, rfl, rfl, rfl, rfl⟩ := H
  go_enter Tryd.func41, Tryd.ntmps41
  go_wp2_with (first | ((with_reducible refine gate_callee (f := 42) rfl ?_); refine goesL_ (some 10) rfl rfl Tryd.func42 (by kernel_rfl) rfl #[.pointer (some ⟨g, 0, none⟩), .int .i64 a1] rfl gl_ ?_; (with_reducible refine (impl_reader_take.calls g s0_0 s0_1 s0_2 s0_3 a1 t231 t232 t233 t234 t235 w0 _ ?side1 ?side2 A3.out).mono ?_); (case side1 => repeat (first | (with_reducible first | exact HI0.out | apply IsS75.alloc | apply IsS75.drewN | apply IsS75.drew | apply IsS75.set_0 | apply IsS75.set_1 | apply IsS75.set_2 | apply IsS75.set_3) | exact HI0.out)); (case side2 => repeat (first | (with_reducible first | exact HB.out | apply below_alloc | apply pw_below_drewN | apply below_drew1 | refine below_set ?_ (IsS75.ge HI0.out)) | exact HB.out)); rintro e w7 ⟨rfl, hi, hb, hk⟩; refine ⟨_, rfl, ?_⟩; have n0_ := m_ (KeepBut.trans (by repeat (first | (with_reducible first | exact HK.out | apply KeepBut.set_ | apply keep_drewN | apply keep_drew | apply keep_alloc) | exact HK.out)) hk (.inl rfl)); have n1_ := m_ (hb); have n2_ := m_ (hi); clear HK; clear HB; clear HI0; have HK := n0_; have HB := n1_; have HI0 := n2_; clear n0_ n1_ n2_; (try clear hb); (try clear hb2); (try clear hk); (try clear hi)) | ((with_reducible refine gate_callee (f := 27) rfl ?_); refine goesL_ (some 12) rfl rfl Tryd.func27 (by kernel_rfl) rfl #[.string t231, .int .i64 0, .int .i64 a1] rfl gl_ ?_; (with_reducible refine (impl_NumGet.calls k t231 0 a1 t236 false _ A4.out).mono ?_); rintro e w' ⟨rfl, ⟨nd, rfl⟩⟩; refine ⟨_, rfl, ?_⟩; (try (rw [drewN_self w7]; generalize hq_ : World.drewN w7 _ = w7; have n0_ : Aside0 (IsS75 w0 w7 g t232 t233 t234 t235) := ⟨by rw [← hq_]; exact (by repeat (first | (with_reducible first | exact HI0.out | apply IsS75.alloc | apply IsS75.drewN | apply IsS75.drew | apply IsS75.set_0 | apply IsS75.set_1 | apply IsS75.set_2 | apply IsS75.set_3) | exact HI0.out))⟩; have n1_ : Aside0 (KeepBut w w7 g none) := ⟨by rw [← hq_]; exact (by repeat (first | (with_reducible first | exact HK.out | apply KeepBut.set_ | apply keep_drewN | apply keep_drew | apply keep_alloc) | exact HK.out))⟩; have n2_ : Aside0 (Below w0.heap.size w0 w7) := ⟨by rw [← hq_]; exact (by repeat (first | (with_reducible first | exact HB.out | apply below_alloc | apply pw_below_drewN | apply below_drew1 | refine below_set ?_ (IsS75.ge HI0.out)) | exact HB.out))⟩; clear HI0 HK HB hq_; have HI0 := n0_; have HK := n1_; have HB := n2_; clear n0_ n1_ n2_)); obtain ⟨HGz8, hgz8⟩ := HI0.out; have hcz8_0 := cellS75_0 HGz8; have hcz8_1 := cellS75_1 HGz8; have hcz8_2 := cellS75_2 HGz8; have hcz8_3 := cellS75_3 HGz8; have hfz8_0 := blk_frozen HGz8 0; have hfz8_1 := blk_frozen HGz8 1; have hfz8_2 := blk_frozen HGz8 2; have hfz8_3 := blk_frozen HGz8 3; clear HGz8 hgz8))
  go_ret
  exact ⟨by first | rfl | (simp [errW_none, errW_some] <;> rfl) | (simp [*, errW_none, errW_some] <;> rfl), by repeat (first | (with_reducible first | exact HI0.out | apply IsS75.alloc | apply IsS75.drewN | apply IsS75.drew | apply IsS75.set_0 | apply IsS75.set_1 | apply IsS75.set_2 | apply IsS75.set_3) | exact HI0.out), by repeat (first | (with_reducible first | exact HB.out | apply below_alloc | apply pw_below_drewN | apply below_drew1 | refine below_set ?_ (IsS75.ge HI0.out)) | exact HB.out), by repeat (first | (with_reducible first | exact HK.out | apply KeepBut.set_ | apply keep_drewN | apply keep_drew | apply keep_alloc) | exact HK.out)⟩

/-! ### impl_packetOk: function 48 -/
def impl_packetOk.f (a0_0 : Bool) (a0_1 : Int) (a0_2 : Int) (a0_3 : ByteArray) : Option (Bool) := (impl_within.f a0_1 2047).bind fun t239 => (if t239 = true then ((impl_within.f a0_2 16383).bind fun t240 => (if t240 = true then (if (a0_3.size : Int) ≥ 1 then (some (decide ((a0_3.size : Int) ≤ 100))) else (some false)) else (some false))) else (some false))
set_option maxHeartbeats 8000000 in
set_option maxRecDepth 100000 in
theorem impl_packetOk.calls (a0_0 : Bool) (a0_1 : Int) (a0_2 : Int) (a0_3 : ByteArray) (r : Bool) (w : World) (h : impl_packetOk.f a0_0 a0_1 a0_2 a0_3 = some r) :
  Calls Tryd.prog 48 #[.agg #[.bool a0_0, .int .i64 a0_1, .int .i64 a0_2, .string a0_3]] w fun e w' => e = .returned (.bool r) ∧ Below w.heap.size w w' := by
 have hu53 := Tryd.underlying53
 have HB := m_ (Below.refl w.heap.size w)
 have H : ((impl_within.f a0_1 2047).bind fun t239 => (if t239 = true then ((impl_within.f a0_2 16383).bind fun t240 => (if t240 = true then (if (a0_3.size : Int) ≥ 1 then (some (decide ((a0_3.size : Int) ≤ 100))) else (some false)) else (some false))) else (some false))) = some r := h
 clear h
 replace H := Option.bind_eq_some_iff.mp H
 obtain ⟨t239, A20, H⟩ := H
 replace H : (if t239 = true then ((impl_within.f a0_2 16383).bind fun t240 => (if t240 = true then (if (a0_3.size : Int) ≥ 1 then (some (decide ((a0_3.size : Int) ≤ 100))) else (some false)) else (some false))) else (some false)) = some r := H
 have A2 := Aside0.mk A20
 clear A20
 by_cases c3 : t239 = true
 ·subst c3
  have H1 : ((impl_within.f a0_2 16383).bind fun t240 => (if t240 = true then (if (a0_3.size : Int) ≥ 1 then (some (decide ((a0_3.size : Int) ≤ 100))) else (some false)) else (some false))) = some r := by rw [if_pos rfl] at H; exact H
  clear H
  have H := H1
  clear H1
  replace H := Option.bind_eq_some_iff.mp H
  obtain ⟨t240, A40, H⟩ := H
  replace H : (if t240 = true then (if (a0_3.size : Int) ≥ 1 then (some (decide ((a0_3.size : Int) ≤ 100))) else (some false)) else (some false)) = some r := H
  have A4 := Aside0.mk A40
  clear A40
  by_cases c5 : t240 = true
  ·subst c5
   have H1 : (if (a0_3.size : Int) ≥ 1 then (some (decide ((a0_3.size : Int) ≤ 100))) else (some false)) = some r := by rw [if_pos rfl] at H; exact H
   clear H
   have H := H1
   clear H1
   by_cases c6 : (a0_3.size : Int) ≥ 1
   ·rw [if_pos c6] at H
    have c6b0 : decide (1 ≤ (a0_3.size : Int)) = true := decide_eq_true c6
    have c6b1 : decide (1 ≤ a0_3.size) = true := decide_eq_true (by omega)
    clear c6
    obtain rfl := Option.some.inj H
    go_enter Tryd.func48, Tryd.ntmps48
    go_wp2_with (first | ((with_reducible refine gate_dst (N := 1) rfl ?_); (try (refine gate_guard (by rfl) ?_; dsimp only)); refine box_event ?hg (N := 1) ?hd (cs := #[.bool a0_0, .int .i64 a0_1, .int .i64 a0_2, .string a0_3]) (t := 53) ?hr ?_; (case hd => rfl); (case hg => rfl); (case hr => first | (go_simp; done) | (go_simp; rfl)); intro gb238 hg w7 hbox hb; have n0_ := m_ (below_step (bN HB.out) hb); have n1_ := m_ (hbox); have n2_ := m_ ((by rw [hg]; exact (below_size (bN HB.out)) : w.heap.size ≤ gb238)); have n3_ := m_ ((by rw [hg]; exact (below_size (bN HB.out)) : w.heap.size ≤ gb238)); clear HB; have HB := n0_; have BK238 := n1_; have GW238 := n2_; have GE238 := n3_; clear n0_ n1_ n2_ n3_; clear hb hbox hg; have hcz8_0 : w7.cell? ⟨gb238, 0, none⟩ = some (.bool a0_0) := bc BK238 0; have hcz8_1 : w7.cell? ⟨gb238, 1, none⟩ = some (.int .i64 a0_1) := bc BK238 1; have hcz8_2 : w7.cell? ⟨gb238, 2, none⟩ = some (.int .i64 a0_2) := bc BK238 2; have hcz8_3 : w7.cell? ⟨gb238, 3, none⟩ = some (.string a0_3) := bc BK238 3; have hfz8_0 := blk_frozen BK238.out 0; have hfz8_1 := blk_frozen BK238.out 1; have hfz8_2 := blk_frozen BK238.out 2; have hfz8_3 := blk_frozen BK238.out 3) | ((with_reducible refine gate_callee (f := 25) rfl ?_); refine goesL_ (some 5) rfl rfl Tryd.func25 (by kernel_rfl) rfl #[.int .i64 a0_1, .int .i64 2047] rfl gl_ ?_; (with_reducible refine (impl_within.calls a0_1 2047 true _ A2.out).mono ?_); rintro e w' ⟨rfl, ⟨nd, rfl⟩⟩; refine ⟨_, rfl, ?_⟩) | (go_at_call 25; (with_reducible refine (impl_within.calls a0_2 16383 true _ A4.out).mono ?_); rintro e w' ⟨rfl, ⟨nd, rfl⟩⟩))
    go_ret
    exact ⟨by first | rfl | (simp [errW_none, errW_some] <;> rfl) | (simp [*, errW_none, errW_some] <;> rfl), by repeat (first | (with_reducible first | exact HB.out | apply below_alloc | apply pw_below_drewN | apply below_drew1 | refine below_set ?_ GE238.out) | exact HB.out)⟩
   ·rw [if_neg c6] at H
    have c6b0 : decide (1 ≤ (a0_3.size : Int)) = false := decide_eq_false c6
    have c6b1 : decide (1 ≤ a0_3.size) = false := decide_eq_false (by omega)
    clear c6
    obtain rfl := Option.some.inj H
    go_enter Tryd.func48, Tryd.ntmps48
    go_wp2_with (first | ((with_reducible refine gate_dst (N := 1) rfl ?_); (try (refine gate_guard (by rfl) ?_; dsimp only)); refine box_event ?hg (N := 1) ?hd (cs := #[.bool a0_0, .int .i64 a0_1, .int .i64 a0_2, .string a0_3]) (t := 53) ?hr ?_; (case hd => rfl); (case hg => rfl); (case hr => first | (go_simp; done) | (go_simp; rfl)); intro gb238 hg w9 hbox hb; have n0_ := m_ (below_step (bN HB.out) hb); have n1_ := m_ (hbox); have n2_ := m_ ((by rw [hg]; exact (below_size (bN HB.out)) : w.heap.size ≤ gb238)); have n3_ := m_ ((by rw [hg]; exact (below_size (bN HB.out)) : w.heap.size ≤ gb238)); clear HB; have HB := n0_; have BK238 := n1_; have GW238 := n2_; have GE238 := n3_; clear n0_ n1_ n2_ n3_; clear hb hbox hg; have hcz10_0 : w9.cell? ⟨gb238, 0, none⟩ = some (.bool a0_0) := bc BK238 0; have hcz10_1 : w9.cell? ⟨gb238, 1, none⟩ = some (.int .i64 a0_1) := bc BK238 1; have hcz10_2 : w9.cell? ⟨gb238, 2, none⟩ = some (.int .i64 a0_2) := bc BK238 2; have hcz10_3 : w9.cell? ⟨gb238, 3, none⟩ = some (.string a0_3) := bc BK238 3; have hfz10_0 := blk_frozen BK238.out 0; have hfz10_1 := blk_frozen BK238.out 1; have hfz10_2 := blk_frozen BK238.out 2; have hfz10_3 := blk_frozen BK238.out 3) | ((with_reducible refine gate_callee (f := 25) rfl ?_); refine goesL_ (some 5) rfl rfl Tryd.func25 (by kernel_rfl) rfl #[.int .i64 a0_1, .int .i64 2047] rfl gl_ ?_; (with_reducible refine (impl_within.calls a0_1 2047 true _ A2.out).mono ?_); rintro e w' ⟨rfl, ⟨nd, rfl⟩⟩; refine ⟨_, rfl, ?_⟩) | (go_at_call 25; (with_reducible refine (impl_within.calls a0_2 16383 true _ A4.out).mono ?_); rintro e w' ⟨rfl, ⟨nd, rfl⟩⟩))
    go_ret
    exact ⟨by first | rfl | (simp [errW_none, errW_some] <;> rfl) | (simp [*, errW_none, errW_some] <;> rfl), by repeat (first | (with_reducible first | exact HB.out | apply below_alloc | apply pw_below_drewN | apply below_drew1 | refine below_set ?_ GE238.out) | exact HB.out)⟩
  ·replace c5 := Bool.eq_false_iff.mpr c5
   subst c5
   have H1 : (some false) = some r := by rw [if_neg (show ¬ (false = true) by decide)] at H; exact H
   clear H
   have H := H1
   clear H1
   obtain rfl := Option.some.inj H
   go_enter Tryd.func48, Tryd.ntmps48
   go_wp2_with (first | ((with_reducible refine gate_dst (N := 1) rfl ?_); (try (refine gate_guard (by rfl) ?_; dsimp only)); refine box_event ?hg (N := 1) ?hd (cs := #[.bool a0_0, .int .i64 a0_1, .int .i64 a0_2, .string a0_3]) (t := 53) ?hr ?_; (case hd => rfl); (case hg => rfl); (case hr => first | (go_simp; done) | (go_simp; rfl)); intro gb238 hg w11 hbox hb; have n0_ := m_ (below_step (bN HB.out) hb); have n1_ := m_ (hbox); have n2_ := m_ ((by rw [hg]; exact (below_size (bN HB.out)) : w.heap.size ≤ gb238)); have n3_ := m_ ((by rw [hg]; exact (below_size (bN HB.out)) : w.heap.size ≤ gb238)); clear HB; have HB := n0_; have BK238 := n1_; have GW238 := n2_; have GE238 := n3_; clear n0_ n1_ n2_ n3_; clear hb hbox hg; have hcz12_0 : w11.cell? ⟨gb238, 0, none⟩ = some (.bool a0_0) := bc BK238 0; have hcz12_1 : w11.cell? ⟨gb238, 1, none⟩ = some (.int .i64 a0_1) := bc BK238 1; have hcz12_2 : w11.cell? ⟨gb238, 2, none⟩ = some (.int .i64 a0_2) := bc BK238 2; have hcz12_3 : w11.cell? ⟨gb238, 3, none⟩ = some (.string a0_3) := bc BK238 3; have hfz12_0 := blk_frozen BK238.out 0; have hfz12_1 := blk_frozen BK238.out 1; have hfz12_2 := blk_frozen BK238.out 2; have hfz12_3 := blk_frozen BK238.out 3) | ((with_reducible refine gate_callee (f := 25) rfl ?_); refine goesL_ (some 5) rfl rfl Tryd.func25 (by kernel_rfl) rfl #[.int .i64 a0_1, .int .i64 2047] rfl gl_ ?_; (with_reducible refine (impl_within.calls a0_1 2047 true _ A2.out).mono ?_); rintro e w' ⟨rfl, ⟨nd, rfl⟩⟩; refine ⟨_, rfl, ?_⟩) | (go_at_call 25; (with_reducible refine (impl_within.calls a0_2 16383 false _ A4.out).mono ?_); rintro e w' ⟨rfl, ⟨nd, rfl⟩⟩))
   go_ret
   exact ⟨by first | rfl | (simp [errW_none, errW_some] <;> rfl) | (simp [*, errW_none, errW_some] <;> rfl), by repeat (first | (with_reducible first | exact HB.out | apply below_alloc | apply pw_below_drewN | apply below_drew1 | refine below_set ?_ GE238.out) | exact HB.out)⟩
 ·replace c3 := Bool.eq_false_iff.mpr c3
  subst c3
  have H1 : (some false) = some r := by rw [if_neg (show ¬ (false = true) by decide)] at H; exact H
  clear H
  have H := H1
  clear H1
  obtain rfl := Option.some.inj H
  go_enter Tryd.func48, Tryd.ntmps48
  go_wp2_with (first | ((with_reducible refine gate_dst (N := 1) rfl ?_); (try (refine gate_guard (by rfl) ?_; dsimp only)); refine box_event ?hg (N := 1) ?hd (cs := #[.bool a0_0, .int .i64 a0_1, .int .i64 a0_2, .string a0_3]) (t := 53) ?hr ?_; (case hd => rfl); (case hg => rfl); (case hr => first | (go_simp; done) | (go_simp; rfl)); intro gb238 hg w13 hbox hb; have n0_ := m_ (below_step (bN HB.out) hb); have n1_ := m_ (hbox); have n2_ := m_ ((by rw [hg]; exact (below_size (bN HB.out)) : w.heap.size ≤ gb238)); have n3_ := m_ ((by rw [hg]; exact (below_size (bN HB.out)) : w.heap.size ≤ gb238)); clear HB; have HB := n0_; have BK238 := n1_; have GW238 := n2_; have GE238 := n3_; clear n0_ n1_ n2_ n3_; clear hb hbox hg; have hcz14_0 : w13.cell? ⟨gb238, 0, none⟩ = some (.bool a0_0) := bc BK238 0; have hcz14_1 : w13.cell? ⟨gb238, 1, none⟩ = some (.int .i64 a0_1) := bc BK238 1; have hcz14_2 : w13.cell? ⟨gb238, 2, none⟩ = some (.int .i64 a0_2) := bc BK238 2; have hcz14_3 : w13.cell? ⟨gb238, 3, none⟩ = some (.string a0_3) := bc BK238 3; have hfz14_0 := blk_frozen BK238.out 0; have hfz14_1 := blk_frozen BK238.out 1; have hfz14_2 := blk_frozen BK238.out 2; have hfz14_3 := blk_frozen BK238.out 3) | ((with_reducible refine gate_callee (f := 25) rfl ?_); refine goesL_ (some 5) rfl rfl Tryd.func25 (by kernel_rfl) rfl #[.int .i64 a0_1, .int .i64 2047] rfl gl_ ?_; (with_reducible refine (impl_within.calls a0_1 2047 false _ A2.out).mono ?_); rintro e w' ⟨rfl, ⟨nd, rfl⟩⟩; refine ⟨_, rfl, ?_⟩))
  go_ret
  exact ⟨by first | rfl | (simp [errW_none, errW_some] <;> rfl) | (simp [*, errW_none, errW_some] <;> rfl), by repeat (first | (with_reducible first | exact HB.out | apply below_alloc | apply pw_below_drewN | apply below_drew1 | refine below_set ?_ GE238.out) | exact HB.out)⟩

/-! ### impl_PacketPut: function 43 -/
/-- append([]byte, s...), s a string, as a step of a region that draws its order. -/
theorem append_str_step {P : Program} {ops : Array Oper} {o : Oper} {a : Act} {Q : Exit → Act → World → Prop} {K : Act → World → Prop} {W : World} (base : Nat) (hw : Region.wanted o (yielded ops a.tmps) = true) (s x : Operand) (t u e : TypeId)
    (ho : o.op = .call { callee := .builtin .append, args := #[s, x], argTypes := #[t, u] })
    (ht : P.underlying t = some (.slice e)) (hu : P.underlying u = some .string) (hinfo : (P.info? e).map (fun i => (i.zero, i.size, i.bytes)) = some (some (.int .u8 0), 1, 1))
    (v : Value) (xs : List Int) (y : ByteArray) (hs : a.eval s = v) (hx : a.eval x = .string y)
    (HO : W.ownsRow base e 1 v xs.length (nums .u8 xs)) (hl : xs.length + y.size ≤ 140737488355328) (hbase : base ≤ W.heap.size := by exact Nat.le_refl _)
    (h : ∀ v1 w1, w1.ownsRow base e 1 v1 (xs ++ bytesOf y).length (nums .u8 (xs ++ bytesOf y)) → W.grownBy w1 v.ownBlock → K (a.put o.dst v1) w1) :
    if Region.wanted o (yielded ops a.tmps) = true then Oper.wp P o a W K Q else K (a.put o.dst undef) W := by
  rw [if_pos hw]
  obtain ⟨i0, hi, hzz⟩ := Option.map_eq_some_iff.1 hinfo
  simp only [Prod.mk.injEq] at hzz
  obtain ⟨hz0, hz1, hz2⟩ := hzz
  obtain ⟨v', w', hr, h2, h3, h4⟩ := Lib.run_append_own_string (P := P) W base t u o.type e i0 ht hu hi hz0 hz1 hz2 v xs.length (nums .u8 xs) HO y (by simp only [maxLen]; omega) hl hbase
  unfold Oper.wp execOp
  simp only [ho, resolve, invoke, builtin, Sem.run_bind, Sem.run_pure, Result.andThen_ok, List.map_toArray, List.map_cons, List.map_nil, hs, hx, hr]
  refine h _ _ ?_ h3
  have hl2 : (xs ++ bytesOf y).length = xs.length + y.size := by rw [List.length_append, bytesOf_length]
  have hc : nums .u8 (xs ++ bytesOf y) = nums .u8 xs ++ Lib.strCells y := by
    simp [nums, bytesOf, Lib.strCells]
  rw [hl2, hc]
  exact h2
theorem row_slice {w : World} {base n : Nat} {e : TypeId} {size : Nat} {v : Value} {xs : List Value} (h : w.ownsRow base e size v n xs) : ∃ A c, v = .slice A n c := by
  rcases h.2 with ⟨rfl, rfl⟩ | ⟨g, cap, cur, rfl, _⟩
  · exact ⟨_, _, rfl⟩
  · exact ⟨_, _, rfl⟩
theorem keep_row {W w1 : World} {v u : Value} {base e n size g j : Nat} {cs : List Value} (hg : W.grownBy w1 v.ownBlock) (ho : W.ownsRow base e size v n cs) (hb : g < base) (hlt : g < W.heap.size) (hc : W.cell? ⟨g, j, none⟩ = some u) : w1.cell? ⟨g, j, none⟩ = some u := by
  have : w1.heap[g]? = W.heap[g]? := hg.block g hlt (fun e => by have := own_base ho g e.symm; omega)
  rw [World.cell?_of_block (w := W) this]
  exact hc
/-- The writer's variable at block g: what was written so far is xs; whatever lay ahead of it lies as it did. -/
def Wr (Wg W : World) (g : Nat) (xs : List Int) : Prop := ∃ v, W.heap[g]? = some (.cells #[v] 83 (0, 0)) ∧ W.ownsRow (g + 1) 5 1 v xs.length (nums .u8 xs) ∧ Below g Wg W
theorem info5_ : (Tryd.prog.info? 5).map (fun i => (i.zero, i.size, i.bytes)) = some (some (.int .u8 0), 1, 1) := by kernel_rfl
set_option maxHeartbeats 8000000 in
set_option maxRecDepth 100000 in
theorem w_number (k g : Nat) (n s : Int) (r : ByteArray) (xs : List Int) (Wg W : World) (hW : Wr Wg W g xs) (hn0 : impl_NumPut.f k n s = some r) (hlen : xs.length + r.size ≤ 140737488355328) :
    Calls Tryd.prog 49 #[.pointer (some ⟨g, 0, none⟩), .int .i64 n, .int .i64 s] W fun e w' => e = .returned (.tuple #[]) ∧ Wr Wg w' g (xs ++ bytesOf r) := by
  obtain ⟨v, hblk, ho, HB⟩ := hW
  have hn := Aside0.mk hn0
  clear hn0
  have hlt := blk_lt hblk
  have hbk : g < g + 1 := by omega
  have hc0 : W.drew.cell? ⟨g, 0, none⟩ = some v := (cell_of_row _ _ _ _ _ _ hblk).trans rfl
  go_enter Tryd.func49, Tryd.ntmps49
  go_wp2_with fail
  refine start_ (n := 10) (S := fun w' => w'.cell? ⟨g, 0, none⟩ = some v) (ds := [9]) #[false, false, false, false, false, false, false, false, false, false] (by kernel_rfl) rfl rfl (hc0) (fun hHeld => ?_)
  refine pure_ (i := 0) (N := some 6) (v := ?_) (a' := ?_) #[true, false, false, false, false, false, false, false, false, false] rfl rfl (by kernel_rfl) (fun _ _ _ h => h) (Or.inl ⟨by rfl, ?_⟩) ?_ ?_
  rotate_left
  · intro w'
    go_simp
    with_reducible rfl
  rotate_left
  · simp only [Act.put, List.setIfInBounds_toArray, List.set_cons_zero, List.set_cons_succ, i64_w, i32_w]
    rfl
  refine pure_ (i := 1) (N := some 7) (v := ?_) (a' := ?_) #[true, true, false, false, false, false, false, false, false, false] rfl rfl (by kernel_rfl) (fun _ _ _ h => h) (Or.inl ⟨by rfl, ?_⟩) ?_ ?_
  rotate_left
  · intro w'
    go_simp
    with_reducible rfl
  rotate_left
  · simp only [Act.put, List.setIfInBounds_toArray, List.set_cons_zero, List.set_cons_succ, i64_w, i32_w]
    rfl
  refine pure_ (i := 2) (N := some 8) (v := ?_) (a' := ?_) #[true, true, true, false, false, false, false, false, false, false] rfl rfl (by kernel_rfl) (fun _ _ _ h => h) (Or.inl ⟨by rfl, ?_⟩) ?_ ?_
  rotate_left
  · intro w'
    go_simp
    with_reducible rfl
  rotate_left
  · simp only [Act.put, List.setIfInBounds_toArray, List.set_cons_zero, List.set_cons_succ, i64_w, i32_w]
    rfl
  refine pure_ (i := 4) (N := some 10) (v := ?_) (a' := ?_) #[true, true, true, false, true, false, false, false, false, false] rfl rfl (by kernel_rfl) (fun _ _ _ h => h) (Or.inl ⟨by rfl, ?_⟩) ?_ ?_
  rotate_left
  · intro w'
    go_simp
    with_reducible rfl
  rotate_left
  · simp only [Act.put, List.setIfInBounds_toArray, List.set_cons_zero, List.set_cons_succ, i64_w, i32_w]
    rfl
  refine pure_ (i := 5) (N := some 11) (v := ?_) (a' := ?_) #[true, true, true, false, true, true, false, false, false, false] rfl rfl (by kernel_rfl) (fun _ _ _ h => h) (Or.inl ⟨by rfl, ?_⟩) ?_ ?_
  rotate_left
  · intro w'
    go_simp
    with_reducible rfl
  rotate_left
  · simp only [Act.put, List.setIfInBounds_toArray, List.set_cons_zero, List.set_cons_succ, i64_w, i32_w]
    rfl
  refine take_ (i := 3) (N := some 9) (v := ?_) (a' := ?_) #[true, true, true, true, true, true, false, false, false, false] rfl rfl (by kernel_rfl) (fun _ _ _ h => h) (Or.inl ⟨by rfl, ?_⟩) hHeld ?_ ?_
  rotate_left
  · intro w' s0
    go_simp
    with_reducible rfl
  rotate_left
  · simp only [Act.put, List.setIfInBounds_toArray, List.set_cons_zero, List.set_cons_succ, i64_w, i32_w]
    rfl
  refine one_ (i := 6) (N := some 12) #[true, true, true, true, true, true, true, false, false, false] rfl rfl (by kernel_rfl) (by decide) (fun K hK => ?_)
  refine goes_ Tryd.func39 (by kernel_rfl) rfl #[.int .i64 n, .int .i64 s] (by rfl) rfl rfl (by simp only [List.map_toArray, List.map_cons, List.map_nil]; rfl) ?_
  with_reducible refine (impl_NumPut.calls k n s r _ hn.out).mono ?_
  rintro e w3 ⟨rfl, hb⟩
  refine ⟨_, rfl, ?_⟩
  have hc3 : w3.cell? ⟨g, 0, none⟩ = some v := by rw [hb.cell (p := ⟨g, 0, none⟩) (by simpa using hlt)]; exact hHeld
  have ho3 := pw_own_below (show W.drew.ownsRow (g + 1) 5 1 v xs.length (nums .u8 xs) from ho) hb
  have hlt3 : g < w3.heap.size := Nat.lt_of_lt_of_le hlt hb.size
  refine hK.out _ _ (hc3) (fun hHeld => ?_)
  clear hK K
  refine norm_ (a' := ?_) ?_ ?_
  rotate_left
  · show Act.put _ (some 12) _ = _
    simp only [Act.put, List.setIfInBounds_toArray, List.set_cons_zero, List.set_cons_succ, i64_w, i32_w]
    rfl
  refine one_ (i := 7) (N := some 13) #[true, true, true, true, true, true, true, true, false, false] rfl rfl (by kernel_rfl) (by decide) (fun K hK => ?_)
  refine append_str_step (g + 1) (by rfl) (.tmp 9) (.tmp 12) 83 9 5 rfl Tryd.underlying83 Tryd.underlying9 info5_ v xs r (by rfl) (by rfl) ho3 hlen (Nat.succ_le_of_lt hlt3) ?_
  intro v1 w4 hov hg4
  generalize hn4 : (xs ++ bytesOf r).length = n4 at hov
  obtain ⟨A4, c4, rfl⟩ := row_slice hov
  replace hn4 := Aside0.mk hn4
  have hb3 : w3.heap[g]? = some (.cells #[v] 83 (0, 0)) := (hb.block g hlt).trans hblk
  have hb4 : w4.heap[g]? = some (.cells #[v] 83 (0, 0)) := (hg4.block g hlt3 (fun e => by have := own_base ho3 g e.symm; omega)).trans hb3
  have hc4 : w4.cell? ⟨g, 0, none⟩ = some v := (cell_of_row _ _ _ _ _ _ hb4).trans rfl
  have hf4 : w4.frozen? ⟨g, 0, none⟩ = false := frozen_of_row _ _ _ _ _ hb4
  refine hK.out _ _ (hc4) (fun hHeld => ?_)
  clear hK K
  refine norm_ (a' := ?_) ?_ ?_
  rotate_left
  · show Act.put _ (some 13) _ = _
    simp only [Act.put, List.setIfInBounds_toArray, List.set_cons_zero, List.set_cons_succ, i64_w, i32_w]
    rfl
  refine pure_ (i := 8) (N := some 14) (v := ?_) (a' := ?_) #[true, true, true, true, true, true, true, true, true, false] rfl rfl (by kernel_rfl) (fun _ _ _ h => h) (Or.inl ⟨by rfl, ?_⟩) ?_ ?_
  rotate_left
  · intro w'
    go_simp
    with_reducible rfl
  rotate_left
  · simp only [Act.put, List.setIfInBounds_toArray, List.set_cons_zero, List.set_cons_succ, i64_w, i32_w]
    rfl
  refine last_ (i := 9) (N := none) #[true, true, true, true, true, true, true, true, true, true] rfl rfl (by kernel_rfl) (by decide) (fun K hK => ?_)
  refine skip_ (w1 := ?_) (by rfl) rfl ?_ ?_
  rotate_left
  · go_simp
    rfl
  refine hK.out _ _ ?_
  clear hK K
  refine done_ (by kernel_rfl) ?_
  go_wp2_with fail
  first | go_end0 | ((try simp only [Exit.inBlock, Exit.then]); refine bodyPost_ret (results_none rfl _ _ _) rfl ?_)
  refine ⟨rfl, _, (blk_set hb4 0 _).trans rfl, by rw [hn4.out]; exact own_move hov (fun k_ hk => Below.heap_setCell _ _ _ _ (fun e => by have h5 := own_base hov k_ hk; have h6 : k_ = g := e; omega)), ?_⟩
  exact (((HB.drew.trans (hb.mono (Nat.le_of_lt hlt))).grown hg4 (Nat.le_of_lt hlt3) (fun k_ hk => Nat.le_of_lt (own_base ho3 k_ hk))).setCell (Nat.le_refl _) _)
set_option maxHeartbeats 8000000 in
set_option maxRecDepth 100000 in
theorem w_text (g : Nat) (r : ByteArray) (xs : List Int) (Wg W : World) (hW : Wr Wg W g xs) (hlen : xs.length + r.size ≤ 140737488355328) :
    Calls Tryd.prog 50 #[.pointer (some ⟨g, 0, none⟩), .string r] W fun e w' => e = .returned (.tuple #[]) ∧ Wr Wg w' g (xs ++ bytesOf r) := by
  obtain ⟨v, hblk, ho, HB⟩ := hW
  have hlt := blk_lt hblk
  have hc0 : W.cell? ⟨g, 0, none⟩ = some v := (cell_of_row _ _ _ _ _ _ hblk).trans rfl
  go_enter Tryd.func50, Tryd.ntmps50
  go_wp2_with ((with_reducible refine gate_builtin (b := .append) (xs := #[.tmp 7, .tmp 8]) rfl ?_); at_builtin; refine print_append_str (w0 := W) (g + 1) rfl (.tmp 7) (.tmp 8) 83 9 5 rfl Tryd.underlying83 Tryd.underlying9 info5_ v xs r rfl rfl ho (Below.refl _ _) (Nat.succ_le_of_lt hlt) hlen ?_; intro v1 w4 hov hb hg4; generalize hn4 : (xs ++ bytesOf r).length = n4 at hov; obtain ⟨A4, c4, rfl⟩ := row_slice hov; replace hn4 := Aside0.mk hn4; have hb4 : w4.heap[g]? = some (.cells #[v] 83 (0, 0)) := (hb.block g (Nat.lt_succ_self g)).trans hblk; have hc4 : w4.cell? ⟨g, 0, none⟩ = some v := (cell_of_row _ _ _ _ _ _ hb4).trans rfl; have hf4 : w4.frozen? ⟨g, 0, none⟩ = false := frozen_of_row _ _ _ _ _ hb4)
  first | go_end0 | ((try simp only [Exit.inBlock, Exit.then]); refine bodyPost_ret (results_none rfl _ _ _) rfl ?_)
  refine ⟨rfl, _, (blk_set hb4 0 _).trans rfl, by rw [hn4.out]; exact own_move hov (fun k_ hk => Below.heap_setCell _ _ _ _ (fun e => by have h5 := own_base hov k_ hk; have h6 : k_ = g := e; omega)), ?_⟩
  exact ((HB.trans (hb.mono (Nat.le_succ g))).setCell (Nat.le_refl _) _)
def impl_PacketPut.g (k : Nat) (up : Bool) (apid count : Int) (data : ByteArray) : Option ByteArray :=
  (impl_NumPut.f k (if up = true then 2048 + apid + 4096 else 2048 + apid) 2).bind fun h => (impl_NumPut.f k (49152 + count) 2).bind fun c => (impl_NumPut.f k ((data.size : Int) - 1) 2).bind fun z =>
    if h.size + c.size + z.size + data.size ≤ 140737488355328 then some (strOfNums (bytesOf h ++ (bytesOf c ++ (bytesOf z ++ bytesOf data)))) else none
def impl_PacketPut.f (k : Nat) (a0_0 : Bool) (a0_1 : Int) (a0_2 : Int) (a0_3 : ByteArray) : Option ByteArray :=
  if 0 ≤ a0_1 ∧ a0_1 ≤ 65535 ∧ 0 ≤ a0_2 ∧ a0_2 ≤ 65535 ∧ a0_3.size ≤ 1000 then (impl_packetOk.f a0_0 a0_1 a0_2 a0_3).bind fun b => if b = true then impl_PacketPut.g k a0_0 a0_1 a0_2 a0_3 else some ⟨#[]⟩
  else (impl_packetOk.f a0_0 a0_1 a0_2 a0_3).bind fun b => if b = true then none else some ⟨#[]⟩
theorem impl_PacketPut.mono : ∀ a0 a1 a2 a3 k, LeO (impl_PacketPut.f k a0 a1 a2 a3) (impl_PacketPut.f (k + 1) a0 a1 a2 a3) := by
  intro a0 a1 a2 a3 k
  unfold impl_PacketPut.f impl_PacketPut.g
  repeat' first
  | (with_reducible exact impl_NumPut.mono _ _ _)
  | (with_reducible exact LeO.refl _)
  | (with_reducible exact LeO.none _)
  | (with_reducible refine LeO.ite ?_ ?_)
  | (with_reducible refine LeO.bind ?_ (fun _ => ?_))
theorem box4 {W : World} {g : Nat} {v0 v1 v2 v3 : Value} {t : TypeId} (h : W.heap[g]? = some (.cells #[v0, v1, v2, v3] t (0, 0))) :
    W.cell? ⟨g, 0, none⟩ = some v0 ∧ W.cell? ⟨g, 1, none⟩ = some v1 ∧ W.cell? ⟨g, 2, none⟩ = some v2 ∧ W.cell? ⟨g, 3, none⟩ = some v3 := by
  have c := fun j => cell_of_row W g j _ _ _ h
  exact ⟨c 0, c 1, c 2, c 3⟩
theorem Wr.made (Wg : World) : Wr Wg (Wg.alloc (.cells #[.slice none 0 0] 83)) Wg.heap.size [] := ⟨_, heap_alloc_new _ _, ⟨rfl, .inl ⟨rfl, rfl⟩⟩, (Below.refl _ _).alloc (Nat.le_refl _) _⟩
theorem Wr.low {Wg W : World} {g b : Nat} {xs : List Int} {o : Obj} (h : Wr Wg W g xs) (hb : Wg.heap[b]? = some o) (hlt : b < g) : W.heap[b]? = some o := by
  obtain ⟨v, _, _, HB⟩ := h
  exact (HB.block b hlt).trans hb
theorem Wr.blk {Wg W : World} {g : Nat} {xs : List Int} (h : Wr Wg W g xs) : ∃ v, W.cell? ⟨g, 0, none⟩ = some v ∧ (convert 83 9 v).run Tryd.prog W = .ok (.string (strOfNums xs)) W := by
  obtain ⟨v, hb, ho, _⟩ := h
  exact ⟨v, (cell_of_row _ _ _ _ _ _ hb).trans rfl, own_string (P := Tryd.prog) Tryd.underlying83 Tryd.underlying5 Tryd.underlying9 ho⟩
theorem Wr.below {Wg W w : World} {g : Nat} {xs : List Int} (h : Wr Wg W g xs) (hw : Below w.heap.size w Wg) (hle : w.heap.size ≤ g) : Below w.heap.size w W := by
  obtain ⟨_, _, _, HB⟩ := h
  exact hw.trans (HB.mono hle)
set_option maxHeartbeats 8000000 in
set_option maxRecDepth 100000 in
theorem impl_PacketPut.calls (k : Nat) (a0_0 : Bool) (a0_1 : Int) (a0_2 : Int) (a0_3 : ByteArray) (r : ByteArray) (w : World) (h : impl_PacketPut.f k a0_0 a0_1 a0_2 a0_3 = some r) :
  Calls Tryd.prog 43 #[.agg #[.bool a0_0, .int .i64 a0_1, .int .i64 a0_2, .string a0_3]] w fun e w' => e = .returned (.string r) ∧ Below w.heap.size w w' := by
  have hno : ∀ b, impl_packetOk.f a0_0 a0_1 a0_2 a0_3 = some b → b = false → r = ⟨#[]⟩ → Calls Tryd.prog 43 #[.agg #[.bool a0_0, .int .i64 a0_1, .int .i64 a0_2, .string a0_3]] w fun e w' => e = .returned (.string r) ∧ Below w.heap.size w w' := by
    rintro b hb rfl rfl
    have HA := Aside0.mk hb
    clear h hb
    go_enter Tryd.func43, Tryd.ntmps43
    go_wp2_with fail
    refine (impl_packetOk.calls _ _ _ _ _ _ HA.out).mono ?_
    rintro e w1 ⟨rfl, B1⟩
    go_wp2_with fail
    go_ret
    exact ⟨rfl, ((Below.refl _ _).alloc (Nat.le_refl _) _).trans (B1.mono (by simp))⟩
  unfold impl_PacketPut.f at h
  split at h
  case isFalse =>
    obtain ⟨b, hb, h⟩ := Option.bind_eq_some_iff.mp h
    cases b with
    | true => simp at h
    | false => simp at h; exact hno false hb rfl h.symm
  rename_i hh
  obtain ⟨q0, q1, q2, q3, q4⟩ := hh
  obtain ⟨b, hb, h⟩ := Option.bind_eq_some_iff.mp h
  cases b with
  | false => simp at h; exact hno false hb rfl h.symm
  | true =>
    rw [if_pos rfl] at h
    unfold impl_PacketPut.g at h
    obtain ⟨hd, A1, h⟩ := Option.bind_eq_some_iff.mp h
    obtain ⟨cn, A2, h⟩ := Option.bind_eq_some_iff.mp h
    obtain ⟨sz, A3, h⟩ := Option.bind_eq_some_iff.mp h
    split at h
    case isFalse => cases h
    rename_i hlen
    obtain rfl := Option.some.inj h
    have HA := Aside0.mk hb
    clear h hb hno
    replace A1 := Aside0.mk A1
    replace A2 := Aside0.mk A2
    replace A3 := Aside0.mk A3
    have L1 : (bytesOf hd).length = hd.size := bytesOf_length _
    have L2 : (bytesOf cn).length = cn.size := bytesOf_length _
    have L3 : (bytesOf sz).length = sz.size := bytesOf_length _
    replace L1 := Aside0.mk L1
    replace L2 := Aside0.mk L2
    replace L3 := Aside0.mk L3
    replace hlen := Aside0.mk hlen
    cases a0_0 with
    | true =>
      rw [if_pos rfl] at A1
      go_enter Tryd.func43, Tryd.ntmps43
      go_wp2_with fail
      refine (impl_packetOk.calls _ _ _ _ _ _ HA.out).mono ?_
      rintro e w1 ⟨rfl, B1⟩
      have P1 : w1.heap[w.heap.size]? = some (.cells #[.bool true, .int .i64 a0_1, .int .i64 a0_2, .string a0_3] 53 (0, 0)) := (B1.block _ (by simp)).trans (heap_alloc_new _ _)
      have hB : Below w.heap.size w w1 := ((Below.refl _ _).alloc (Nat.le_refl _) _).trans (B1.mono (by simp))
      replace hB := Aside0.mk hB
      have hz1 : w.heap.size < w1.heap.size := blk_lt P1
      clear B1
      obtain ⟨c0, c1, c2, c3⟩ := box4 P1
      replace P1 := Aside0.mk P1
      go_wp2_with fail
      refine (w_number k w1.heap.size _ _ hd [] w1 _ (Wr.made w1) A1.out (by have := hlen.out; simp; omega)).mono ?_
      rintro e w2 ⟨rfl, R2⟩
      clear c0 c1 c2 c3
      obtain ⟨c0, c1, c2, c3⟩ := box4 (R2.low P1.out hz1)
      replace R2 := Aside0.mk R2
      go_wp2_with fail
      refine (w_number k w1.heap.size _ _ cn _ w1 _ R2.out A2.out (by have := hlen.out; have := L1.out; simp; omega)).mono ?_
      rintro e w3 ⟨rfl, R3⟩
      clear c0 c1 c2 c3 R2
      obtain ⟨c0, c1, c2, c3⟩ := box4 (R3.low P1.out hz1)
      replace R3 := Aside0.mk R3
      go_wp2_with fail
      refine (w_number k w1.heap.size _ _ sz _ w1 _ R3.out A3.out (by have := hlen.out; have := L1.out; have := L2.out; simp; omega)).mono ?_
      rintro e w4 ⟨rfl, R4⟩
      clear c0 c1 c2 c3 R3
      obtain ⟨c0, c1, c2, c3⟩ := box4 (R4.low P1.out hz1)
      replace R4 := Aside0.mk R4
      go_wp2_with fail
      refine (w_text w1.heap.size _ _ w1 _ R4.out (by have := hlen.out; have := L1.out; have := L2.out; have := L3.out; simp; omega)).mono ?_
      rintro e w5 ⟨rfl, R5⟩
      obtain ⟨v5, d0, d1⟩ := R5.blk
      have hEnd := Aside0.mk (R5.below hB.out (Nat.le_of_lt hz1))
      clear c0 c1 c2 c3 R4
      replace R5 := Aside0.mk R5
      go_wp2_with fail
      go_ret
      exact ⟨rfl, hEnd.out⟩
    | false =>
      rw [if_neg (by simp)] at A1
      go_enter Tryd.func43, Tryd.ntmps43
      go_wp2_with fail
      refine (impl_packetOk.calls _ _ _ _ _ _ HA.out).mono ?_
      rintro e w1 ⟨rfl, B1⟩
      have P1 : w1.heap[w.heap.size]? = some (.cells #[.bool false, .int .i64 a0_1, .int .i64 a0_2, .string a0_3] 53 (0, 0)) := (B1.block _ (by simp)).trans (heap_alloc_new _ _)
      have hB : Below w.heap.size w w1 := ((Below.refl _ _).alloc (Nat.le_refl _) _).trans (B1.mono (by simp))
      replace hB := Aside0.mk hB
      have hz1 : w.heap.size < w1.heap.size := blk_lt P1
      clear B1
      obtain ⟨c0, c1, c2, c3⟩ := box4 P1
      replace P1 := Aside0.mk P1
      go_wp2_with fail
      refine (w_number k w1.heap.size _ _ hd [] w1 _ (Wr.made w1) A1.out (by have := hlen.out; simp; omega)).mono ?_
      rintro e w2 ⟨rfl, R2⟩
      clear c0 c1 c2 c3
      obtain ⟨c0, c1, c2, c3⟩ := box4 (R2.low P1.out hz1)
      replace R2 := Aside0.mk R2
      go_wp2_with fail
      refine (w_number k w1.heap.size _ _ cn _ w1 _ R2.out A2.out (by have := hlen.out; have := L1.out; simp; omega)).mono ?_
      rintro e w3 ⟨rfl, R3⟩
      clear c0 c1 c2 c3 R2
      obtain ⟨c0, c1, c2, c3⟩ := box4 (R3.low P1.out hz1)
      replace R3 := Aside0.mk R3
      go_wp2_with fail
      refine (w_number k w1.heap.size _ _ sz _ w1 _ R3.out A3.out (by have := hlen.out; have := L1.out; have := L2.out; simp; omega)).mono ?_
      rintro e w4 ⟨rfl, R4⟩
      clear c0 c1 c2 c3 R3
      obtain ⟨c0, c1, c2, c3⟩ := box4 (R4.low P1.out hz1)
      replace R4 := Aside0.mk R4
      go_wp2_with fail
      refine (w_text w1.heap.size _ _ w1 _ R4.out (by have := hlen.out; have := L1.out; have := L2.out; have := L3.out; simp; omega)).mono ?_
      rintro e w5 ⟨rfl, R5⟩
      obtain ⟨v5, d0, d1⟩ := R5.blk
      have hEnd := Aside0.mk (R5.below hB.out (Nat.le_of_lt hz1))
      clear c0 c1 c2 c3 R4
      replace R5 := Aside0.mk R5
      go_wp2_with fail
      go_ret
      exact ⟨rfl, hEnd.out⟩
theorem box6 {W : World} {g : Nat} {v0 v1 v2 v3 v4 v5 : Value} {t : TypeId} (h : W.heap[g]? = some (.cells #[v0, v1, v2, v3, v4, v5] t (0, 0))) :
    W.cell? ⟨g, 0, none⟩ = some v0 ∧ W.cell? ⟨g, 1, none⟩ = some v1 ∧ W.cell? ⟨g, 2, none⟩ = some v2 ∧ W.cell? ⟨g, 3, none⟩ = some v3 ∧ W.cell? ⟨g, 4, none⟩ = some v4 ∧ W.cell? ⟨g, 5, none⟩ = some v5 := by
  have c := fun j => cell_of_row W g j _ _ _ h
  exact ⟨c 0, c 1, c 2, c 3, c 4, c 5⟩

/-! ### stringslite_HasPrefix: function 51 -/
def stringslite_HasPrefix.f (a0 : ByteArray) (a1 : ByteArray) : Option (Bool) := if (a0.size : Int) ≥ (a1.size : Int) then (if 0 ≤ (a1.size : Int) then (if (a1.size : Int) ≤ (a0.size : Int) then (some ((a0.extract 0 ((a1.size : Int) : Int).toNat).toList == a1.toList)) else (none)) else (none)) else (some false)
set_option maxHeartbeats 8000000 in
set_option maxRecDepth 100000 in
theorem stringslite_HasPrefix.calls (a0 : ByteArray) (a1 : ByteArray) (r : Bool) (w : World) (h : stringslite_HasPrefix.f a0 a1 = some r) :
  Calls Tryd.prog 51 #[.string a0, .string a1] w fun e w' => e = .returned (.bool r) ∧ Drawn0 w w' := by
 have H : (if (a0.size : Int) ≥ (a1.size : Int) then (if 0 ≤ (a1.size : Int) then (if (a1.size : Int) ≤ (a0.size : Int) then (some ((a0.extract 0 ((a1.size : Int) : Int).toNat).toList == a1.toList)) else (none)) else (none)) else (some false)) = some r := h
 clear h
 by_cases c3 : (a0.size : Int) ≥ (a1.size : Int)
 ·rw [if_pos c3] at H
  have c3b0 : decide ((a1.size : Int) ≤ (a0.size : Int)) = true := decide_eq_true c3
  have c3b1 : decide (a1.size ≤ a0.size) = true := decide_eq_true (Int.ofNat_le.mp c3)
  clear c3
  by_cases c4 : 0 ≤ (a1.size : Int)
  ·rw [if_pos c4] at H
   have c4b0 := eq_true c4
   have c4b1 : decide (0 ≤ (a1.size : Int)) = true := decide_eq_true c4
   clear c4
   by_cases c5 : (a1.size : Int) ≤ (a0.size : Int)
   ·rw [if_pos c5] at H
    have c5b0 := eq_true c5
    have c5b1 : decide ((a1.size : Int) ≤ (a0.size : Int)) = true := decide_eq_true c5
    clear c5
    obtain rfl := Option.some.inj H
    go_enter Tryd.func51, Tryd.ntmps51
    go_wp2
    go_ret
    exact ⟨by first | rfl | (simp; done) | (simp [*]; done), by repeat (first | exact Drawn0.refl _ | apply Drawn0.step)⟩
   ·rw [if_neg c5] at H
    exact absurd H (by simp)
  ·rw [if_neg c4] at H
   exact absurd H (by simp)
 ·rw [if_neg c3] at H
  have c3b0 : decide ((a1.size : Int) ≤ (a0.size : Int)) = false := decide_eq_false c3
  have c3b1 : decide (a1.size ≤ a0.size) = false := decide_eq_false (fun h => c3 (Int.ofNat_le.mpr h))
  clear c3
  obtain rfl := Option.some.inj H
  go_enter Tryd.func51, Tryd.ntmps51
  go_wp2
  go_ret
  exact ⟨by first | rfl | (simp; done) | (simp [*]; done), by repeat (first | exact Drawn0.refl _ | apply Drawn0.step)⟩

/-! ### strings_HasPrefix: function 44 -/
def strings_HasPrefix.f (a0 : ByteArray) (a1 : ByteArray) : Option (Bool) := (stringslite_HasPrefix.f a0 a1).bind fun t241 => (some t241)
set_option maxHeartbeats 8000000 in
set_option maxRecDepth 100000 in
theorem strings_HasPrefix.calls (a0 : ByteArray) (a1 : ByteArray) (r : Bool) (w : World) (h : strings_HasPrefix.f a0 a1 = some r) :
  Calls Tryd.prog 44 #[.string a0, .string a1] w fun e w' => e = .returned (.bool r) ∧ Drawn0 w w' := by
 have H : ((stringslite_HasPrefix.f a0 a1).bind fun t241 => (some t241)) = some r := h
 clear h
 replace H := Option.bind_eq_some_iff.mp H
 obtain ⟨t241, A30, H⟩ := H
 replace H : (some t241) = some r := H
 have A3 := Aside0.mk A30
 clear A30
 obtain rfl := Option.some.inj H
 go_enter Tryd.func44, Tryd.ntmps44
 go_wp2_with (first | ((with_reducible refine gate_callee (f := 51) rfl ?_); refine goesL_ (some 7) rfl rfl Tryd.func51 (by kernel_rfl) rfl #[.string a0, .string a1] rfl gl_ ?_; (with_reducible refine (stringslite_HasPrefix.calls a0 a1 t241 _ A3.out).mono ?_); rintro e w' ⟨rfl, ⟨nd, rfl⟩⟩; refine ⟨_, rfl, ?_⟩))
 go_ret
 exact ⟨by first | rfl | (simp; done) | (simp [*]; done), by repeat (first | exact Drawn0.refl _ | apply Drawn0.step)⟩

end Go.Proofs.YtbldbjfmibhffaaDoor.P
