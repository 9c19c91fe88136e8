/- The machine side of these statements, function by function: what each Go function answers (as a Lean function), and that it does. Written by a program (mp.py) for this claim. -/
import Derived.Test.YtokpagopokkjfaaDoorPx0
import Derived.Test.YtokpagopokkjfaaDoorPx1
namespace Go.Proofs.YtokpagopokkjfaaDoor.P
open Go.RowKit Go.Proofs.YtokpagopokkjfaaDoorW.PrintWords Go.Proofs.YtokpagopokkjfaaDoorW.PrintLast Go.Proofs.YtokpagopokkjfaaDoorW.PrintMore
attribute [local go_sem] max2_int min2_int max_two min_two max_three min_three max_four min_four   -- for this text's walks alone
set_option linter.unusedVariables false
set_option linter.unusedSimpArgs false

/-! ### impl_reader_take: function 62 -/
theorem info5r_ : (Tryd.prog.info? 5).map (fun i => (i.zero, i.size, i.bytes)) = some (some (.int .u8 0), 1, 1) := by kernel_rfl
def RdAt (W : World) (g : Nat) (s : ByteArray) (i p : Int) (bad : Bool) : Prop := W.heap[g]? = some (.cells #[.string s, .int .i64 i, .int .i64 p, .bool bad] 95 (0, 0))
theorem RdAt.cells {W : World} {g : Nat} {s : ByteArray} {i p : Int} {bad : Bool} (h : RdAt W g s i p bad) :
    (W.cell? ⟨g, 0, none⟩ = some (.string s) ∧ W.cell? ⟨g, 1, none⟩ = some (.int .i64 i) ∧ W.cell? ⟨g, 2, none⟩ = some (.int .i64 p) ∧ W.cell? ⟨g, 3, none⟩ = some (.bool bad)) ∧
    (W.frozen? ⟨g, 0, none⟩ = false ∧ W.frozen? ⟨g, 1, none⟩ = false ∧ W.frozen? ⟨g, 2, none⟩ = false ∧ W.frozen? ⟨g, 3, none⟩ = false) := by
  have c := fun j => cell_of_row W g j _ _ _ h
  have f := fun j => frozen_of_row W g j _ _ h
  exact ⟨⟨c 0, c 1, c 2, c 3⟩, f 0, f 1, f 2, f 3⟩
set_option maxHeartbeats 8000000 in
set_option maxRecDepth 100000 in
theorem rd_len (g : Nat) (s : ByteArray) (i p : Int) (bad : Bool) (W : World) (h : RdAt W g s i p bad) (h0 : 0 ≤ i) (h1 : i ≤ s.size) (hs : s.size ≤ 4611686018427387904) :
    Calls Tryd.prog 84 #[.pointer (some ⟨g, 0, none⟩)] W fun e w' => e = .returned (.int .i64 ((s.size : Int) - i)) ∧ ∃ n, w' = W.drewN n := by
  obtain ⟨⟨c0, c1, c2, c3⟩, _⟩ := h.cells
  clear h
  by_cases hi : i = s.size
  · subst hi
    go_enter Tryd.func84, Tryd.ntmps84
    go_wp2_with fail
    go_quiet (fail)
    go_wp2_with fail
    go_ret
    exact ⟨by simp, _, rfl⟩
  · have h2 : i < s.size := by omega
    go_enter Tryd.func84, Tryd.ntmps84
    go_wp2_with fail
    go_quiet (fail)
    go_wp2_with fail
    go_quiet (fail)
    go_wp2_with fail
    go_ret
    exact ⟨rfl, _, World.drewN_drewN _ _ _⟩
set_option maxHeartbeats 8000000 in
set_option maxRecDepth 100000 in
theorem rd_byte_ (g : Nat) (s : ByteArray) (i p : Int) (bad : Bool) (W : World) (h : RdAt W g s i p bad) (h0 : 0 ≤ i) (h1 : i < s.size) (hs : s.size ≤ 4611686018427387904) :
    Calls Tryd.prog 85 #[.pointer (some ⟨g, 0, none⟩)] W fun e w' => e = .returned (.tuple #[.int .u8 (bt s i), .nilIface]) ∧ RdAt w' g s (i + 1) (-1) bad ∧ KeepBut W w' g none ∧ Below g W w' := by
  obtain ⟨⟨c0, c1, c2, c3⟩, f0, f1, f2, f3⟩ := h.cells
  have eB : bt s i = (s[i.toNat]'(by omega)).toNat := by unfold bt; rw [dif_pos (by omega)]
  have hb := (s[i.toNat]'(by omega)).toNat_lt
  go_enter Tryd.func85, Tryd.ntmps85
  go_wp2_with fail
  go_quiet (fail)
  go_wp2_with fail
  go_quiet (fail)
  go_wp2_with fail
  go_ret2
  refine ⟨by rw [eB]; rfl, ?_, ?_⟩
  · have b2 : (W.setCell ⟨g, 2, none⟩ (.int .i64 (-1))).heap[g]? = some (.cells #[.string s, .int .i64 i, .int .i64 (-1), .bool bad] 95 (0, 0)) := (blk_set h 2 _).trans rfl
    exact (blk_set (blk_drewN b2 _) 1 _).trans rfl
  · exact ⟨(keep_drewN ((KeepBut.refl W g none).set_ 2 _) _).set_ 1 _, (pw_below_drewN ((Below.refl g W).setCell (Nat.le_refl _) _) _).setCell (Nat.le_refl _) _⟩
theorem rd_bad {W : World} {g : Nat} {s : ByteArray} {i p : Int} {b c : Bool} (h : RdAt W g s i p b) : RdAt (W.setCell ⟨g, 3, none⟩ (.bool c)) g s i p c := (blk_set h 3 _).trans rfl
set_option maxHeartbeats 8000000 in
set_option maxRecDepth 100000 in
theorem rd_take_no (g : Nat) (s : ByteArray) (i p n : Int) (bad : Bool) (W : World) (h : RdAt W g s i p bad) (h0 : 0 ≤ i) (h1 : i ≤ s.size) (hs : s.size ≤ 4611686018427387904) (hn : bad = true ∨ n < 0 ∨ (s.size : Int) - i < n) :
    Calls Tryd.prog 62 #[.pointer (some ⟨g, 0, none⟩), .int .i64 n] W fun e w' => e = .returned (.string ⟨#[]⟩) ∧ RdAt w' g s i p true ∧ KeepBut W w' g none ∧ Below g W w' := by
  obtain ⟨⟨c0, c1, c2, c3⟩, f0, f1, f2, f3⟩ := h.cells
  by_cases hb : bad = true
  · subst hb
    clear hn
    go_enter Tryd.func62, Tryd.ntmps62
    go_wp2_with fail
    go_ret
    exact ⟨rfl, rd_bad h, (KeepBut.refl W g none).set_ 3 _, (Below.refl g W).setCell (Nat.le_refl _) _⟩
  · obtain rfl : bad = false := by simpa using hb
    clear hb
    by_cases hb : n < 0
    · have hd : decide (n < 0) = true := decide_eq_true hb
      clear hn
      go_enter Tryd.func62, Tryd.ntmps62
      go_wp2_with fail
      go_ret
      exact ⟨rfl, rd_bad h, (KeepBut.refl W g none).set_ 3 _, (Below.refl g W).setCell (Nat.le_refl _) _⟩
    · have h2 : (s.size : Int) - i < n := by rcases hn with h | h | h <;> first | cases h | omega
      have hd : decide (n < 0) = false := decide_eq_false hb
      have hd2 : decide ((s.size : Int) - i < n) = true := decide_eq_true h2
      clear hn hb
      go_enter Tryd.func62, Tryd.ntmps62
      go_wp2_with (go_at_call 84; refine (rd_len g s i p false _ h h0 h1 hs).mono ?_; rintro e w' ⟨rfl, m, rfl⟩)
      go_ret
      exact ⟨rfl, rd_bad (show RdAt (W.drewN _) g s i p false from h), (keep_drewN (KeepBut.refl W g none) _).set_ 3 _, (pw_below_drewN (Below.refl g W) _).setCell (Nat.le_refl _) _⟩
def prevOf (n : Nat) (p : Int) : Int := if n = 0 then p else -1
/-- The bytes read so far, zeros behind. -/
def outA (s : ByteArray) (i n j : Nat) : Array Value := (nums .u8 ((((bytesOf s).drop i).take j) ++ List.replicate (n - j) 0)).toArray
theorem outA_list (s : ByteArray) (i n j : Nat) (h : i + n ≤ s.size) (hj : j < n) : ((((bytesOf s).drop i).take j) ++ List.replicate (n - j) 0).set j (bt s ((i : Int) + (j : Int))) = (((bytesOf s).drop i).take (j + 1)) ++ List.replicate (n - (j + 1)) 0 := by
  have hl : j < ((bytesOf s).drop i).length := by rw [List.length_drop, bytesOf_length]; omega
  have ht : (((bytesOf s).drop i).take j).length = j := by rw [List.length_take]; omega
  rw [List.set_append_right _ _ (by omega), ht, Nat.sub_self, show n - j = (n - (j + 1)) + 1 by omega, List.replicate_succ, List.set_cons_zero, List.take_succ_eq_append_getElem hl, List.append_assoc]
  congr 1
  have e : bt s ((i : Int) + (j : Int)) = ((bytesOf s).drop i)[j] := by
    unfold bt
    rw [dif_pos (by omega)]
    simp [bytesOf]
    congr 2
  rw [e]
  rfl
theorem outA_next (s : ByteArray) (i n j : Nat) (h : i + n ≤ s.size) (hj : j < n) : (outA s i n j).setIfInBounds j (.int .u8 (bt s ((i : Int) + (j : Int)))) = outA s i n (j + 1) := by
  unfold outA
  rw [← outA_list s i n j h hj]
  unfold nums
  rw [List.setIfInBounds_toArray, ← List.map_set]
theorem outA_at (s : ByteArray) (i n j : Nat) (h : i + n ≤ s.size) (hj : j < n) : (outA s i n j)[j]? = some (.int .u8 0) := by
  have ht : (((bytesOf s).drop i).take j).length = j := by rw [List.length_take, List.length_drop, bytesOf_length]; omega
  unfold outA nums
  rw [List.getElem?_toArray, List.getElem?_map, List.getElem?_append_right (by omega), ht, Nat.sub_self]
  rw [show n - j = (n - (j + 1)) + 1 by omega, List.replicate_succ]
  rfl
theorem outA_made (s : ByteArray) (i n : Nat) : madeCells #[.int .u8 0] (n * 1) = outA s i n 0 := by
  unfold outA nums madeCells
  apply Array.ext
  · simp
  · intro k h1 h2
    simp [Nat.mod_one]
theorem outA_text (s : ByteArray) (i n : Nat) (h : i + n ≤ s.size) : strOfNums (((bytesOf s).drop i).take n ++ List.replicate (n - n) 0) = s.extract i (i + n) := by
  rw [Nat.sub_self, List.replicate_zero, List.append_nil]
  apply ByteArray.ext
  unfold strOfNums bytesOf
  apply Array.toList_inj.1
  rw [ByteArray.data_extract, Array.toList_extract, List.extract_eq_take_drop]
  simp only [List.toList_toArray, Nat.add_sub_cancel_left]
  rw [← List.map_drop, ← List.map_take, List.map_map]
  conv => rhs; rw [← List.map_id ((s.data.toList.drop i).take n)]
  apply List.map_congr_left
  intro x _
  simp
theorem outA_reads {W : World} {o : Nat} {s : ByteArray} {i n : Nat} (h : i + n ≤ s.size) (hs : s.size ≤ 140737488355328) (hb : W.heap[o]? = some (.cells (outA s i n n) 5 (0, 0))) : ReadsInt W .u8 (some ⟨o, 0, none⟩) n (((bytesOf s).drop i).take n ++ List.replicate (n - n) 0) := by
  have hl : (((bytesOf s).drop i).take n ++ List.replicate (n - n) (0 : Int)).length = n := by simp [bytesOf_length]; omega
  refine ⟨hl, by omega, fun hn => ⟨_, rfl, fun j hj => ?_⟩⟩
  rw [add_plain, cell_of_row _ _ _ _ _ _ hb]
  unfold outA nums
  rw [List.getElem?_toArray, List.getElem?_map, List.getElem?_eq_getElem (by omega)]
  simp only [Option.map_some, List.getD_eq_getElem?_getD]
  rw [List.getElem?_eq_getElem (by omega)]
  rfl
set_option maxHeartbeats 8000000 in
set_option maxRecDepth 100000 in
theorem rd_take_yes (g : Nat) (s : ByteArray) (i n : Nat) (p : Int) (W : World) (h : RdAt W g s i p false) (h1 : i + n ≤ s.size) (hs : s.size ≤ 140737488355328) :
    Calls Tryd.prog 62 #[.pointer (some ⟨g, 0, none⟩), .int .i64 n] W fun e w' => e = .returned (.string (s.extract i (i + n))) ∧ RdAt w' g s ((i : Int) + (n : Int)) (prevOf n p) false ∧ KeepBut W w' g none ∧ Below g W w' := by
  obtain ⟨⟨c0, c1, c2, c3⟩, f0, f1, f2, f3⟩ := h.cells
  have hg : g < W.heap.size := blk_lt h
  have hd : decide ((n : Int) < 0) = false := decide_eq_false (by omega)
  have hd2 : decide ((s.size : Int) - (i : Int) < (n : Int)) = false := decide_eq_false (by omega)
  obtain ⟨i0, hi, hzz⟩ := Option.map_eq_some_iff.1 info5r_
  simp only [Prod.mk.injEq] at hzz
  obtain ⟨hz0, hz1, hz2⟩ := hzz
  have hmk : ∀ W' : World, (Instr.makeSlice 35 (.int .i64 (n : Int)) (.int .i64 (n : Int))).run Tryd.prog W' = .ok (.slice (some ⟨W'.heap.size, 0, none⟩) n n) (W'.alloc (.cells (outA s i n 0) 5)) := fun W' => by
    have := run_make (P := Tryd.prog) (w := W') 35 5 i0 (.int .u8 0) Tryd.underlying35 hi hz0 .i64 .i64 (n : Int) (n : Int) (by omega) (by omega) (by rw [hz2]; omega) (by omega)
    rw [this, hz1]
    simp only [Int.toNat_natCast]
    rw [← outA_made s i n]
    rfl
  replace hi := Aside0.mk hi
  clear hz0 hz1 hz2
  have hn0 : (n : Int) ≤ 140737488355328 := by omega
  go_enter Tryd.func62, Tryd.ntmps62
  go_wp2_with (go_at_call 84; refine (rd_len g s i p false _ h (by omega) (by omega) (by omega)).mono ?_; rintro e w' ⟨rfl, m, rfl⟩)
  have R0 : RdAt ((W.drewN m).alloc (.cells (outA s i n 0) 5)) g s ((i : Int) + ((0 : Nat) : Int)) (prevOf 0 p) false := by
    rw [show prevOf 0 p = p from if_pos rfl]
    rw [show (i : Int) + ((0 : Nat) : Int) = (i : Int) by omega]
    exact blk_alloc (blk_drewN h m) _
  have O0 : ((W.drewN m).alloc (.cells (outA s i n 0) 5)).heap[W.heap.size]? = some (.cells (outA s i n 0) 5 (0, 0)) := heap_alloc_new (W.drewN m) _
  have K0 : KeepBut W ((W.drewN m).alloc (.cells (outA s i n 0) 5)) g none := keep_alloc (keep_drewN (KeepBut.refl W g none) m) _
  have Q0 : Below g W ((W.drewN m).alloc (.cells (outA s i n 0) 5)) := (pw_below_drewN (Below.refl g W) _).alloc (Nat.le_of_lt hg) _
  replace Q0 := Aside0.mk Q0
  replace R0 := Aside0.mk R0
  replace O0 := Aside0.mk O0
  replace K0 := Aside0.mk K0
  clear hmk c0 c1 c2 c3 f0 f1 f2 f3 hd hd2
  replace hi := trivial
  go_loopw [30] (fun x wr => ∃ j : Nat, j ≤ n ∧ x = .int .i64 j ∧ Aside0 (RdAt wr g s ((i : Int) + (j : Int)) (prevOf j p) false) ∧ Aside0 (wr.heap[W.heap.size]? = some (.cells (outA s i n j) 5 (0, 0))) ∧ Aside0 (KeepBut W wr g none) ∧ Aside0 (Below g W wr)) (fun x _ => n - (intOf x).toNat)
  case atStart => exact ⟨0, by omega, rfl, R0, O0, K0, Q0⟩
  case round =>
    clear R0 O0 K0 Q0
    obtain ⟨j, hj, rfl, R1, O1, K1, Q1⟩ := hrel
    by_cases hlt : j < n
    · have hlt2 : decide ((j : Int) < (n : Int)) = true := decide_eq_true (by omega)
      go_wp2_with fail
      refine (rd_byte_ g s ((i : Int) + (j : Int)) _ false _ R1.out (by omega) (by omega) (by omega)).mono ?_
      rintro e w2 ⟨rfl, R2, K2, B2⟩
      have QQ := Aside0.mk (Q1.out.trans B2)
      have O2 := K2.blk O1.out (by omega) (by simp)
      have KK := Aside0.mk (KeepBut.trans K1.out K2 (.inl rfl))
      have hO2 := Aside0.mk O2
      have oc : w2.cell? ⟨W.heap.size, j, none⟩ = some (.int .u8 0) := (cell_of_row _ _ _ _ _ _ O2).trans (outA_at s i n j h1 hlt)
      have of : w2.frozen? ⟨W.heap.size, j, none⟩ = false := frozen_of_row _ _ _ _ _ O2
      have RR := Aside0.mk R2
      clear O2 R2 K2 R1 O1 K1 B2 Q1
      go_wp2_with fail
      go_roundw
      case rel => exact ⟨j + 1, by omega, by go_num, ⟨by
        have := RR.out
        rw [show prevOf (j + 1) p = -1 from if_neg (by omega), show (i : Int) + ((j + 1 : Nat) : Int) = (i : Int) + (j : Int) + 1 by omega]
        exact (Below.heap_setCell _ _ _ _ (by simp; omega)).trans this⟩, ⟨by rw [← outA_next s i n j h1 hlt]; exact blk_set hO2.out _ _⟩, ⟨keep_far KK.out (Nat.le_refl _) _⟩, ⟨QQ.out.setCell (Nat.le_of_lt hg) _⟩⟩
      case measure => simp [intOf]; omega
    · obtain rfl : j = n := by omega
      have hcv : (convert 35 9 (.slice (some ⟨W.heap.size, 0, none⟩) j j)).run Tryd.prog wr = .ok (.string (s.extract i (i + j))) wr := by
        have := string_of_reads (P := Tryd.prog) (src := 35) (dst := 9) (c := j) Tryd.underlying35 Tryd.underlying5 Tryd.underlying9 (outA_reads h1 hs O1.out)
        rw [outA_text s i j h1] at this
        exact this
      go_wp2_with fail
      go_ret
      exact ⟨rfl, R1.out, K1.out, Q1.out⟩
def impl_reader_take.f (s0_0 : ByteArray) (s0_1 : Int) (s0_2 : Int) (s0_3 : Bool) (a1 : Int) : Option (ByteArray × ByteArray × Int × Int × Bool) :=
  if 0 ≤ s0_1 ∧ s0_1 ≤ (s0_0.size : Int) ∧ s0_0.size ≤ 140737488355328 then
    if s0_3 = true ∨ a1 < 0 ∨ (s0_0.size : Int) - s0_1 < a1 then some (⟨#[]⟩, s0_0, s0_1, s0_2, true) else some (s0_0.extract s0_1.toNat (s0_1.toNat + a1.toNat), s0_0, s0_1 + a1, prevOf a1.toNat s0_2, false)
  else none
theorem impl_reader_take.calls (g : Nat) (s0_0 : ByteArray) (s0_1 : Int) (s0_2 : Int) (s0_3 : Bool) (a1 : Int) (r1 : ByteArray) (r2 : ByteArray) (r3 : Int) (r4 : Int) (r5 : Bool) (w0 w : World) (hI : IsS95 w0 w g s0_0 s0_1 s0_2 s0_3) (hB : Below w0.heap.size w0 w) (h : impl_reader_take.f s0_0 s0_1 s0_2 s0_3 a1 = some (r1, r2, r3, r4, r5)) :
  Calls Tryd.prog 62 #[.pointer (some ⟨g, 0, none⟩), .int .i64 a1] w fun e w' => e = .returned (.string r1) ∧ IsS95 w0 w' g r2 r3 r4 r5 ∧ Below w0.heap.size w0 w' ∧ KeepBut w w' g none := by
  unfold impl_reader_take.f at h
  split at h
  case isFalse => cases h
  rename_i hh
  obtain ⟨h0, h1, hs⟩ := hh
  split at h
  · rename_i hn
    simp only [Option.some.injEq, Prod.mk.injEq] at h
    obtain ⟨rfl, rfl, rfl, rfl, rfl⟩ := h
    refine (rd_take_no g s0_0 s0_1 s0_2 a1 s0_3 w hI.1 h0 h1 (by omega) hn).mono ?_
    rintro e w' ⟨rfl, hR, hK, hG⟩
    exact ⟨rfl, ⟨hR, hI.2⟩, hB.trans (hG.mono hI.2), hK⟩
  · rename_i hn
    simp only [Option.some.injEq, Prod.mk.injEq] at h
    obtain ⟨rfl, rfl, rfl, rfl, rfl⟩ := h
    obtain ⟨hb, hn1, hn2⟩ : s0_3 = false ∧ 0 ≤ a1 ∧ a1 ≤ (s0_0.size : Int) - s0_1 := by
      refine ⟨?_, ?_, ?_⟩
      · cases s0_3 with
        | false => rfl
        | true => exact absurd (.inl rfl) hn
      · exact Int.not_lt.1 fun h => hn (.inr (.inl h))
      · exact Int.not_lt.1 fun h => hn (.inr (.inr h))
    subst hb
    obtain ⟨i, rfl⟩ := Int.eq_ofNat_of_zero_le h0
    obtain ⟨n, rfl⟩ := Int.eq_ofNat_of_zero_le hn1
    refine (rd_take_yes g s0_0 i n s0_2 w hI.1 (by omega) hs).mono ?_
    rintro e w' ⟨rfl, hR, hK, hG⟩
    exact ⟨rfl, ⟨hR, hI.2⟩, hB.trans (hG.mono hI.2), hK⟩

/-! ### impl_NumGet: function 82 -/
mutual
def impl_NumGet.j0 : Nat → ByteArray → Int → Int → Bool → Option (Int × Bool)
 | 0, _, _, _, _ => none
 | k + 1, x0, x1, x2, x27 => if x27 = true then (some (0, false)) else (impl_NumGet.l0 k x0 x1 0 x2 0)
def impl_NumGet.l0 : Nat → ByteArray → Int → Int → Int → Int → Option (Int × Bool)
 | 0, _, _, _, _, _ => none
 | k + 1, x0, x1, x8, x28, x29 => if x29 < x28 then (if 0 ≤ (wrap64 (x1 + x29)) then (if (wrap64 (x1 + x29)) < (x0.size : Int) then (impl_NumGet.l0 k x0 x1 (Go.bits .or .i64 (wrap64 (x8 * 256)) (wrap64 (bt x0 (wrap64 (x1 + x29))))) x28 (wrap64 (x29 + 1))) else (none)) else (none)) else (some (x8, true))
end
def impl_NumGet.f (k : Nat) (a0 : ByteArray) (a1 : Int) (a2 : Int) : Option (Int × Bool) := if a2 < 1 then (impl_NumGet.j0 k a0 a1 a2 true) else (if a2 > 4 then (impl_NumGet.j0 k a0 a1 a2 true) else (if a1 < 0 then (impl_NumGet.j0 k a0 a1 a2 true) else (impl_NumGet.j0 k a0 a1 a2 (decide (a1 > (wrap64 ((a0.size : Int) - a2)))))))
theorem impl_NumGet.mono_l : ∀ k, (∀ y0 y1 y2 y3, LeO (impl_NumGet.j0 k y0 y1 y2 y3) (impl_NumGet.j0 (k + 1) y0 y1 y2 y3)) ∧ (∀ y0 y1 y2 y3 y4, LeO (impl_NumGet.l0 k y0 y1 y2 y3 y4) (impl_NumGet.l0 (k + 1) y0 y1 y2 y3 y4))
 | 0 => ⟨fun _ _ _ _ r h => by simp [impl_NumGet.j0] at h, fun _ _ _ _ _ r h => by simp [impl_NumGet.l0] at h⟩
 | k + 1 => by
  obtain ⟨ih0, ih1⟩ := impl_NumGet.mono_l k
  refine ⟨?_, ?_⟩
  ·intro y0 y1 y2 y3
   unfold impl_NumGet.j0
   repeat' first
   | (with_reducible exact ih0 _ _ _ _)
   | (with_reducible exact ih1 _ _ _ _ _)
   | (with_reducible exact LeO.refl _)
   | (with_reducible exact LeO.none _)
   | (with_reducible refine LeO.ite ?_ ?_)
   | (with_reducible refine LeO.bind ?_ (fun _ => ?_))
   | exact ih0 _ _ _ _
   | exact ih1 _ _ _ _ _
   | exact LeO.none _
   | refine LeO.ite ?_ ?_
   | refine LeO.bind ?_ (fun _ => ?_)
  ·intro y0 y1 y2 y3 y4
   unfold impl_NumGet.l0
   repeat' first
   | (with_reducible exact ih0 _ _ _ _)
   | (with_reducible exact ih1 _ _ _ _ _)
   | (with_reducible exact LeO.refl _)
   | (with_reducible exact LeO.none _)
   | (with_reducible refine LeO.ite ?_ ?_)
   | (with_reducible refine LeO.bind ?_ (fun _ => ?_))
   | exact ih0 _ _ _ _
   | exact ih1 _ _ _ _ _
   | exact LeO.none _
   | refine LeO.ite ?_ ?_
   | refine LeO.bind ?_ (fun _ => ?_)
theorem impl_NumGet.mono : ∀ a0 a1 a2 k, LeO (impl_NumGet.f k a0 a1 a2) (impl_NumGet.f (k + 1) a0 a1 a2) := by
 intro a0 a1 a2 k
 obtain ⟨ih0, ih1⟩ := impl_NumGet.mono_l k
 unfold impl_NumGet.f
 repeat' first
   | (with_reducible exact ih0 _ _ _ _)
   | (with_reducible exact ih1 _ _ _ _ _)
   | (with_reducible exact LeO.refl _)
   | (with_reducible exact LeO.none _)
   | (with_reducible refine LeO.ite ?_ ?_)
   | (with_reducible refine LeO.bind ?_ (fun _ => ?_))
   | exact ih0 _ _ _ _
   | exact ih1 _ _ _ _ _
   | exact LeO.none _
   | refine LeO.ite ?_ ?_
   | refine LeO.bind ?_ (fun _ => ?_)
set_option maxHeartbeats 8000000 in
set_option maxRecDepth 100000 in
theorem impl_NumGet.calls (k : Nat) (a0 : ByteArray) (a1 : Int) (a2 : Int) (r1 : Int) (r2 : Bool) (w : World) (h : impl_NumGet.f k a0 a1 a2 = some (r1, r2)) :
  Calls Tryd.prog 82 #[.string a0, .int .i64 a1, .int .i64 a2] w fun e w' => e = .returned (.tuple #[.int .i64 r1, .bool r2]) ∧ Drawn0 w w' := by
 have H : (if a2 < 1 then (impl_NumGet.j0 k a0 a1 a2 true) else (if a2 > 4 then (impl_NumGet.j0 k a0 a1 a2 true) else (if a1 < 0 then (impl_NumGet.j0 k a0 a1 a2 true) else (impl_NumGet.j0 k a0 a1 a2 (decide (a1 > (wrap64 ((a0.size : Int) - a2)))))))) = some (r1, r2) := h
 clear h
 have HC4 := Aside0.mk H
 clear H
 go_enter Tryd.func82, Tryd.ntmps82
 go_upto_region 1 with (fail)
 go_cut [27] (fun v27 wc => ∃ (kq : Nat) (x27_3 : Bool), v27 = .bool x27_3 ∧ Aside0 (impl_NumGet.j0 kq a0 a1 a2 x27_3 = some (r1, r2)) ∧ Aside0 (kq ≤ k) ∧ Drawn0 w wc)
 case first =>
  have H := HC4.out
  clear HC4
  by_cases c5 : a2 < 1
  ·rw [if_pos c5] at H
   have c5b0 : decide (a2 < 1) = true := decide_eq_true c5
   clear c5
   (first | rw [c5b0] | (simp only [i64_w, i32_w]; rw [c5b0]) | skip)
   have H' := Aside0.mk H
   clear H
   go_wp2
   go_meet
   case rel => exact ⟨_, (true), (by first | rfl | (simp; done) | (simp [*]; done)), H', ⟨by first | omega | exact Nat.le_refl _⟩, by repeat (first | exact Drawn0.refl _ | apply Drawn0.step)⟩
  ·rw [if_neg c5] at H
   have c5b0 : decide (a2 < 1) = false := decide_eq_false c5
   clear c5
   (first | rw [c5b0] | (simp only [i64_w, i32_w]; rw [c5b0]) | skip)
   by_cases c6 : a2 > 4
   ·rw [if_pos c6] at H
    have c6b0 : decide (4 < a2) = true := decide_eq_true c6
    clear c6
    have H' := Aside0.mk H
    clear H
    go_wp2
    go_meet
    case rel => exact ⟨_, (true), (by first | rfl | (simp; done) | (simp [*]; done)), H', ⟨by first | omega | exact Nat.le_refl _⟩, by repeat (first | exact Drawn0.refl _ | apply Drawn0.step)⟩
   ·rw [if_neg c6] at H
    have c6b0 : decide (4 < a2) = false := decide_eq_false c6
    clear c6
    by_cases c7 : a1 < 0
    ·rw [if_pos c7] at H
     have c7b0 : decide (a1 < 0) = true := decide_eq_true c7
     clear c7
     have H' := Aside0.mk H
     clear H
     go_wp2
     go_meet
     case rel => exact ⟨_, (true), (by first | rfl | (simp; done) | (simp [*]; done)), H', ⟨by first | omega | exact Nat.le_refl _⟩, by repeat (first | exact Drawn0.refl _ | apply Drawn0.step)⟩
    ·rw [if_neg c7] at H
     have c7b0 : decide (a1 < 0) = false := decide_eq_false c7
     clear c7
     have H' := Aside0.mk H
     clear H
     go_wp2
     go_meet
     case rel => exact ⟨_, (decide (a1 > (wrap64 ((a0.size : Int) - a2)))), (by first | rfl | (simp; done) | (simp [*]; done)), H', ⟨by first | omega | exact Nat.le_refl _⟩, by repeat (first | exact Drawn0.refl _ | apply Drawn0.step)⟩
 case rest =>
  clear HC4
  try clear p2
  try clear c5
  try clear c5b0
  try clear c6
  try clear c6b0
  try clear p6
  try clear c7
  try clear c7b0
  obtain ⟨kq, x27_3, rfl, HA, HJ3, ⟨mc3, rfl⟩⟩ := hcut
  cases kq with
  | zero => exact absurd HA.out (by simp [impl_NumGet.j0])
  | succ kj3 =>
   have H := HA.out
   clear HA
   simp only [impl_NumGet.j0] at H
   by_cases c8 : x27_3 = true
   ·subst c8
    have H1 : (some (0, false)) = some (r1, r2) := by rw [if_pos rfl] at H; exact H
    clear H
    have H := H1
    clear H1
    simp only [Option.some.injEq, Prod.mk.injEq] at H
    obtain ⟨rfl, rfl⟩ := H
    go_wp2
    go_ret2
    exact ⟨by first | rfl | (simp; done) | (simp [*]; done), by repeat (first | exact Drawn0.refl _ | apply Drawn0.step)⟩
   ·replace c8 := Bool.eq_false_iff.mpr c8
    subst c8
    have H1 : (impl_NumGet.l0 kj3 a0 a1 0 a2 0) = some (r1, r2) := by rw [if_neg (show ¬ (false = true) by decide)] at H; exact H
    clear H
    have H := H1
    clear H1
    have H' := Aside0.mk H
    clear H
    go_wp2
    go_loopg [8, 29] kj3 (fun kq v8 v29 w' => ∃ (x8_2 : Int) (x29_2 : Int), v8 = .int .i64 x8_2 ∧ v29 = .int .i64 x29_2 ∧ Aside0 (impl_NumGet.l0 kq a0 a1 x8_2 a2 x29_2 = some (r1, r2)) ∧ Aside0 (kq ≤ kj3) ∧ Drawn0 w w')
    case atStart => exact ⟨(0), (0), (by first | rfl | (simp; done) | (simp [*]; done)), (by first | rfl | (simp; done) | (simp [*]; done)), H', ⟨Nat.le_refl _⟩, by repeat (first | exact Drawn0.refl _ | apply Drawn0.step)⟩
    case round =>
     clear H'
     try clear p2
     try clear c3
     try clear c5
     try clear c5b0
     try clear c6
     try clear c6b0
     try clear p6
     try clear c7
     try clear c7b0
     try clear c8
     try clear p2
     try clear p6
     obtain ⟨x8_2, x29_2, rfl, rfl, HA, HK2, ⟨m2, rfl⟩⟩ := hrel
     cases gk with
     | zero => exact absurd HA.out (by simp [impl_NumGet.l0])
     | succ k2 =>
      have H := HA.out
      clear HA
      simp only [impl_NumGet.l0] at H
      by_cases c9 : x29_2 < a2
      ·rw [if_pos c9] at H
       have c9b0 : decide (x29_2 < a2) = true := decide_eq_true c9
       clear c9
       obtain ⟨ji10, hji10⟩ : ∃ j_ : Int, (wrap64 (a1 + x29_2)) = j_ := ⟨_, rfl⟩
       replace H : (if 0 ≤ (ji10) then (if (ji10) < (a0.size : Int) then (impl_NumGet.l0 k2 a0 a1 (Go.bits .or .i64 (wrap64 (x8_2 * 256)) (wrap64 (bt a0 (ji10)))) a2 (wrap64 (x29_2 + 1))) else (none)) else (none)) = some (r1, r2) := by first | (rw [hji10] at H; exact H) | (simp only [hji10] at H ⊢; exact H)
       have hji10w : (IntKind.i64.wrap (a1 + x29_2)) = ji10 := (i64_w _).trans hji10
       by_cases c11 : 0 ≤ (ji10)
       ·rw [if_pos c11] at H
        have c11b0 : decide (0 ≤ (ji10)) = true := decide_eq_true c11
        clear c11
        by_cases c12 : (ji10) < (a0.size : Int)
        ·rw [if_pos c12] at H
         have c12b0 : decide ((ji10) < (a0.size : Int)) = true := decide_eq_true c12
         clear c12
         have H' := Aside0.mk H
         clear H
         have p13 : 0 ≤ ((ji10) : Int) := of_decide_eq_true (by first | (with_reducible assumption) | assumption)
         have q13 : (ji10) < (a0.size : Int) := of_decide_eq_true (by first | (with_reducible assumption) | assumption)
         have hx13 := bt_at a0 (ji10)
         replace p13 := eq_true p13
         replace q13 := eq_true q13
         go_wp2
         go_roundg k2
         case measure => have := HJ3.out; have := HK2.out; omega
         case rel => exact ⟨(Go.bits .or .i64 (wrap64 (x8_2 * 256)) (wrap64 (bt a0 (ji10)))), (wrap64 (x29_2 + 1)), (by first | rfl | (simp; done) | (simp only [← hji10] <;> (first | rfl | simp)) | (simp [*]; done)), (by first | rfl | (simp; done) | (simp [*]; done)), H', ⟨by have := HJ3.out; have := HK2.out; omega⟩, by repeat (first | exact Drawn0.refl _ | apply Drawn0.step)⟩
        ·rw [if_neg c12] at H
         exact absurd H (by simp)
       ·rw [if_neg c11] at H
        exact absurd H (by simp)
      ·rw [if_neg c9] at H
       have c9b0 : decide (x29_2 < a2) = false := decide_eq_false c9
       clear c9
       simp only [Option.some.injEq, Prod.mk.injEq] at H
       obtain ⟨rfl, rfl⟩ := H
       go_wp2
       go_ret2
       exact ⟨by first | rfl | (simp; done) | (simp [*]; done), by repeat (first | exact Drawn0.refl _ | apply Drawn0.step)⟩

/-! ### impl_reader_number: function 61 -/
def impl_reader_number.f (k : Nat) (s0_0 : ByteArray) (s0_1 : Int) (s0_2 : Int) (s0_3 : Bool) (a1 : Int) : Option (Int × ByteArray × Int × Int × Bool) := (impl_reader_take.f s0_0 s0_1 s0_2 s0_3 a1).bind fun bt148 => ((impl_NumGet.f k bt148.1 0 a1).bind fun bt153 => (if bt153.2 = true then (some (bt153.1, bt148.2.1, bt148.2.2.1, bt148.2.2.2.1, bt148.2.2.2.2)) else (some (bt153.1, bt148.2.1, bt148.2.2.1, bt148.2.2.2.1, true))))
theorem impl_reader_number.mono : ∀ a0 a1 a2 a3 a4 k, LeO (impl_reader_number.f k a0 a1 a2 a3 a4) (impl_reader_number.f (k + 1) a0 a1 a2 a3 a4) := by
 intro a0 a1 a2 a3 a4 k
 unfold impl_reader_number.f
 repeat' first
   | (with_reducible exact impl_NumGet.mono _ _ _ _)
   | (with_reducible exact LeO.refl _)
   | (with_reducible exact LeO.none _)
   | (with_reducible refine LeO.ite ?_ ?_)
   | (with_reducible refine LeO.bind ?_ (fun _ => ?_))
   | exact impl_NumGet.mono _ _ _ _
   | exact LeO.none _
   | refine LeO.ite ?_ ?_
   | refine LeO.bind ?_ (fun _ => ?_)
set_option maxHeartbeats 8000000 in
set_option maxRecDepth 100000 in
theorem impl_reader_number.calls (k : Nat) (g : Nat) (s0_0 : ByteArray) (s0_1 : Int) (s0_2 : Int) (s0_3 : Bool) (a1 : Int) (r1 : Int) (r2 : ByteArray) (r3 : Int) (r4 : Int) (r5 : Bool) (w0 w : World) (hI : IsS95 w0 w g s0_0 s0_1 s0_2 s0_3) (hB : Below w0.heap.size w0 w) (h : impl_reader_number.f k s0_0 s0_1 s0_2 s0_3 a1 = some (r1, r2, r3, r4, r5)) :
  Calls Tryd.prog 61 #[.pointer (some ⟨g, 0, none⟩), .int .i64 a1] w fun e w' => e = .returned (.int .i64 r1) ∧ IsS95 w0 w' g r2 r3 r4 r5 ∧ Below w0.heap.size w0 w' ∧ KeepBut w w' g none := by
 have HI0 := Aside0.mk hI
 have HK := m_ (KeepBut.refl w g none)
 have HL := Aside0.mk hB.size
 clear hI
 have HW0 := Aside0.mk hB.size
 have HB := Aside0.mk hB
 clear hB
 have H : ((impl_reader_take.f s0_0 s0_1 s0_2 s0_3 a1).bind fun bt148 => ((impl_NumGet.f k bt148.1 0 a1).bind fun bt153 => (if bt153.2 = true then (some (bt153.1, bt148.2.1, bt148.2.2.1, bt148.2.2.2.1, bt148.2.2.2.2)) else (some (bt153.1, bt148.2.1, bt148.2.2.1, bt148.2.2.2.1, true))))) = some (r1, r2, r3, r4, r5) := h
 clear h
 replace H := Option.bind_eq_some_iff.mp H
 obtain ⟨⟨t148, t149, t150, t151, t152⟩, A30, H⟩ := H
 replace H : ((impl_NumGet.f k t148 0 a1).bind fun bt153 => (if bt153.2 = true then (some (bt153.1, t149, t150, t151, t152)) else (some (bt153.1, t149, t150, t151, true)))) = some (r1, r2, r3, r4, r5) := H
 have A3 := Aside0.mk A30
 clear A30
 replace H := Option.bind_eq_some_iff.mp H
 obtain ⟨⟨t153, t154⟩, A40, H⟩ := H
 replace H : (if t154 = true then (some (t153, t149, t150, t151, t152)) else (some (t153, t149, t150, t151, true))) = some (r1, r2, r3, r4, r5) := H
 have A4 := Aside0.mk A40
 clear A40
 by_cases c5 : t154 = true
 ·subst c5
  have H1 : (some (t153, t149, t150, t151, t152)) = some (r1, r2, r3, r4, r5) := by rw [if_pos rfl] at H; exact H
  clear H
  have H := H1
  clear H1
  simp only [Option.some.injEq, Prod.mk.injEq] at H
  obtain ⟨rfl, rfl, rfl, rfl, rfl⟩ := H
  go_enter Tryd.func61, Tryd.ntmps61
  go_wp2_with (first | ((with_reducible refine gate_callee (f := 62) rfl ?_); refine goesL_ (some 10) rfl rfl Tryd.func62 (by kernel_rfl) rfl #[.pointer (some ⟨g, 0, none⟩), .int .i64 a1] rfl gl_ ?_; (with_reducible refine (impl_reader_take.calls g s0_0 s0_1 s0_2 s0_3 a1 t148 t149 t150 t151 t152 w0 _ ?side1 ?side2 A3.out).mono ?_); (case side1 => repeat (first | (with_reducible first | exact HI0.out | apply IsS95.alloc | apply IsS95.drewN | apply IsS95.drew | apply IsS95.set_0 | apply IsS95.set_1 | apply IsS95.set_2 | apply IsS95.set_3) | exact HI0.out)); (case side2 => repeat (first | (with_reducible first | exact HB.out | apply below_alloc | apply pw_below_drewN | apply below_drew1 | refine below_set ?_ (IsS95.ge HI0.out)) | exact HB.out)); rintro e w6 ⟨rfl, hi, hb, hk⟩; refine ⟨_, rfl, ?_⟩; have n0_ := m_ (KeepBut.trans (by repeat (first | (with_reducible first | exact HK.out | apply KeepBut.set_ | apply keep_drewN | apply keep_drew | apply keep_alloc) | exact HK.out)) hk (.inl rfl)); have n1_ := m_ (hb); have n2_ := m_ (hi); clear HK; clear HB; clear HI0; have HK := n0_; have HB := n1_; have HI0 := n2_; clear n0_ n1_ n2_; (try clear hb); (try clear hb2); (try clear hk); (try clear hi)) | ((with_reducible refine gate_callee (f := 82) rfl ?_); refine goesL_ (some 12) rfl rfl Tryd.func82 (by kernel_rfl) rfl #[.string t148, .int .i64 0, .int .i64 a1] rfl gl_ ?_; (with_reducible refine (impl_NumGet.calls k t148 0 a1 t153 true _ A4.out).mono ?_); rintro e w' ⟨rfl, ⟨nd, rfl⟩⟩; refine ⟨_, rfl, ?_⟩))
  go_ret
  exact ⟨by first | rfl | (simp [errW_none, errW_some] <;> rfl) | (simp [*, errW_none, errW_some] <;> rfl), by repeat (first | (with_reducible first | exact HI0.out | apply IsS95.alloc | apply IsS95.drewN | apply IsS95.drew | apply IsS95.set_0 | apply IsS95.set_1 | apply IsS95.set_2 | apply IsS95.set_3) | exact HI0.out), by repeat (first | (with_reducible first | exact HB.out | apply below_alloc | apply pw_below_drewN | apply below_drew1 | refine below_set ?_ (IsS95.ge HI0.out)) | exact HB.out), by repeat (first | (with_reducible first | exact HK.out | apply KeepBut.set_ | apply keep_drewN | apply keep_drew | apply keep_alloc) | exact HK.out)⟩
 ·replace c5 := Bool.eq_false_iff.mpr c5
  subst c5
  have H1 : (some (t153, t149, t150, t151, true)) = some (r1, r2, r3, r4, r5) := by rw [if_neg (show ¬ (false = true) by decide)] at H; exact H
  clear H
  have H := H1
  clear H1
  simp only [Option.some.injEq, Prod.mk.injEq] at H
  obtain ⟨rfl, rfl, rfl, rfl, rfl⟩ := H
  go_enter Tryd.func61, Tryd.ntmps61
  go_wp2_with (first | ((with_reducible refine gate_callee (f := 62) rfl ?_); refine goesL_ (some 10) rfl rfl Tryd.func62 (by kernel_rfl) rfl #[.pointer (some ⟨g, 0, none⟩), .int .i64 a1] rfl gl_ ?_; (with_reducible refine (impl_reader_take.calls g s0_0 s0_1 s0_2 s0_3 a1 t148 t149 t150 t151 t152 w0 _ ?side1 ?side2 A3.out).mono ?_); (case side1 => repeat (first | (with_reducible first | exact HI0.out | apply IsS95.alloc | apply IsS95.drewN | apply IsS95.drew | apply IsS95.set_0 | apply IsS95.set_1 | apply IsS95.set_2 | apply IsS95.set_3) | exact HI0.out)); (case side2 => repeat (first | (with_reducible first | exact HB.out | apply below_alloc | apply pw_below_drewN | apply below_drew1 | refine below_set ?_ (IsS95.ge HI0.out)) | exact HB.out)); rintro e w7 ⟨rfl, hi, hb, hk⟩; refine ⟨_, rfl, ?_⟩; have n0_ := m_ (KeepBut.trans (by repeat (first | (with_reducible first | exact HK.out | apply KeepBut.set_ | apply keep_drewN | apply keep_drew | apply keep_alloc) | exact HK.out)) hk (.inl rfl)); have n1_ := m_ (hb); have n2_ := m_ (hi); clear HK; clear HB; clear HI0; have HK := n0_; have HB := n1_; have HI0 := n2_; clear n0_ n1_ n2_; (try clear hb); (try clear hb2); (try clear hk); (try clear hi)) | ((with_reducible refine gate_callee (f := 82) rfl ?_); refine goesL_ (some 12) rfl rfl Tryd.func82 (by kernel_rfl) rfl #[.string t148, .int .i64 0, .int .i64 a1] rfl gl_ ?_; (with_reducible refine (impl_NumGet.calls k t148 0 a1 t153 false _ A4.out).mono ?_); rintro e w' ⟨rfl, ⟨nd, rfl⟩⟩; refine ⟨_, rfl, ?_⟩; (try (rw [drewN_self w7]; generalize hq_ : World.drewN w7 _ = w7; have n0_ : Aside0 (IsS95 w0 w7 g t149 t150 t151 t152) := ⟨by rw [← hq_]; exact (by repeat (first | (with_reducible first | exact HI0.out | apply IsS95.alloc | apply IsS95.drewN | apply IsS95.drew | apply IsS95.set_0 | apply IsS95.set_1 | apply IsS95.set_2 | apply IsS95.set_3) | exact HI0.out))⟩; have n1_ : Aside0 (KeepBut w w7 g none) := ⟨by rw [← hq_]; exact (by repeat (first | (with_reducible first | exact HK.out | apply KeepBut.set_ | apply keep_drewN | apply keep_drew | apply keep_alloc) | exact HK.out))⟩; have n2_ : Aside0 (Below w0.heap.size w0 w7) := ⟨by rw [← hq_]; exact (by repeat (first | (with_reducible first | exact HB.out | apply below_alloc | apply pw_below_drewN | apply below_drew1 | refine below_set ?_ (IsS95.ge HI0.out)) | exact HB.out))⟩; clear HI0 HK HB hq_; have HI0 := n0_; have HK := n1_; have HB := n2_; clear n0_ n1_ n2_)); obtain ⟨HGz8, hgz8⟩ := HI0.out; have hcz8_0 := cellS95_0 HGz8; have hcz8_1 := cellS95_1 HGz8; have hcz8_2 := cellS95_2 HGz8; have hcz8_3 := cellS95_3 HGz8; have hfz8_0 := blk_frozen HGz8 0; have hfz8_1 := blk_frozen HGz8 1; have hfz8_2 := blk_frozen HGz8 2; have hfz8_3 := blk_frozen HGz8 3; clear HGz8 hgz8))
  go_ret
  exact ⟨by first | rfl | (simp [errW_none, errW_some] <;> rfl) | (simp [*, errW_none, errW_some] <;> rfl), by repeat (first | (with_reducible first | exact HI0.out | apply IsS95.alloc | apply IsS95.drewN | apply IsS95.drew | apply IsS95.set_0 | apply IsS95.set_1 | apply IsS95.set_2 | apply IsS95.set_3) | exact HI0.out), by repeat (first | (with_reducible first | exact HB.out | apply below_alloc | apply pw_below_drewN | apply below_drew1 | refine below_set ?_ (IsS95.ge HI0.out)) | exact HB.out), by repeat (first | (with_reducible first | exact HK.out | apply KeepBut.set_ | apply keep_drewN | apply keep_drew | apply keep_alloc) | exact HK.out)⟩

/-! ### impl_within: function 33 -/
def impl_within.f (a0 : Int) (a1 : Int) : Option (Bool) := if a0 ≥ 0 then (some (decide (a0 ≤ a1))) else (some false)
set_option maxHeartbeats 8000000 in
set_option maxRecDepth 100000 in
theorem impl_within.calls (a0 : Int) (a1 : Int) (r : Bool) (w : World) (h : impl_within.f a0 a1 = some r) :
  Calls Tryd.prog 33 #[.int .i64 a0, .int .i64 a1] w fun e w' => e = .returned (.bool r) ∧ Drawn0 w w' := by
 have H : (if a0 ≥ 0 then (some (decide (a0 ≤ a1))) else (some false)) = some r := h
 clear h
 by_cases c3 : a0 ≥ 0
 ·rw [if_pos c3] at H
  have c3b0 : decide (0 ≤ a0) = true := decide_eq_true c3
  clear c3
  obtain rfl := Option.some.inj H
  go_enter Tryd.func33, Tryd.ntmps33
  go_wp2
  go_ret
  exact ⟨by first | rfl | (simp; done) | (simp [*]; done), by repeat (first | exact Drawn0.refl _ | apply Drawn0.step)⟩
 ·rw [if_neg c3] at H
  have c3b0 : decide (0 ≤ a0) = false := decide_eq_false c3
  clear c3
  obtain rfl := Option.some.inj H
  go_enter Tryd.func33, Tryd.ntmps33
  go_wp2
  go_ret
  exact ⟨by first | rfl | (simp; done) | (simp [*]; done), by repeat (first | exact Drawn0.refl _ | apply Drawn0.step)⟩

/-! ### impl_packetOk: function 86 -/
def impl_packetOk.f (a0_0 : Bool) (a0_1 : Int) (a0_2 : Int) (a0_3 : ByteArray) : Option (Bool) := (impl_within.f a0_1 2047).bind fun t156 => (if t156 = true then ((impl_within.f a0_2 16383).bind fun t157 => (if t157 = true then (if (a0_3.size : Int) ≥ 1 then (some (decide ((a0_3.size : Int) ≤ 100))) else (some false)) else (some false))) else (some false))
set_option maxHeartbeats 8000000 in
set_option maxRecDepth 100000 in
theorem impl_packetOk.calls (a0_0 : Bool) (a0_1 : Int) (a0_2 : Int) (a0_3 : ByteArray) (r : Bool) (w : World) (h : impl_packetOk.f a0_0 a0_1 a0_2 a0_3 = some r) :
  Calls Tryd.prog 86 #[.agg #[.bool a0_0, .int .i64 a0_1, .int .i64 a0_2, .string a0_3]] w fun e w' => e = .returned (.bool r) ∧ Below w.heap.size w w' := by
 have hu53 := Tryd.underlying53
 have HB := m_ (Below.refl w.heap.size w)
 have H : ((impl_within.f a0_1 2047).bind fun t156 => (if t156 = true then ((impl_within.f a0_2 16383).bind fun t157 => (if t157 = true then (if (a0_3.size : Int) ≥ 1 then (some (decide ((a0_3.size : Int) ≤ 100))) else (some false)) else (some false))) else (some false))) = some r := h
 clear h
 replace H := Option.bind_eq_some_iff.mp H
 obtain ⟨t156, A20, H⟩ := H
 replace H : (if t156 = true then ((impl_within.f a0_2 16383).bind fun t157 => (if t157 = true then (if (a0_3.size : Int) ≥ 1 then (some (decide ((a0_3.size : Int) ≤ 100))) else (some false)) else (some false))) else (some false)) = some r := H
 have A2 := Aside0.mk A20
 clear A20
 by_cases c3 : t156 = true
 ·subst c3
  have H1 : ((impl_within.f a0_2 16383).bind fun t157 => (if t157 = true then (if (a0_3.size : Int) ≥ 1 then (some (decide ((a0_3.size : Int) ≤ 100))) else (some false)) else (some false))) = some r := by rw [if_pos rfl] at H; exact H
  clear H
  have H := H1
  clear H1
  replace H := Option.bind_eq_some_iff.mp H
  obtain ⟨t157, A40, H⟩ := H
  replace H : (if t157 = true then (if (a0_3.size : Int) ≥ 1 then (some (decide ((a0_3.size : Int) ≤ 100))) else (some false)) else (some false)) = some r := H
  have A4 := Aside0.mk A40
  clear A40
  by_cases c5 : t157 = true
  ·subst c5
   have H1 : (if (a0_3.size : Int) ≥ 1 then (some (decide ((a0_3.size : Int) ≤ 100))) else (some false)) = some r := by rw [if_pos rfl] at H; exact H
   clear H
   have H := H1
   clear H1
   by_cases c6 : (a0_3.size : Int) ≥ 1
   ·rw [if_pos c6] at H
    have c6b0 : decide (1 ≤ (a0_3.size : Int)) = true := decide_eq_true c6
    have c6b1 : decide (1 ≤ a0_3.size) = true := decide_eq_true (by omega)
    clear c6
    obtain rfl := Option.some.inj H
    go_enter Tryd.func86, Tryd.ntmps86
    go_wp2_with (first | ((with_reducible refine gate_dst (N := 1) rfl ?_); (try (refine gate_guard (by rfl) ?_; dsimp only)); refine box_event ?hg (N := 1) ?hd (cs := #[.bool a0_0, .int .i64 a0_1, .int .i64 a0_2, .string a0_3]) (t := 53) ?hr ?_; (case hd => rfl); (case hg => rfl); (case hr => first | (go_simp; done) | (go_simp; rfl)); intro gb155 hg w7 hbox hb; have n0_ := m_ (below_step (bN HB.out) hb); have n1_ := m_ (hbox); have n2_ := m_ ((by rw [hg]; exact (below_size (bN HB.out)) : w.heap.size ≤ gb155)); have n3_ := m_ ((by rw [hg]; exact (below_size (bN HB.out)) : w.heap.size ≤ gb155)); clear HB; have HB := n0_; have BK155 := n1_; have GW155 := n2_; have GE155 := n3_; clear n0_ n1_ n2_ n3_; clear hb hbox hg; have hcz8_0 : w7.cell? ⟨gb155, 0, none⟩ = some (.bool a0_0) := bc BK155 0; have hcz8_1 : w7.cell? ⟨gb155, 1, none⟩ = some (.int .i64 a0_1) := bc BK155 1; have hcz8_2 : w7.cell? ⟨gb155, 2, none⟩ = some (.int .i64 a0_2) := bc BK155 2; have hcz8_3 : w7.cell? ⟨gb155, 3, none⟩ = some (.string a0_3) := bc BK155 3; have hfz8_0 := blk_frozen BK155.out 0; have hfz8_1 := blk_frozen BK155.out 1; have hfz8_2 := blk_frozen BK155.out 2; have hfz8_3 := blk_frozen BK155.out 3) | ((with_reducible refine gate_callee (f := 33) rfl ?_); refine goesL_ (some 5) rfl rfl Tryd.func33 (by kernel_rfl) rfl #[.int .i64 a0_1, .int .i64 2047] rfl gl_ ?_; (with_reducible refine (impl_within.calls a0_1 2047 true _ A2.out).mono ?_); rintro e w' ⟨rfl, ⟨nd, rfl⟩⟩; refine ⟨_, rfl, ?_⟩) | (go_at_call 33; (with_reducible refine (impl_within.calls a0_2 16383 true _ A4.out).mono ?_); rintro e w' ⟨rfl, ⟨nd, rfl⟩⟩))
    go_ret
    exact ⟨by first | rfl | (simp [errW_none, errW_some] <;> rfl) | (simp [*, errW_none, errW_some] <;> rfl), by repeat (first | (with_reducible first | exact HB.out | apply below_alloc | apply pw_below_drewN | apply below_drew1 | refine below_set ?_ GE155.out) | exact HB.out)⟩
   ·rw [if_neg c6] at H
    have c6b0 : decide (1 ≤ (a0_3.size : Int)) = false := decide_eq_false c6
    have c6b1 : decide (1 ≤ a0_3.size) = false := decide_eq_false (by omega)
    clear c6
    obtain rfl := Option.some.inj H
    go_enter Tryd.func86, Tryd.ntmps86
    go_wp2_with (first | ((with_reducible refine gate_dst (N := 1) rfl ?_); (try (refine gate_guard (by rfl) ?_; dsimp only)); refine box_event ?hg (N := 1) ?hd (cs := #[.bool a0_0, .int .i64 a0_1, .int .i64 a0_2, .string a0_3]) (t := 53) ?hr ?_; (case hd => rfl); (case hg => rfl); (case hr => first | (go_simp; done) | (go_simp; rfl)); intro gb155 hg w9 hbox hb; have n0_ := m_ (below_step (bN HB.out) hb); have n1_ := m_ (hbox); have n2_ := m_ ((by rw [hg]; exact (below_size (bN HB.out)) : w.heap.size ≤ gb155)); have n3_ := m_ ((by rw [hg]; exact (below_size (bN HB.out)) : w.heap.size ≤ gb155)); clear HB; have HB := n0_; have BK155 := n1_; have GW155 := n2_; have GE155 := n3_; clear n0_ n1_ n2_ n3_; clear hb hbox hg; have hcz10_0 : w9.cell? ⟨gb155, 0, none⟩ = some (.bool a0_0) := bc BK155 0; have hcz10_1 : w9.cell? ⟨gb155, 1, none⟩ = some (.int .i64 a0_1) := bc BK155 1; have hcz10_2 : w9.cell? ⟨gb155, 2, none⟩ = some (.int .i64 a0_2) := bc BK155 2; have hcz10_3 : w9.cell? ⟨gb155, 3, none⟩ = some (.string a0_3) := bc BK155 3; have hfz10_0 := blk_frozen BK155.out 0; have hfz10_1 := blk_frozen BK155.out 1; have hfz10_2 := blk_frozen BK155.out 2; have hfz10_3 := blk_frozen BK155.out 3) | ((with_reducible refine gate_callee (f := 33) rfl ?_); refine goesL_ (some 5) rfl rfl Tryd.func33 (by kernel_rfl) rfl #[.int .i64 a0_1, .int .i64 2047] rfl gl_ ?_; (with_reducible refine (impl_within.calls a0_1 2047 true _ A2.out).mono ?_); rintro e w' ⟨rfl, ⟨nd, rfl⟩⟩; refine ⟨_, rfl, ?_⟩) | (go_at_call 33; (with_reducible refine (impl_within.calls a0_2 16383 true _ A4.out).mono ?_); rintro e w' ⟨rfl, ⟨nd, rfl⟩⟩))
    go_ret
    exact ⟨by first | rfl | (simp [errW_none, errW_some] <;> rfl) | (simp [*, errW_none, errW_some] <;> rfl), by repeat (first | (with_reducible first | exact HB.out | apply below_alloc | apply pw_below_drewN | apply below_drew1 | refine below_set ?_ GE155.out) | exact HB.out)⟩
  ·replace c5 := Bool.eq_false_iff.mpr c5
   subst c5
   have H1 : (some false) = some r := by rw [if_neg (show ¬ (false = true) by decide)] at H; exact H
   clear H
   have H := H1
   clear H1
   obtain rfl := Option.some.inj H
   go_enter Tryd.func86, Tryd.ntmps86
   go_wp2_with (first | ((with_reducible refine gate_dst (N := 1) rfl ?_); (try (refine gate_guard (by rfl) ?_; dsimp only)); refine box_event ?hg (N := 1) ?hd (cs := #[.bool a0_0, .int .i64 a0_1, .int .i64 a0_2, .string a0_3]) (t := 53) ?hr ?_; (case hd => rfl); (case hg => rfl); (case hr => first | (go_simp; done) | (go_simp; rfl)); intro gb155 hg w11 hbox hb; have n0_ := m_ (below_step (bN HB.out) hb); have n1_ := m_ (hbox); have n2_ := m_ ((by rw [hg]; exact (below_size (bN HB.out)) : w.heap.size ≤ gb155)); have n3_ := m_ ((by rw [hg]; exact (below_size (bN HB.out)) : w.heap.size ≤ gb155)); clear HB; have HB := n0_; have BK155 := n1_; have GW155 := n2_; have GE155 := n3_; clear n0_ n1_ n2_ n3_; clear hb hbox hg; have hcz12_0 : w11.cell? ⟨gb155, 0, none⟩ = some (.bool a0_0) := bc BK155 0; have hcz12_1 : w11.cell? ⟨gb155, 1, none⟩ = some (.int .i64 a0_1) := bc BK155 1; have hcz12_2 : w11.cell? ⟨gb155, 2, none⟩ = some (.int .i64 a0_2) := bc BK155 2; have hcz12_3 : w11.cell? ⟨gb155, 3, none⟩ = some (.string a0_3) := bc BK155 3; have hfz12_0 := blk_frozen BK155.out 0; have hfz12_1 := blk_frozen BK155.out 1; have hfz12_2 := blk_frozen BK155.out 2; have hfz12_3 := blk_frozen BK155.out 3) | ((with_reducible refine gate_callee (f := 33) rfl ?_); refine goesL_ (some 5) rfl rfl Tryd.func33 (by kernel_rfl) rfl #[.int .i64 a0_1, .int .i64 2047] rfl gl_ ?_; (with_reducible refine (impl_within.calls a0_1 2047 true _ A2.out).mono ?_); rintro e w' ⟨rfl, ⟨nd, rfl⟩⟩; refine ⟨_, rfl, ?_⟩) | (go_at_call 33; (with_reducible refine (impl_within.calls a0_2 16383 false _ A4.out).mono ?_); rintro e w' ⟨rfl, ⟨nd, rfl⟩⟩))
   go_ret
   exact ⟨by first | rfl | (simp [errW_none, errW_some] <;> rfl) | (simp [*, errW_none, errW_some] <;> rfl), by repeat (first | (with_reducible first | exact HB.out | apply below_alloc | apply pw_below_drewN | apply below_drew1 | refine below_set ?_ GE155.out) | exact HB.out)⟩
 ·replace c3 := Bool.eq_false_iff.mpr c3
  subst c3
  have H1 : (some false) = some r := by rw [if_neg (show ¬ (false = true) by decide)] at H; exact H
  clear H
  have H := H1
  clear H1
  obtain rfl := Option.some.inj H
  go_enter Tryd.func86, Tryd.ntmps86
  go_wp2_with (first | ((with_reducible refine gate_dst (N := 1) rfl ?_); (try (refine gate_guard (by rfl) ?_; dsimp only)); refine box_event ?hg (N := 1) ?hd (cs := #[.bool a0_0, .int .i64 a0_1, .int .i64 a0_2, .string a0_3]) (t := 53) ?hr ?_; (case hd => rfl); (case hg => rfl); (case hr => first | (go_simp; done) | (go_simp; rfl)); intro gb155 hg w13 hbox hb; have n0_ := m_ (below_step (bN HB.out) hb); have n1_ := m_ (hbox); have n2_ := m_ ((by rw [hg]; exact (below_size (bN HB.out)) : w.heap.size ≤ gb155)); have n3_ := m_ ((by rw [hg]; exact (below_size (bN HB.out)) : w.heap.size ≤ gb155)); clear HB; have HB := n0_; have BK155 := n1_; have GW155 := n2_; have GE155 := n3_; clear n0_ n1_ n2_ n3_; clear hb hbox hg; have hcz14_0 : w13.cell? ⟨gb155, 0, none⟩ = some (.bool a0_0) := bc BK155 0; have hcz14_1 : w13.cell? ⟨gb155, 1, none⟩ = some (.int .i64 a0_1) := bc BK155 1; have hcz14_2 : w13.cell? ⟨gb155, 2, none⟩ = some (.int .i64 a0_2) := bc BK155 2; have hcz14_3 : w13.cell? ⟨gb155, 3, none⟩ = some (.string a0_3) := bc BK155 3; have hfz14_0 := blk_frozen BK155.out 0; have hfz14_1 := blk_frozen BK155.out 1; have hfz14_2 := blk_frozen BK155.out 2; have hfz14_3 := blk_frozen BK155.out 3) | ((with_reducible refine gate_callee (f := 33) rfl ?_); refine goesL_ (some 5) rfl rfl Tryd.func33 (by kernel_rfl) rfl #[.int .i64 a0_1, .int .i64 2047] rfl gl_ ?_; (with_reducible refine (impl_within.calls a0_1 2047 false _ A2.out).mono ?_); rintro e w' ⟨rfl, ⟨nd, rfl⟩⟩; refine ⟨_, rfl, ?_⟩))
  go_ret
  exact ⟨by first | rfl | (simp [errW_none, errW_some] <;> rfl) | (simp [*, errW_none, errW_some] <;> rfl), by repeat (first | (with_reducible first | exact HB.out | apply below_alloc | apply pw_below_drewN | apply below_drew1 | refine below_set ?_ GE155.out) | exact HB.out)⟩

/-! ### impl_NumPut: function 59 -/
mutual
def impl_NumPut.j0 : Nat → Int → Int → Bool → Option (ByteArray)
 | 0, _, _, _ => none
 | k + 1, x0, x1, x23 => if x23 = true then (some (⟨#[]⟩ : ByteArray)) else (if 0 ≤ x1 then (if (x1 : Int).toNat ≤ 281474976710656 then (impl_NumPut.l0 k x0 (List.replicate (x1 : Int).toNat 0) (wrap64 (x1 - 1))) else (none)) else (none))
def impl_NumPut.l0 : Nat → Int → List Int → Int → Option (ByteArray)
 | 0, _, _, _ => none
 | k + 1, x0, x5, x6 => if x6 ≥ 0 then (if 0 ≤ x6 then (if x6 < (x5.length : Int) then (impl_NumPut.l0 k (x0 / 256) (x5.set (x6 : Int).toNat ((Go.bits .and .i64 x0 255) % 256)) (wrap64 (x6 - 1))) else (none)) else (none)) else (some (strOfNums x5))
end
def impl_NumPut.f (k : Nat) (a0 : Int) (a1 : Int) : Option (ByteArray) := if a1 < 1 then (impl_NumPut.j0 k a0 a1 true) else (if a1 > 4 then (impl_NumPut.j0 k a0 a1 true) else (if a0 < 0 then (impl_NumPut.j0 k a0 a1 true) else (if 0 ≤ (wrap64 (8 * a1)) then (impl_NumPut.j0 k a0 a1 ((shr .i64 a0 (wrap64 (8 * a1))) != 0)) else (none))))
theorem impl_NumPut.mono_l : ∀ k, (∀ y0 y1 y2, LeO (impl_NumPut.j0 k y0 y1 y2) (impl_NumPut.j0 (k + 1) y0 y1 y2)) ∧ (∀ y0 y1 y2, LeO (impl_NumPut.l0 k y0 y1 y2) (impl_NumPut.l0 (k + 1) y0 y1 y2))
 | 0 => ⟨fun _ _ _ r h => by simp [impl_NumPut.j0] at h, fun _ _ _ r h => by simp [impl_NumPut.l0] at h⟩
 | k + 1 => by
  obtain ⟨ih0, ih1⟩ := impl_NumPut.mono_l k
  refine ⟨?_, ?_⟩
  ·intro y0 y1 y2
   unfold impl_NumPut.j0
   repeat' first
   | (with_reducible exact ih0 _ _ _)
   | (with_reducible exact ih1 _ _ _)
   | (with_reducible exact LeO.refl _)
   | (with_reducible exact LeO.none _)
   | (with_reducible refine LeO.ite ?_ ?_)
   | (with_reducible refine LeO.bind ?_ (fun _ => ?_))
   | exact ih0 _ _ _
   | exact ih1 _ _ _
   | exact LeO.none _
   | refine LeO.ite ?_ ?_
   | refine LeO.bind ?_ (fun _ => ?_)
  ·intro y0 y1 y2
   unfold impl_NumPut.l0
   repeat' first
   | (with_reducible exact ih0 _ _ _)
   | (with_reducible exact ih1 _ _ _)
   | (with_reducible exact LeO.refl _)
   | (with_reducible exact LeO.none _)
   | (with_reducible refine LeO.ite ?_ ?_)
   | (with_reducible refine LeO.bind ?_ (fun _ => ?_))
   | exact ih0 _ _ _
   | exact ih1 _ _ _
   | exact LeO.none _
   | refine LeO.ite ?_ ?_
   | refine LeO.bind ?_ (fun _ => ?_)
theorem impl_NumPut.mono : ∀ a0 a1 k, LeO (impl_NumPut.f k a0 a1) (impl_NumPut.f (k + 1) a0 a1) := by
 intro a0 a1 k
 obtain ⟨ih0, ih1⟩ := impl_NumPut.mono_l k
 unfold impl_NumPut.f
 repeat' first
   | (with_reducible exact ih0 _ _ _)
   | (with_reducible exact ih1 _ _ _)
   | (with_reducible exact LeO.refl _)
   | (with_reducible exact LeO.none _)
   | (with_reducible refine LeO.ite ?_ ?_)
   | (with_reducible refine LeO.bind ?_ (fun _ => ?_))
   | exact ih0 _ _ _
   | exact ih1 _ _ _
   | exact LeO.none _
   | refine LeO.ite ?_ ?_
   | refine LeO.bind ?_ (fun _ => ?_)
set_option maxHeartbeats 8000000 in
set_option maxRecDepth 100000 in
theorem impl_NumPut.calls (k : Nat) (a0 : Int) (a1 : Int) (r : ByteArray) (w : World) (h : impl_NumPut.f k a0 a1 = some r) :
  Calls Tryd.prog 59 #[.int .i64 a0, .int .i64 a1] w fun e w' => e = .returned (.string r) ∧ Below w.heap.size w w' := by
 have HB := m_ (Below.refl w.heap.size w)
 have H : (if a1 < 1 then (impl_NumPut.j0 k a0 a1 true) else (if a1 > 4 then (impl_NumPut.j0 k a0 a1 true) else (if a0 < 0 then (impl_NumPut.j0 k a0 a1 true) else (if 0 ≤ (wrap64 (8 * a1)) then (impl_NumPut.j0 k a0 a1 ((shr .i64 a0 (wrap64 (8 * a1))) != 0)) else (none))))) = some r := h
 clear h
 have HC3 := Aside0.mk H
 clear H
 go_enter Tryd.func59, Tryd.ntmps59
 go_upto_region 1 with (fail)
 go_cut [23] (fun v23 wc => ∃ (kq : Nat) (x23_2 : Bool), v23 = .bool x23_2 ∧ Aside0 (impl_NumPut.j0 kq a0 a1 x23_2 = some r) ∧ Aside0 (kq ≤ k) ∧ Aside0 (Below w.heap.size w wc))
 case first =>
  have H := HC3.out
  clear HC3
  by_cases c4 : a1 < 1
  ·rw [if_pos c4] at H
   have c4b0 : decide (a1 < 1) = true := decide_eq_true c4
   clear c4
   (first | rw [c4b0] | (simp only [i64_w, i32_w]; rw [c4b0]) | skip)
   have H' := Aside0.mk H
   clear H
   go_wp2
   go_meet
   case rel => exact ⟨_, (true), (by first | rfl | (simp; done) | (simp [*]; done)), H', ⟨by first | omega | exact Nat.le_refl _⟩, ⟨by repeat (first | (with_reducible first | exact HB.out | apply below_alloc | apply pw_below_drewN | apply below_drew1) | exact HB.out)⟩⟩
  ·rw [if_neg c4] at H
   have c4b0 : decide (a1 < 1) = false := decide_eq_false c4
   clear c4
   (first | rw [c4b0] | (simp only [i64_w, i32_w]; rw [c4b0]) | skip)
   by_cases c5 : a1 > 4
   ·rw [if_pos c5] at H
    have c5b0 : decide (4 < a1) = true := decide_eq_true c5
    clear c5
    have H' := Aside0.mk H
    clear H
    go_wp2
    go_meet
    case rel => exact ⟨_, (true), (by first | rfl | (simp; done) | (simp [*]; done)), H', ⟨by first | omega | exact Nat.le_refl _⟩, ⟨by repeat (first | (with_reducible first | exact HB.out | apply below_alloc | apply pw_below_drewN | apply below_drew1) | exact HB.out)⟩⟩
   ·rw [if_neg c5] at H
    have c5b0 : decide (4 < a1) = false := decide_eq_false c5
    clear c5
    by_cases c6 : a0 < 0
    ·rw [if_pos c6] at H
     have c6b0 : decide (a0 < 0) = true := decide_eq_true c6
     clear c6
     have H' := Aside0.mk H
     clear H
     go_wp2
     go_meet
     case rel => exact ⟨_, (true), (by first | rfl | (simp; done) | (simp [*]; done)), H', ⟨by first | omega | exact Nat.le_refl _⟩, ⟨by repeat (first | (with_reducible first | exact HB.out | apply below_alloc | apply pw_below_drewN | apply below_drew1) | exact HB.out)⟩⟩
    ·rw [if_neg c6] at H
     have c6b0 : decide (a0 < 0) = false := decide_eq_false c6
     clear c6
     obtain ⟨ji7, hji7⟩ : ∃ j_ : Int, (wrap64 (8 * a1)) = j_ := ⟨_, rfl⟩
     replace H : (if 0 ≤ (ji7) then (impl_NumPut.j0 k a0 a1 ((shr .i64 a0 (ji7)) != 0)) else (none)) = some r := by first | (rw [hji7] at H; exact H) | (simp only [hji7] at H ⊢; exact H)
     have hji7w : (IntKind.i64.wrap (8 * a1)) = ji7 := (i64_w _).trans hji7
     by_cases c8 : 0 ≤ (ji7)
     ·rw [if_pos c8] at H
      have c8b0 := eq_true c8
      have c8b1 : decide (0 ≤ (ji7)) = true := decide_eq_true c8
      clear c8
      obtain ⟨ji9, hji9⟩ : ∃ j_ : Int, (shr .i64 a0 (ji7)) = j_ := ⟨_, rfl⟩
      replace H : (impl_NumPut.j0 k a0 a1 ((ji9) != 0)) = some r := by first | (rw [hji9] at H; exact H) | (simp only [hji9] at H ⊢; exact H)
      have hji9_ : (a0 / 2 ^ min (ji7).toNat 64) = ji9 := hji9
      have hji9z : (ji7) ≤ 64 → (a0 / 2 ^ (ji7).toNat) = ji9 := shr_small hji9
      have H' := Aside0.mk H
      clear H
      go_wp2
      go_meet
      case rel => exact ⟨_, (((ji9) != 0)), (by first | rfl | (simp; done) | (simp only [← hji9] <;> (first | rfl | simp)) | (simp [*]; done)), H', ⟨by first | omega | exact Nat.le_refl _⟩, ⟨by repeat (first | (with_reducible first | exact HB.out | apply below_alloc | apply pw_below_drewN | apply below_drew1) | exact HB.out)⟩⟩
     ·rw [if_neg c8] at H
      exact absurd H (by simp)
 case rest =>
  clear HC3
  try clear p2
  try clear c4
  try clear c4b0
  try clear c5
  try clear c5b0
  try clear c6
  try clear c6b0
  try clear p6
  try clear c8
  try clear c8b0
  try clear c8b1
  obtain ⟨kq, x23_2, rfl, HA, HJ2, HB⟩ := hcut
  cases kq with
  | zero => exact absurd HA.out (by simp [impl_NumPut.j0])
  | succ kj2 =>
   have H := HA.out
   clear HA
   simp only [impl_NumPut.j0] at H
   by_cases c10 : x23_2 = true
   ·subst c10
    have H1 : (some (⟨#[]⟩ : ByteArray)) = some r := by rw [if_pos rfl] at H; exact H
    clear H
    have H := H1
    clear H1
    obtain rfl := Option.some.inj H
    go_wp2
    go_ret
    exact ⟨by first | rfl | (simp [errW_none, errW_some] <;> rfl) | (simp [*, errW_none, errW_some] <;> rfl), by repeat (first | (with_reducible first | exact HB.out | apply below_alloc | apply pw_below_drewN | apply below_drew1) | exact HB.out)⟩
   ·replace c10 := Bool.eq_false_iff.mpr c10
    subst c10
    have H1 : (if 0 ≤ a1 then (if (a1 : Int).toNat ≤ 281474976710656 then (impl_NumPut.l0 kj2 a0 (List.replicate (a1 : Int).toNat 0) (wrap64 (a1 - 1))) else (none)) else (none)) = some r := by rw [if_neg (show ¬ (false = true) by decide)] at H; exact H
    clear H
    have H := H1
    clear H1
    by_cases c11 : 0 ≤ a1
    ·rw [if_pos c11] at H
     have c11b0 := eq_true c11
     have c11b1 : decide (0 ≤ a1) = true := decide_eq_true c11
     clear c11
     by_cases c12 : (a1 : Int).toNat ≤ 281474976710656
     ·rw [if_pos c12] at H
      have c12b0 := eq_true c12
      have c12b1 : decide ((a1 : Int).toNat ≤ 281474976710656) = true := decide_eq_true c12
      clear c12
      obtain ⟨y158, hy158⟩ : ∃ y_ : List Int, y_ = (List.replicate (a1 : Int).toNat 0) := ⟨_, rfl⟩
      replace H : (impl_NumPut.l0 kj2 a0 y158 (wrap64 (a1 - 1))) = some r := by first | (rw [hy158]; with_reducible exact H) | (have H2_ := (Option.bind_some _ _).symm.trans H; rw [hy158]; with_reducible exact H2_) | (have H2_ := (Option.bind_some _ _).symm.trans H; with_reducible exact H2_) | with_reducible exact H | (rw [hy158]; exact H) | exact H
      have Ny158 := Aside0.mk hy158
      clear hy158
      have H' := Aside0.mk H
      clear H
      go_wp2_with (first | ((with_reducible refine gate_dst (N := 25) rfl ?_); refine Kd.R_make (Kd.int .u8) _ 5 rfl (N := 25) rfl 35 _ _ rfl a1 rfl rfl Tryd.underlying35 (.int .u8 0) 1 info5 rfl (by decide) (by omega) 0 (ok := fun _ => True) (okp := fun _ => True) rfl (fun _ hk => hk) trivial (of_decide_eq_true (by first | (with_reducible assumption) | assumption)) (Nat.le_trans (Nat.mul_le_mul_right _ (of_decide_eq_true (by first | (with_reducible assumption) | assumption) : a1.toNat ≤ 281474976710656)) (by omega)) (Below.refl _ _) (Nat.le_refl _) ?_; intro v159 w13 ho14 hb hg_ hnew_; clear hg_ hnew_; (first | rw [← Ny158.out] at ho14 | (simp only [Int.reduceToNat] at ho14; rw [← Ny158.out] at ho14)); have n0_ := m_ (Kd.R_lower ho14 (below_size (bN HB.out))); have n1_ := m_ (below_step (bN HB.out) hb); clear HB; have HO160 := n0_; have HB := n1_; clear n0_ n1_; clear hb ho14))
      go_loopg [0, 6] kj2 (fun kq v0 v6 w' => ∃ (x0_2 : Int) (x5_2 : List Int) (x6_2 : Int), v0 = .int .i64 x0_2 ∧ v6 = .int .i64 x6_2 ∧ Aside0 (impl_NumPut.l0 kq x0_2 x5_2 x6_2 = some r) ∧ Aside0 (kq ≤ kj2) ∧ Aside0 (Kd.R (Kd.int .u8) 5 w' w.heap.size (fun _ => True) v159 x5_2) ∧ Aside0 (Below w.heap.size w w'))
      case atStart => exact ⟨(a0), (y158), (wrap64 (a1 - 1)), (by first | rfl | (simp; done) | (simp [*]; done)), (by first | rfl | (simp; done) | (simp [*]; done)), H', ⟨Nat.le_refl _⟩, ⟨by (with_reducible repeat (first | apply Kd.R_alloc | apply Kd.R_drewN | apply Kd.R_drew)); exact HO160.out⟩, ⟨by repeat (first | (with_reducible first | exact HB.out | apply below_alloc | apply pw_below_drewN | apply below_drew1) | exact HB.out)⟩⟩
      case round =>
       clear H'
       try clear c1
       try clear p2
       try clear c4
       try clear c4b0
       try clear c5
       try clear c5b0
       try clear c6
       try clear c6b0
       try clear p6
       try clear c8
       try clear c8b0
       try clear c8b1
       try clear c10
       try clear c11
       try clear c11b0
       try clear c11b1
       try clear c12
       try clear c12b0
       try clear c12b1
       try clear p2
       try clear p6
       obtain ⟨x0_2, x5_2, x6_2, rfl, rfl, HA, HK2, HO_5, HB⟩ := hrel
       cases gk with
       | zero => exact absurd HA.out (by simp [impl_NumPut.l0])
       | succ k2 =>
        have H := HA.out
        clear HA
        simp only [impl_NumPut.l0] at H
        by_cases c15 : x6_2 ≥ 0
        ·rw [if_pos c15] at H
         have c15b0 : decide (0 ≤ x6_2) = true := decide_eq_true c15
         clear c15
         by_cases c16 : 0 ≤ x6_2
         ·rw [if_pos c16] at H
          have c16b0 : decide (0 ≤ x6_2) = true := decide_eq_true c16
          clear c16
          by_cases c17 : x6_2 < (x5_2.length : Int)
          ·rw [if_pos c17] at H
           have c17b0 : decide (x6_2 < (x5_2.length : Int)) = true := decide_eq_true c17
           clear c17
           obtain ⟨y161, hy161⟩ : ∃ y_ : List Int, y_ = (x5_2.set (x6_2 : Int).toNat ((Go.bits .and .i64 x0_2 255) % 256)) := ⟨_, rfl⟩
           replace H : (impl_NumPut.l0 k2 (x0_2 / 256) y161 (wrap64 (x6_2 - 1))) = some r := by first | (rw [hy161]; with_reducible exact H) | (have H2_ := (Option.bind_some _ _).symm.trans H; rw [hy161]; with_reducible exact H2_) | (have H2_ := (Option.bind_some _ _).symm.trans H; with_reducible exact H2_) | with_reducible exact H | (rw [hy161]; exact H) | exact H
           have Ny161 := Aside0.mk hy161
           clear hy161
           have H' := Aside0.mk H
           clear H
           have p18 : 0 ≤ (x6_2 : Int) := of_decide_eq_true (by first | (with_reducible assumption) | assumption)
           have q18 : (x6_2 : Int) < ((x5_2.length : Int) : Int) := of_decide_eq_true (by first | (with_reducible assumption) | assumption)
           obtain ⟨go18, co18, eo18, gb18, gl18, cl18, HG18⟩ := Kd.R_form HO_5.out (by omega)
           (first | cases eo18 | (injection eo18 with ea_ en_ ec_; (first | subst ea_ | (injection ea_ with ea_; subst ea_)); subst ec_; clear en_))
           have GB18 := Aside0.mk gb18
           have GG18 := Aside0.mk HG18
           clear gb18 gl18 HG18
           obtain ⟨hx18_0, hf18_0⟩ := Kd.R_celln 0 HO_5.out (x6_2 : Int) p18 q18
           replace p18 := eq_true p18
           replace q18 := eq_true q18
           have HP19 := Kd.R_putg HO_5.out (x6_2 : Int) ((Go.bits .and .i64 x0_2 255) % 256)
           go_wp2_with (first | ((with_reducible refine gate_store (t := 5) (p := 37) rfl ?_); refine store_event (t := 5) (p := 37) (v := ?vo_w20) (w1 := (wr.setCell ⟨go18, (x6_2 : Int).toNat, none⟩ (.int .u8 ((Go.bits .and .i64 x0_2 255) % 256)))) ?hg ?ho ?hn ?hr ?_; (case ho => rfl); (case hg => rfl); (case hn => rfl); (case hr => first | (go_simp; done) | (go_simp; rfl)); intro w20 hw; have hg : wr.grownBy w20 (some go18) := (by rw [hw]; exact HP19.2); have hp_ : Kd.R (Kd.int .u8) 5 w20 w.heap.size (fun _ => True) (.slice (some ⟨go18, 0, none⟩) x5_2.length co18) y161 := (by rw [hw, Ny161.out]; exact HP19.1); clear HP19; have n0_ := m_ (hp_); have n1_ := m_ ((by rw [hw]; exact below_set (HB.out) GB18.out : Below w.heap.size w w20)); clear HO_5; clear HB; have HO_5 := n0_; have HB := n1_; clear n0_ n1_; clear hg hw hp_))
           go_roundg k2
           case measure => have := HJ2.out; have := HK2.out; omega
           case rel => exact ⟨(x0_2 / 256), (y161), (wrap64 (x6_2 - 1)), (by first | rfl | (simp; done) | (simp [*]; done)), (by first | rfl | (simp; done) | (simp [*]; done)), H', ⟨by have := HJ2.out; have := HK2.out; omega⟩, ⟨by (with_reducible repeat (first | apply Kd.R_alloc | apply Kd.R_drewN | apply Kd.R_drew)); exact HO_5.out⟩, ⟨by repeat (first | (with_reducible first | exact HB.out | apply below_alloc | apply pw_below_drewN | apply below_drew1) | exact HB.out)⟩⟩
          ·rw [if_neg c17] at H
           exact absurd H (by simp)
         ·rw [if_neg c16] at H
          exact absurd H (by simp)
        ·rw [if_neg c15] at H
         have c15b0 : decide (0 ≤ x6_2) = false := decide_eq_false c15
         clear c15
         obtain rfl := Option.some.inj H
         have hcv21 := own_string (P := Tryd.prog) Tryd.underlying35 Tryd.underlying5 Tryd.underlying9 (Kd.own_of_R HO_5.out)
         go_wp2
         go_ret
         exact ⟨by first | rfl | (simp [errW_none, errW_some] <;> rfl) | (simp [*, errW_none, errW_some] <;> rfl), by repeat (first | (with_reducible first | exact HB.out | apply below_alloc | apply pw_below_drewN | apply below_drew1) | exact HB.out)⟩
     ·rw [if_neg c12] at H
      exact absurd H (by simp)
    ·rw [if_neg c11] at H
     exact absurd H (by simp)

end Go.Proofs.YtokpagopokkjfaaDoor.P
