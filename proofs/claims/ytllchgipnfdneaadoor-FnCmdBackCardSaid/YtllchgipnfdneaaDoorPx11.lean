/- The machine side of these statements, function by function: what each Go function answers (as a Lean function), and that it does. Written by a program (mp.py) for this claim. -/
import Derived.Test.YtllchgipnfdneaaDoorPx0
namespace Go.Proofs.YtllchgipnfdneaaDoor.P
open Go.RowKit Go.Proofs.YtllchgipnfdneaaDoorW.PrintWords Go.Proofs.YtllchgipnfdneaaDoorW.PrintLast Go.Proofs.YtllchgipnfdneaaDoorW.PrintMore
attribute [local go_sem] max2_int min2_int max_two min_two max_three min_three max_four min_four   -- for this text's walks alone
set_option linter.unusedVariables false
set_option linter.unusedSimpArgs false

/-! ### impl_sum_shift: function 76 -/
def impl_sum_shift.f (a0 : Int) : Option (Int) := if (Go.bits .and .u16 a0 32768) = 0 then (some (IntKind.u16.wrap (a0 * 2))) else (some (Go.bits .xor .u16 (IntKind.u16.wrap (a0 * 2)) 4129))
set_option maxHeartbeats 8000000 in
set_option maxRecDepth 100000 in
theorem impl_sum_shift.calls (a0 : Int) (r : Int) (w : World) (h : impl_sum_shift.f a0 = some r) :
  Calls Tryd.prog 76 #[.int .u16 a0] w fun e w' => e = .returned (.int .u16 r) ∧ Drawn0 w w' := by
 have H : (if (Go.bits .and .u16 a0 32768) = 0 then (some (IntKind.u16.wrap (a0 * 2))) else (some (Go.bits .xor .u16 (IntKind.u16.wrap (a0 * 2)) 4129))) = some r := h
 clear h
 by_cases c2 : (Go.bits .and .u16 a0 32768) = 0
 ·rw [if_pos c2] at H
  have c2b0 : ((Go.bits .and .u16 a0 32768) == 0) = true := beq_iff_eq.mpr c2
  have c2b1 : ((Go.bits .and .u16 a0 32768) != 0) = false := bne_eq_false_iff_eq.mpr c2
  clear c2
  obtain rfl := Option.some.inj H
  go_enter Tryd.func76, Tryd.ntmps76
  go_wp2
  go_ret
  exact ⟨by first | rfl | (simp; done) | (simp [*]; done), by repeat (first | exact Drawn0.refl _ | apply Drawn0.step)⟩
 ·rw [if_neg c2] at H
  have c2b0 : ((Go.bits .and .u16 a0 32768) == 0) = false := beq_eq_false_iff_ne.mpr c2
  have c2b1 : ((Go.bits .and .u16 a0 32768) != 0) = true := bne_iff_ne.mpr c2
  obtain rfl := Option.some.inj H
  go_enter Tryd.func76, Tryd.ntmps76
  go_wp2
  go_ret
  exact ⟨by first | rfl | (simp; done) | (simp [*]; done), by repeat (first | exact Drawn0.refl _ | apply Drawn0.step)⟩

/-! ### impl_sum_over: function 73 -/
def shI (x : Int) : Int := if Go.bits .and .u16 x 32768 = 0 then IntKind.u16.wrap (x * 2) else Go.bits .xor .u16 (IntKind.u16.wrap (x * 2)) 4129
set_option maxHeartbeats 8000000 in
set_option maxRecDepth 100000 in
theorem shift_calls (x : Int) (w : World) : Calls Tryd.prog 76 #[.int .u16 x] w fun e w' => e = .returned (.int .u16 (shI x)) ∧ w = w' := by
  unfold shI
  by_cases c : Go.bits .and .u16 x 32768 = 0
  · rw [if_pos c]
    have c0 : ((Go.bits .and .u16 x 32768) == 0) = true := beq_iff_eq.mpr c
    have c1 : ((Go.bits .and .u16 x 32768) != 0) = false := bne_eq_false_iff_eq.mpr c
    clear c
    go_enter Tryd.func76, Tryd.ntmps76
    go_wp2
    go_ret
    exact ⟨rfl, rfl⟩
  · rw [if_neg c]
    have c0 : ((Go.bits .and .u16 x 32768) == 0) = false := beq_eq_false_iff_ne.mpr c
    have c1 : ((Go.bits .and .u16 x 32768) != 0) = true := bne_iff_ne.mpr c
    clear c
    go_enter Tryd.func76, Tryd.ntmps76
    go_wp2
    go_ret
    exact ⟨rfl, rfl⟩
def shN : Nat → Int → Int
  | 0, x => x
  | k + 1, x => shI (shN k x)
def sumT : List Int := [0, 4129, 8258, 12387, 16516, 20645, 24774, 28903, 33032, 37161, 41290, 45419, 49548, 53677, 57806, 61935]
def arrT (i : Nat) : Array Value := #[.int .u16 0, .int .u16 (if 1 < i then 4129 else 0), .int .u16 (if 2 < i then 8258 else 0), .int .u16 (if 3 < i then 12387 else 0), .int .u16 (if 4 < i then 16516 else 0), .int .u16 (if 5 < i then 20645 else 0), .int .u16 (if 6 < i then 24774 else 0), .int .u16 (if 7 < i then 28903 else 0), .int .u16 (if 8 < i then 33032 else 0), .int .u16 (if 9 < i then 37161 else 0), .int .u16 (if 10 < i then 41290 else 0), .int .u16 (if 11 < i then 45419 else 0), .int .u16 (if 12 < i then 49548 else 0), .int .u16 (if 13 < i then 53677 else 0), .int .u16 (if 14 < i then 57806 else 0), .int .u16 (if 15 < i then 61935 else 0)]
def sumV : Array Value := #[.int .u16 0, .int .u16 4129, .int .u16 8258, .int .u16 12387, .int .u16 16516, .int .u16 20645, .int .u16 24774, .int .u16 28903, .int .u16 33032, .int .u16 37161, .int .u16 41290, .int .u16 45419, .int .u16 49548, .int .u16 53677, .int .u16 57806, .int .u16 61935]
def sumZ : Array Value := #[.int .u16 0, .int .u16 0, .int .u16 0, .int .u16 0, .int .u16 0, .int .u16 0, .int .u16 0, .int .u16 0, .int .u16 0, .int .u16 0, .int .u16 0, .int .u16 0, .int .u16 0, .int .u16 0, .int .u16 0, .int .u16 0]
def arrS (k : Nat) : Array Value := (arrT k).setIfInBounds k (.int .u16 (shN 4 (k * 4096)))
theorem arr_next (k : Nat) (h : k < 16) : arrS k = arrT (k + 1) := by
  have e : k = 0 ∨ k = 1 ∨ k = 2 ∨ k = 3 ∨ k = 4 ∨ k = 5 ∨ k = 6 ∨ k = 7 ∨ k = 8 ∨ k = 9 ∨ k = 10 ∨ k = 11 ∨ k = 12 ∨ k = 13 ∨ k = 14 ∨ k = 15 := by omega
  rcases e with rfl | rfl | rfl | rfl | rfl | rfl | rfl | rfl | rfl | rfl | rfl | rfl | rfl | rfl | rfl | rfl <;> rfl
set_option maxHeartbeats 8000000 in
set_option maxRecDepth 100000 in
theorem table_calls (w : World) : Calls Tryd.prog 74 #[] w fun e w' => e = .returned (.agg sumV) ∧ Below w.heap.size w w' := by
  go_enter Tryd.func74, Tryd.ntmps74
  go_wp2
  go_loopw [4, 2, 3, 10] (fun i _ _ _ wr => ∃ k : Nat, k ≤ 16 ∧ i = .int .i64 k ∧ wr = (w.alloc (.cells (arrT 0) 103)).alloc (.cells (arrT k) 103)) (fun i _ _ _ _ => 16 - (intOf i).toNat)
  case atStart => exact ⟨0, by omega, rfl, rfl⟩
  case round =>
    obtain ⟨k, hk, rfl, rfl⟩ := hrel
    by_cases hlt : k < 16
    · have hz : (arrT k).size = 16 := rfl
      have HA := Aside0.mk (arr_next k hlt)
      have hd : decide ((k : Int) < 16) = true := decide_eq_true (by omega)
      go_wp2
      go_loop [10, 3] (fun i s => ∃ j : Nat, j ≤ 4 ∧ i = .int .i64 j ∧ s = .int .u16 (shN j (k * 4096))) (fun i _ => 4 - (intOf i).toNat)
      case atStart => exact ⟨0, by omega, rfl, rfl⟩
      case round =>
        obtain ⟨j, hj, rfl, rfl⟩ := hrel
        by_cases hlj : j < 4
        · go_wp2_with (go_at_call 76; refine (shift_calls _ _).mono ?_; rintro e w' ⟨rfl, rfl⟩)
          go_round
          case rel => exact ⟨j + 1, by omega, by go_num, rfl⟩
          case measure => simp [intOf]; omega
        · obtain rfl : j = 4 := by omega
          go_wp2
          exact ⟨⟨k + 1, by omega, by go_num, by rw [show (arrT k).setIfInBounds k (.int .u16 (shN 4 (k * 4096))) = arrT (k + 1) from HA.out]⟩, by simp [intOf]; omega⟩
    · obtain rfl : k = 16 := by omega
      rw [show arrT 16 = sumV from rfl, show arrT 0 = sumZ from rfl]
      unfold sumV sumZ
      go_wp2
      unfold sumV
      refine bodyPost_ret (v := .agg #[.int .u16 0, .int .u16 4129, .int .u16 8258, .int .u16 12387, .int .u16 16516, .int .u16 20645, .int .u16 24774, .int .u16 28903, .int .u16 33032, .int .u16 37161, .int .u16 41290, .int .u16 45419, .int .u16 49548, .int .u16 53677, .int .u16 57806, .int .u16 61935]) (by simp [results, Tryd.results74, go_sem]) rfl ⟨rfl, ?_⟩
      exact ((Below.refl _ _).alloc (Nat.le_refl _) _).alloc (by simp) _
def halfX (x b : Int) : Nat := (Go.bits .xor .u8 (x / 4096) b).toNat
def halfI (x b : Int) : Int := Go.bits .xor .u16 (IntKind.u16.wrap (x * 16)) (sumT.getD (halfX x b) 0)
theorem halfX_ok (x b : Int) (h0 : 0 ≤ x) (h1 : x ≤ 65535) (h2 : 0 ≤ b) (h3 : b ≤ 15) : halfX x b < 16 ∧ Go.bits .xor .u8 (x / 4096) b = (halfX x b : Int) := by
  have key : ∀ p q : Fin 16, 0 ≤ Go.bits .xor .u8 (p.val : Int) (q.val : Int) ∧ Go.bits .xor .u8 (p.val : Int) (q.val : Int) < 16 := by decide +kernel
  have := key ⟨(x / 4096).toNat, by omega⟩ ⟨b.toNat, by omega⟩
  have e1 : (((x / 4096).toNat : Nat) : Int) = x / 4096 := by omega
  have e2 : ((b.toNat : Nat) : Int) = b := by omega
  simp only [e1, e2] at this
  unfold halfX
  omega
theorem bits16_range (o : BinOp) (x y : Int) (h : ∃ z : BitVec 16, Go.bits o .u16 x y = (z.toNat : Int)) : 0 ≤ Go.bits o .u16 x y ∧ Go.bits o .u16 x y ≤ 65535 := by
  obtain ⟨z, hz⟩ := h
  rw [hz]
  have := z.isLt
  omega
set_option maxHeartbeats 8000000 in
set_option maxRecDepth 100000 in
theorem half_any (g : Nat) (x b : Int) (w : World) (h0 : 0 ≤ x) (h1 : x ≤ 65535) (h2 : 0 ≤ b) (h3 : b ≤ 15) (hT : ∀ j, j < 16 → w.cell? ⟨g, j, none⟩ = some (.int .u16 (sumT.getD j 0))) :
   Calls Tryd.prog 75 #[.int .u16 x, .int .u8 b, .pointer (some ⟨g, 0, none⟩)] w fun e w' => e = .returned (.int .u16 (halfI x b)) ∧ w' = w := by
  obtain ⟨hn, hX⟩ := halfX_ok x b h0 h1 h2 h3
  have hb := hT (halfX x b) hn
  unfold halfI
  generalize sumT.getD (halfX x b) 0 = t at hb ⊢
  generalize halfX x b = n at hb hX hn
  clear hT
  go_enter Tryd.func75, Tryd.ntmps75
  go_wp2
  go_ret
  exact ⟨rfl, rfl⟩
theorem xor16 (x y : Int) : Go.bits .xor .u16 x y = ((BitVec.ofInt 16 x ^^^ BitVec.ofInt 16 y).toNat : Int) := by
  show IntKind.u16.wrap ((BitVec.ofInt 16 x ^^^ BitVec.ofInt 16 y).toNat : Int) = _
  have h := (BitVec.ofInt 16 x ^^^ BitVec.ofInt 16 y).isLt
  generalize (BitVec.ofInt 16 x ^^^ BitVec.ofInt 16 y).toNat = n at h ⊢
  simp only [IntKind.wrap, IntKind.bits, IntKind.signed]
  simp
  omega
theorem halfI_range (x b : Int) : 0 ≤ halfI x b ∧ halfI x b ≤ 65535 := by
  unfold halfI
  rw [xor16]
  have := (BitVec.ofInt 16 (IntKind.u16.wrap (x * 16)) ^^^ BitVec.ofInt 16 (sumT.getD (halfX x b) 0)).isLt
  omega
def byteI (x : Int) (c : UInt8) : Int := halfI (halfI x ((c.toNat : Int) / 16)) ((c.toNat : Int) % 16)
def overI (x : Int) (l : List UInt8) : Int := l.foldl byteI x
theorem overI_range (l : List UInt8) : ∀ x : Int, 0 ≤ x → x ≤ 65535 → 0 ≤ overI x l ∧ overI x l ≤ 65535 := by
  induction l with
  | nil => exact fun x h0 h1 => ⟨h0, h1⟩
  | cons c l ih =>
    intro x h0 h1
    obtain ⟨a, b⟩ := halfI_range (halfI x ((c.toNat : Int) / 16)) ((c.toNat : Int) % 16)
    exact ih _ a b
theorem overI_snoc (x : Int) (s : ByteArray) (k : Nat) (h : k < s.size) : overI x (s.data.toList.take (k + 1)) = byteI (overI x (s.data.toList.take k)) s[k] := by
  rw [List.take_succ_eq_append_getElem (by simpa using h)]
  unfold overI
  rw [List.foldl_append]
  rfl
theorem cell_sum (w : World) (j : Nat) (hj : j < 16) : (w.alloc (.cells sumV 103)).cell? ⟨w.heap.size, j, none⟩ = some (.int .u16 (sumT.getD j 0)) := by
  have e : j = 0 ∨ j = 1 ∨ j = 2 ∨ j = 3 ∨ j = 4 ∨ j = 5 ∨ j = 6 ∨ j = 7 ∨ j = 8 ∨ j = 9 ∨ j = 10 ∨ j = 11 ∨ j = 12 ∨ j = 13 ∨ j = 14 ∨ j = 15 := by omega
  unfold sumV
  rcases e with rfl | rfl | rfl | rfl | rfl | rfl | rfl | rfl | rfl | rfl | rfl | rfl | rfl | rfl | rfl | rfl <;> (simp; rfl)
theorem table_lit (w : World) : Calls Tryd.prog 74 #[] w fun e w' => e = .returned (.agg #[.int .u16 0, .int .u16 4129, .int .u16 8258, .int .u16 12387, .int .u16 16516, .int .u16 20645, .int .u16 24774, .int .u16 28903, .int .u16 33032, .int .u16 37161, .int .u16 41290, .int .u16 45419, .int .u16 49548, .int .u16 53677, .int .u16 57806, .int .u16 61935]) ∧ Below w.heap.size w w' := table_calls w
def impl_sum_over.f (a0 : Int) (a1 : ByteArray) : Option Int := if 0 ≤ a0 ∧ a0 ≤ 65535 ∧ a1.size ≤ 9223372036854775807 then some (overI a0 a1.data.toList) else none
set_option maxHeartbeats 8000000 in
set_option maxRecDepth 100000 in
theorem impl_sum_over.calls (a0 : Int) (a1 : ByteArray) (r : Int) (w : World) (h : impl_sum_over.f a0 a1 = some r) :
  Calls Tryd.prog 73 #[.int .u16 a0, .string a1] w fun e w' => e = .returned (.int .u16 r) ∧ Below w.heap.size w w' := by
  unfold impl_sum_over.f at h
  split at h
  case isFalse => cases h
  rename_i hh
  obtain ⟨h0, h1, hs⟩ := hh
  obtain rfl := Option.some.inj h
  clear h
  go_enter Tryd.func73, Tryd.ntmps73
  go_wp2_with (go_at_call 74; refine (table_lit _).mono ?_; rintro e w1 ⟨rfl, hb1⟩)
  have HT := Aside0.mk (cell_sum w1)
  unfold sumV at HT
  have HB := Aside0.mk (hb1.alloc hb1.size (.cells #[.int .u16 0, .int .u16 4129, .int .u16 8258, .int .u16 12387, .int .u16 16516, .int .u16 20645, .int .u16 24774, .int .u16 28903, .int .u16 33032, .int .u16 37161, .int .u16 41290, .int .u16 45419, .int .u16 49548, .int .u16 53677, .int .u16 57806, .int .u16 61935] 103))
  have hz : w1.heap.size < (w1.alloc (.cells #[.int .u16 0, .int .u16 4129, .int .u16 8258, .int .u16 12387, .int .u16 16516, .int .u16 20645, .int .u16 24774, .int .u16 28903, .int .u16 33032, .int .u16 37161, .int .u16 41290, .int .u16 45419, .int .u16 49548, .int .u16 53677, .int .u16 57806, .int .u16 61935] 103)).heap.size := by simp
  generalize (w1.alloc (.cells #[.int .u16 0, .int .u16 4129, .int .u16 8258, .int .u16 12387, .int .u16 16516, .int .u16 20645, .int .u16 24774, .int .u16 28903, .int .u16 33032, .int .u16 37161, .int .u16 41290, .int .u16 45419, .int .u16 49548, .int .u16 53677, .int .u16 57806, .int .u16 61935] 103)) = W1 at HT HB hz ⊢
  generalize w1.heap.size = g at HT hz ⊢
  generalize (Value.agg #[.int .u16 0, .int .u16 4129, .int .u16 8258, .int .u16 12387, .int .u16 16516, .int .u16 20645, .int .u16 24774, .int .u16 28903, .int .u16 33032, .int .u16 37161, .int .u16 41290, .int .u16 45419, .int .u16 49548, .int .u16 53677, .int .u16 57806, .int .u16 61935]) = v7 at ⊢
  replace HB : Aside0 (Below w.heap.size w W1) := HB
  replace HT : Aside0 (∀ j, j < 16 → W1.cell? ⟨g, j, none⟩ = some (.int .u16 (sumT.getD j 0))) := HT
  go_loopw [0, 6] (fun s i wr => ∃ k : Nat, k ≤ a1.size ∧ i = .int .i64 k ∧ s = .int .u16 (overI a0 (a1.data.toList.take k)) ∧ Aside0 (∀ j, j < 16 → wr.cell? ⟨g, j, none⟩ = some (.int .u16 (sumT.getD j 0))) ∧ Aside0 (Below w.heap.size w wr)) (fun _ i _ => a1.size - (intOf i).toNat)
  case atStart => exact ⟨0, by omega, rfl, rfl, HT, HB⟩
  case round =>
    clear HT HB hz
    obtain ⟨k, hk, rfl, rfl, HT, HB⟩ := hrel
    obtain ⟨r0, r1⟩ := overI_range (a1.data.toList.take k) a0 h0 h1
    by_cases hlt : k < a1.size
    · have HS := Aside0.mk (overI_snoc a0 a1 k hlt)
      go_wp2
      have hc : a1[k].toNat < 256 := a1[k].toNat_lt
      have hi : (k : Int) < a1.size := by omega
      go_quiet ((go_at_call 75; exact Calls.quiet_of_same (half_any g _ _ _ (by first | exact r0 | exact (halfI_range _ _).1) (by first | exact r1 | exact (halfI_range _ _).2) (by omega) (by omega) (fun j hj => by simpa using HT.out j hj))))
      go_wp2
      go_roundw
      case rel => exact ⟨k + 1, by omega, by go_num, by rw [HS.out]; rfl, ⟨fun j hj => by simpa using HT.out j hj⟩, ⟨pw_below_drewN HB.out _⟩⟩
      case measure => simp [intOf]; omega
    · obtain rfl : k = a1.size := by omega
      go_wp2
      go_ret
      exact ⟨congrArg (fun l => Ending.returned (.int .u16 (overI a0 l))) (List.take_of_length_le (Nat.le_of_eq (by simp))), HB.out⟩

/-! ### impl_Crc16: function 56 -/
def impl_Crc16.f (a0 : ByteArray) : Option (Int) := (impl_sum_over.f 65535 a0).bind fun t465 => (some (wrap64 (t465)))
set_option maxHeartbeats 8000000 in
set_option maxRecDepth 100000 in
theorem impl_Crc16.calls (a0 : ByteArray) (r : Int) (w : World) (h : impl_Crc16.f a0 = some r) :
  Calls Tryd.prog 56 #[.string a0] w fun e w' => e = .returned (.int .i64 r) ∧ Below w.heap.size w w' := by
 have HB := m_ (Below.refl w.heap.size w)
 have H : ((impl_sum_over.f 65535 a0).bind fun t465 => (some (wrap64 (t465)))) = some r := h
 clear h
 replace H := Option.bind_eq_some_iff.mp H
 obtain ⟨t465, A20, H⟩ := H
 replace H : (some (wrap64 (t465))) = some r := H
 have A2 := Aside0.mk A20
 clear A20
 obtain rfl := Option.some.inj H
 go_enter Tryd.func56, Tryd.ntmps56
 go_wp2_with (first | ((with_reducible refine gate_callee (f := 73) rfl ?_); refine goesL_ (some 4) rfl rfl Tryd.func73 (by kernel_rfl) rfl #[.int .u16 65535, .string a0] rfl gl_ ?_; (with_reducible refine (impl_sum_over.calls 65535 a0 t465 _ A2.out).mono ?_); rintro e w3 ⟨rfl, hb⟩; refine ⟨_, rfl, ?_⟩; have n0_ := m_ (below_step (bN HB.out) hb); clear HB; have HB := n0_; clear n0_; (try clear hb); (try clear hb2); (try clear hk); (try clear hi)))
 go_ret
 exact ⟨by first | rfl | (simp [errW_none, errW_some] <;> rfl) | (simp [*, errW_none, errW_some] <;> rfl), by repeat (first | (with_reducible first | exact HB.out | apply below_alloc | apply pw_below_drewN | apply below_drew1) | exact HB.out)⟩

end Go.Proofs.YtllchgipnfdneaaDoor.P
