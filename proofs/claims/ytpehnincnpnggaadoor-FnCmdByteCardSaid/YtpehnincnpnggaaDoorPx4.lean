/- The machine side of these statements, function by function: what each Go function answers (as a Lean function), and that it does. Written by a program (mp.py) for this claim. -/
import Derived.Test.YtpehnincnpnggaaDoorPx0
import Derived.Test.YtpehnincnpnggaaDoorPx3
namespace Go.Proofs.YtpehnincnpnggaaDoor.P
open Go.RowKit Go.Proofs.YtpehnincnpnggaaDoorW.PrintWords Go.Proofs.YtpehnincnpnggaaDoorW.PrintLast Go.Proofs.YtpehnincnpnggaaDoorW.PrintMore
attribute [local go_sem] max2_int min2_int max_two min_two max_three min_three max_four min_four   -- for this text's walks alone
set_option linter.unusedVariables false
set_option linter.unusedSimpArgs false

/-! ### impl_sum_over: function 25 -/
def shI (x : Int) : Int := if Go.bits .and .u16 x 32768 = 0 then IntKind.u16.wrap (x * 2) else Go.bits .xor .u16 (IntKind.u16.wrap (x * 2)) 4129
set_option maxHeartbeats 8000000 in
set_option maxRecDepth 100000 in
theorem shift_calls (x : Int) (w : World) : Calls Tryd.prog 39 #[.int .u16 x] w fun e w' => e = .returned (.int .u16 (shI x)) ∧ w = w' := by
  unfold shI
  by_cases c : Go.bits .and .u16 x 32768 = 0
  · rw [if_pos c]
    have c0 : ((Go.bits .and .u16 x 32768) == 0) = true := beq_iff_eq.mpr c
    have c1 : ((Go.bits .and .u16 x 32768) != 0) = false := bne_eq_false_iff_eq.mpr c
    clear c
    go_enter Tryd.func39, Tryd.ntmps39
    go_wp2
    go_ret
    exact ⟨rfl, rfl⟩
  · rw [if_neg c]
    have c0 : ((Go.bits .and .u16 x 32768) == 0) = false := beq_eq_false_iff_ne.mpr c
    have c1 : ((Go.bits .and .u16 x 32768) != 0) = true := bne_iff_ne.mpr c
    clear c
    go_enter Tryd.func39, Tryd.ntmps39
    go_wp2
    go_ret
    exact ⟨rfl, rfl⟩
def shN : Nat → Int → Int
  | 0, x => x
  | k + 1, x => shI (shN k x)
def sumT : List Int := [0, 4129, 8258, 12387, 16516, 20645, 24774, 28903, 33032, 37161, 41290, 45419, 49548, 53677, 57806, 61935]
def arrT (i : Nat) : Array Value := #[.int .u16 0, .int .u16 (if 1 < i then 4129 else 0), .int .u16 (if 2 < i then 8258 else 0), .int .u16 (if 3 < i then 12387 else 0), .int .u16 (if 4 < i then 16516 else 0), .int .u16 (if 5 < i then 20645 else 0), .int .u16 (if 6 < i then 24774 else 0), .int .u16 (if 7 < i then 28903 else 0), .int .u16 (if 8 < i then 33032 else 0), .int .u16 (if 9 < i then 37161 else 0), .int .u16 (if 10 < i then 41290 else 0), .int .u16 (if 11 < i then 45419 else 0), .int .u16 (if 12 < i then 49548 else 0), .int .u16 (if 13 < i then 53677 else 0), .int .u16 (if 14 < i then 57806 else 0), .int .u16 (if 15 < i then 61935 else 0)]
def sumV : Array Value := #[.int .u16 0, .int .u16 4129, .int .u16 8258, .int .u16 12387, .int .u16 16516, .int .u16 20645, .int .u16 24774, .int .u16 28903, .int .u16 33032, .int .u16 37161, .int .u16 41290, .int .u16 45419, .int .u16 49548, .int .u16 53677, .int .u16 57806, .int .u16 61935]
def sumZ : Array Value := #[.int .u16 0, .int .u16 0, .int .u16 0, .int .u16 0, .int .u16 0, .int .u16 0, .int .u16 0, .int .u16 0, .int .u16 0, .int .u16 0, .int .u16 0, .int .u16 0, .int .u16 0, .int .u16 0, .int .u16 0, .int .u16 0]
def arrS (k : Nat) : Array Value := (arrT k).setIfInBounds k (.int .u16 (shN 4 (k * 4096)))
theorem arr_next (k : Nat) (h : k < 16) : arrS k = arrT (k + 1) := by
  have e : k = 0 ∨ k = 1 ∨ k = 2 ∨ k = 3 ∨ k = 4 ∨ k = 5 ∨ k = 6 ∨ k = 7 ∨ k = 8 ∨ k = 9 ∨ k = 10 ∨ k = 11 ∨ k = 12 ∨ k = 13 ∨ k = 14 ∨ k = 15 := by omega
  rcases e with rfl | rfl | rfl | rfl | rfl | rfl | rfl | rfl | rfl | rfl | rfl | rfl | rfl | rfl | rfl | rfl <;> rfl
set_option maxHeartbeats 8000000 in
set_option maxRecDepth 100000 in
theorem table_calls (w : World) : Calls Tryd.prog 32 #[] w fun e w' => e = .returned (.agg sumV) ∧ Below w.heap.size w w' := by
  go_enter Tryd.func32, Tryd.ntmps32
  go_wp2
  go_loopw [4, 2, 3, 10] (fun i _ _ _ wr => ∃ k : Nat, k ≤ 16 ∧ i = .int .i64 k ∧ wr = (w.alloc (.cells (arrT 0) 62)).alloc (.cells (arrT k) 62)) (fun i _ _ _ _ => 16 - (intOf i).toNat)
  case atStart => exact ⟨0, by omega, rfl, rfl⟩
  case round =>
    obtain ⟨k, hk, rfl, rfl⟩ := hrel
    by_cases hlt : k < 16
    · have hz : (arrT k).size = 16 := rfl
      have HA := Aside0.mk (arr_next k hlt)
      have hd : decide ((k : Int) < 16) = true := decide_eq_true (by omega)
      go_wp2
      go_loop [10, 3] (fun i s => ∃ j : Nat, j ≤ 4 ∧ i = .int .i64 j ∧ s = .int .u16 (shN j (k * 4096))) (fun i _ => 4 - (intOf i).toNat)
      case atStart => exact ⟨0, by omega, rfl, rfl⟩
      case round =>
        obtain ⟨j, hj, rfl, rfl⟩ := hrel
        by_cases hlj : j < 4
        · go_wp2_with (go_at_call 39; refine (shift_calls _ _).mono ?_; rintro e w' ⟨rfl, rfl⟩)
          go_round
          case rel => exact ⟨j + 1, by omega, by go_num, rfl⟩
          case measure => simp [intOf]; omega
        · obtain rfl : j = 4 := by omega
          go_wp2
          exact ⟨⟨k + 1, by omega, by go_num, by rw [show (arrT k).setIfInBounds k (.int .u16 (shN 4 (k * 4096))) = arrT (k + 1) from HA.out]⟩, by simp [intOf]; omega⟩
    · obtain rfl : k = 16 := by omega
      rw [show arrT 16 = sumV from rfl, show arrT 0 = sumZ from rfl]
      unfold sumV sumZ
      go_wp2
      unfold sumV
      refine bodyPost_ret (v := .agg #[.int .u16 0, .int .u16 4129, .int .u16 8258, .int .u16 12387, .int .u16 16516, .int .u16 20645, .int .u16 24774, .int .u16 28903, .int .u16 33032, .int .u16 37161, .int .u16 41290, .int .u16 45419, .int .u16 49548, .int .u16 53677, .int .u16 57806, .int .u16 61935]) (by simp [results, Tryd.results32, go_sem]) rfl ⟨rfl, ?_⟩
      exact ((Below.refl _ _).alloc (Nat.le_refl _) _).alloc (by simp) _
def halfX (x b : Int) : Nat := (Go.bits .xor .u8 (x / 4096) b).toNat
def halfI (x b : Int) : Int := Go.bits .xor .u16 (IntKind.u16.wrap (x * 16)) (sumT.getD (halfX x b) 0)
theorem halfX_ok (x b : Int) (h0 : 0 ≤ x) (h1 : x ≤ 65535) (h2 : 0 ≤ b) (h3 : b ≤ 15) : halfX x b < 16 ∧ Go.bits .xor .u8 (x / 4096) b = (halfX x b : Int) := by
  have key : ∀ p q : Fin 16, 0 ≤ Go.bits .xor .u8 (p.val : Int) (q.val : Int) ∧ Go.bits .xor .u8 (p.val : Int) (q.val : Int) < 16 := by decide +kernel
  have := key ⟨(x / 4096).toNat, by omega⟩ ⟨b.toNat, by omega⟩
  have e1 : (((x / 4096).toNat : Nat) : Int) = x / 4096 := by omega
  have e2 : ((b.toNat : Nat) : Int) = b := by omega
  simp only [e1, e2] at this
  unfold halfX
  omega
theorem bits16_range (o : BinOp) (x y : Int) (h : ∃ z : BitVec 16, Go.bits o .u16 x y = (z.toNat : Int)) : 0 ≤ Go.bits o .u16 x y ∧ Go.bits o .u16 x y ≤ 65535 := by
  obtain ⟨z, hz⟩ := h
  rw [hz]
  have := z.isLt
  omega
set_option maxHeartbeats 8000000 in
set_option maxRecDepth 100000 in
theorem half_any (g : Nat) (x b : Int) (w : World) (h0 : 0 ≤ x) (h1 : x ≤ 65535) (h2 : 0 ≤ b) (h3 : b ≤ 15) (hT : ∀ j, j < 16 → w.cell? ⟨g, j, none⟩ = some (.int .u16 (sumT.getD j 0))) :
   Calls Tryd.prog 33 #[.int .u16 x, .int .u8 b, .pointer (some ⟨g, 0, none⟩)] w fun e w' => e = .returned (.int .u16 (halfI x b)) ∧ w' = w := by
  obtain ⟨hn, hX⟩ := halfX_ok x b h0 h1 h2 h3
  have hb := hT (halfX x b) hn
  unfold halfI
  generalize sumT.getD (halfX x b) 0 = t at hb ⊢
  generalize halfX x b = n at hb hX hn
  clear hT
  go_enter Tryd.func33, Tryd.ntmps33
  go_wp2
  go_ret
  exact ⟨rfl, rfl⟩
theorem xor16 (x y : Int) : Go.bits .xor .u16 x y = ((BitVec.ofInt 16 x ^^^ BitVec.ofInt 16 y).toNat : Int) := by
  show IntKind.u16.wrap ((BitVec.ofInt 16 x ^^^ BitVec.ofInt 16 y).toNat : Int) = _
  have h := (BitVec.ofInt 16 x ^^^ BitVec.ofInt 16 y).isLt
  generalize (BitVec.ofInt 16 x ^^^ BitVec.ofInt 16 y).toNat = n at h ⊢
  simp only [IntKind.wrap, IntKind.bits, IntKind.signed]
  simp
  omega
theorem halfI_range (x b : Int) : 0 ≤ halfI x b ∧ halfI x b ≤ 65535 := by
  unfold halfI
  rw [xor16]
  have := (BitVec.ofInt 16 (IntKind.u16.wrap (x * 16)) ^^^ BitVec.ofInt 16 (sumT.getD (halfX x b) 0)).isLt
  omega
def byteI (x : Int) (c : UInt8) : Int := halfI (halfI x ((c.toNat : Int) / 16)) ((c.toNat : Int) % 16)
def overI (x : Int) (l : List UInt8) : Int := l.foldl byteI x
theorem overI_range (l : List UInt8) : ∀ x : Int, 0 ≤ x → x ≤ 65535 → 0 ≤ overI x l ∧ overI x l ≤ 65535 := by
  induction l with
  | nil => exact fun x h0 h1 => ⟨h0, h1⟩
  | cons c l ih =>
    intro x h0 h1
    obtain ⟨a, b⟩ := halfI_range (halfI x ((c.toNat : Int) / 16)) ((c.toNat : Int) % 16)
    exact ih _ a b
theorem overI_snoc (x : Int) (s : ByteArray) (k : Nat) (h : k < s.size) : overI x (s.data.toList.take (k + 1)) = byteI (overI x (s.data.toList.take k)) s[k] := by
  rw [List.take_succ_eq_append_getElem (by simpa using h)]
  unfold overI
  rw [List.foldl_append]
  rfl
theorem cell_sum (w : World) (j : Nat) (hj : j < 16) : (w.alloc (.cells sumV 62)).cell? ⟨w.heap.size, j, none⟩ = some (.int .u16 (sumT.getD j 0)) := by
  have e : j = 0 ∨ j = 1 ∨ j = 2 ∨ j = 3 ∨ j = 4 ∨ j = 5 ∨ j = 6 ∨ j = 7 ∨ j = 8 ∨ j = 9 ∨ j = 10 ∨ j = 11 ∨ j = 12 ∨ j = 13 ∨ j = 14 ∨ j = 15 := by omega
  unfold sumV
  rcases e with rfl | rfl | rfl | rfl | rfl | rfl | rfl | rfl | rfl | rfl | rfl | rfl | rfl | rfl | rfl | rfl <;> (simp; rfl)
theorem table_lit (w : World) : Calls Tryd.prog 32 #[] w fun e w' => e = .returned (.agg #[.int .u16 0, .int .u16 4129, .int .u16 8258, .int .u16 12387, .int .u16 16516, .int .u16 20645, .int .u16 24774, .int .u16 28903, .int .u16 33032, .int .u16 37161, .int .u16 41290, .int .u16 45419, .int .u16 49548, .int .u16 53677, .int .u16 57806, .int .u16 61935]) ∧ Below w.heap.size w w' := table_calls w
def impl_sum_over.f (a0 : Int) (a1 : ByteArray) : Option Int := if 0 ≤ a0 ∧ a0 ≤ 65535 ∧ a1.size ≤ 9223372036854775807 then some (overI a0 a1.data.toList) else none
set_option maxHeartbeats 8000000 in
set_option maxRecDepth 100000 in
theorem impl_sum_over.calls (a0 : Int) (a1 : ByteArray) (r : Int) (w : World) (h : impl_sum_over.f a0 a1 = some r) :
  Calls Tryd.prog 25 #[.int .u16 a0, .string a1] w fun e w' => e = .returned (.int .u16 r) ∧ Below w.heap.size w w' := by
  unfold impl_sum_over.f at h
  split at h
  case isFalse => cases h
  rename_i hh
  obtain ⟨h0, h1, hs⟩ := hh
  obtain rfl := Option.some.inj h
  clear h
  go_enter Tryd.func25, Tryd.ntmps25
  go_wp2_with (go_at_call 32; refine (table_lit _).mono ?_; rintro e w1 ⟨rfl, hb1⟩)
  have HT := Aside0.mk (cell_sum w1)
  unfold sumV at HT
  have HB := Aside0.mk (hb1.alloc hb1.size (.cells #[.int .u16 0, .int .u16 4129, .int .u16 8258, .int .u16 12387, .int .u16 16516, .int .u16 20645, .int .u16 24774, .int .u16 28903, .int .u16 33032, .int .u16 37161, .int .u16 41290, .int .u16 45419, .int .u16 49548, .int .u16 53677, .int .u16 57806, .int .u16 61935] 62))
  have hz : w1.heap.size < (w1.alloc (.cells #[.int .u16 0, .int .u16 4129, .int .u16 8258, .int .u16 12387, .int .u16 16516, .int .u16 20645, .int .u16 24774, .int .u16 28903, .int .u16 33032, .int .u16 37161, .int .u16 41290, .int .u16 45419, .int .u16 49548, .int .u16 53677, .int .u16 57806, .int .u16 61935] 62)).heap.size := by simp
  generalize (w1.alloc (.cells #[.int .u16 0, .int .u16 4129, .int .u16 8258, .int .u16 12387, .int .u16 16516, .int .u16 20645, .int .u16 24774, .int .u16 28903, .int .u16 33032, .int .u16 37161, .int .u16 41290, .int .u16 45419, .int .u16 49548, .int .u16 53677, .int .u16 57806, .int .u16 61935] 62)) = W1 at HT HB hz ⊢
  generalize w1.heap.size = g at HT hz ⊢
  generalize (Value.agg #[.int .u16 0, .int .u16 4129, .int .u16 8258, .int .u16 12387, .int .u16 16516, .int .u16 20645, .int .u16 24774, .int .u16 28903, .int .u16 33032, .int .u16 37161, .int .u16 41290, .int .u16 45419, .int .u16 49548, .int .u16 53677, .int .u16 57806, .int .u16 61935]) = v7 at ⊢
  replace HB : Aside0 (Below w.heap.size w W1) := HB
  replace HT : Aside0 (∀ j, j < 16 → W1.cell? ⟨g, j, none⟩ = some (.int .u16 (sumT.getD j 0))) := HT
  go_loopw [0, 6] (fun s i wr => ∃ k : Nat, k ≤ a1.size ∧ i = .int .i64 k ∧ s = .int .u16 (overI a0 (a1.data.toList.take k)) ∧ Aside0 (∀ j, j < 16 → wr.cell? ⟨g, j, none⟩ = some (.int .u16 (sumT.getD j 0))) ∧ Aside0 (Below w.heap.size w wr)) (fun _ i _ => a1.size - (intOf i).toNat)
  case atStart => exact ⟨0, by omega, rfl, rfl, HT, HB⟩
  case round =>
    clear HT HB hz
    obtain ⟨k, hk, rfl, rfl, HT, HB⟩ := hrel
    obtain ⟨r0, r1⟩ := overI_range (a1.data.toList.take k) a0 h0 h1
    by_cases hlt : k < a1.size
    · have HS := Aside0.mk (overI_snoc a0 a1 k hlt)
      go_wp2
      have hc : a1[k].toNat < 256 := a1[k].toNat_lt
      have hi : (k : Int) < a1.size := by omega
      go_quiet ((go_at_call 33; exact Calls.quiet_of_same (half_any g _ _ _ (by first | exact r0 | exact (halfI_range _ _).1) (by first | exact r1 | exact (halfI_range _ _).2) (by omega) (by omega) (fun j hj => by simpa using HT.out j hj))))
      go_wp2
      go_roundw
      case rel => exact ⟨k + 1, by omega, by go_num, by rw [HS.out]; rfl, ⟨fun j hj => by simpa using HT.out j hj⟩, ⟨pw_below_drewN HB.out _⟩⟩
      case measure => simp [intOf]; omega
    · obtain rfl : k = a1.size := by omega
      go_wp2
      go_ret
      exact ⟨congrArg (fun l => Ending.returned (.int .u16 (overI a0 l))) (List.take_of_length_le (Nat.le_of_eq (by simp))), HB.out⟩

/-! ### impl_Crc16: function 15 -/
def impl_Crc16.f (a0 : ByteArray) : Option (Int) := (impl_sum_over.f 65535 a0).bind fun t213 => (some (wrap64 (t213)))
set_option maxHeartbeats 8000000 in
set_option maxRecDepth 100000 in
theorem impl_Crc16.calls (a0 : ByteArray) (r : Int) (w : World) (h : impl_Crc16.f a0 = some r) :
  Calls Tryd.prog 15 #[.string a0] w fun e w' => e = .returned (.int .i64 r) ∧ Below w.heap.size w w' := by
 have HB := m_ (Below.refl w.heap.size w)
 have H : ((impl_sum_over.f 65535 a0).bind fun t213 => (some (wrap64 (t213)))) = some r := h
 clear h
 replace H := Option.bind_eq_some_iff.mp H
 obtain ⟨t213, A20, H⟩ := H
 replace H : (some (wrap64 (t213))) = some r := H
 have A2 := Aside0.mk A20
 clear A20
 obtain rfl := Option.some.inj H
 go_enter Tryd.func15, Tryd.ntmps15
 go_wp2_with (first | ((with_reducible refine gate_callee (f := 25) rfl ?_); refine goesL_ (some 4) rfl rfl Tryd.func25 (by kernel_rfl) rfl #[.int .u16 65535, .string a0] rfl gl_ ?_; (with_reducible refine (impl_sum_over.calls 65535 a0 t213 _ A2.out).mono ?_); rintro e w3 ⟨rfl, hb⟩; refine ⟨_, rfl, ?_⟩; have n0_ := m_ (below_step (bN HB.out) hb); clear HB; have HB := n0_; clear n0_; (try clear hb); (try clear hb2); (try clear hk); (try clear hi)))
 go_ret
 exact ⟨by first | rfl | (simp [errW_none, errW_some] <;> rfl) | (simp [*, errW_none, errW_some] <;> rfl), by repeat (first | (with_reducible first | exact HB.out | apply below_alloc | apply pw_below_drewN | apply below_drew1) | exact HB.out)⟩

/-! ### impl_CmdPut: function 5 -/
def impl_CmdPut.g (k : Nat) (whole : ByteArray) : Option ByteArray :=
  if 2 ≤ whole.size ∧ whole.size ≤ 10000 then (impl_Crc16.f (whole.extract 0 (whole.size - 2))).bind fun q => (impl_NumPut.f k q 2).bind fun y => if y.size ≤ 1000 then some (whole.extract 0 (whole.size - 2) ++ y) else none else none
def impl_CmdPut.f (k : Nat) (a0_0 : Int) (a0_1 : Int) (a0_2 : Int) (a0_3 : Int) (a0_4 : Int) (a0_5 : ByteArray) : Option ByteArray :=
  (impl_cmdOk.f a0_0 a0_1 a0_2 a0_3 a0_4 a0_5).bind fun b => if b = true then
    if a0_5.size ≤ 1000 then (impl_NumPut.f k a0_3 1).bind fun x1 => (impl_NumPut.f k a0_4 1).bind fun x2 => (impl_NumPut.f k a0_2 1).bind fun x3 => (impl_NumPut.f k 0 2).bind fun x4 =>
      if x1.size + x2.size + x3.size + x4.size ≤ 1000 then (impl_PacketPut.f k true a0_0 a0_1 (strOfNums (bytesOf ⟨#[47]⟩ ++ (bytesOf x1 ++ (bytesOf x2 ++ (bytesOf x3 ++ (bytesOf a0_5 ++ bytesOf x4))))))).bind fun whole => impl_CmdPut.g k whole else none
    else none else some ⟨#[]⟩
theorem impl_CmdPut.mono : ∀ a0 a1 a2 a3 a4 a5 k, LeO (impl_CmdPut.f k a0 a1 a2 a3 a4 a5) (impl_CmdPut.f (k + 1) a0 a1 a2 a3 a4 a5) := by
  intro a0 a1 a2 a3 a4 a5 k
  unfold impl_CmdPut.f impl_CmdPut.g
  repeat' first
  | (with_reducible exact impl_NumPut.mono _ _ _)
  | (with_reducible exact impl_PacketPut.mono _ _ _ _ _)
  | (with_reducible exact LeO.refl _)
  | (with_reducible exact LeO.none _)
  | (with_reducible refine LeO.ite ?_ ?_)
  | (with_reducible refine LeO.bind ?_ (fun _ => ?_))
set_option maxHeartbeats 8000000 in
set_option maxRecDepth 100000 in
theorem impl_CmdPut.calls (k : Nat) (a0_0 : Int) (a0_1 : Int) (a0_2 : Int) (a0_3 : Int) (a0_4 : Int) (a0_5 : ByteArray) (r : ByteArray) (w : World) (h : impl_CmdPut.f k a0_0 a0_1 a0_2 a0_3 a0_4 a0_5 = some r) :
  Calls Tryd.prog 5 #[.agg #[.int .i64 a0_0, .int .i64 a0_1, .int .i64 a0_2, .int .i64 a0_3, .int .i64 a0_4, .string a0_5]] w fun e w' => e = .returned (.string r) ∧ Below w.heap.size w w' := by
  unfold impl_CmdPut.f at h
  obtain ⟨b, hb, h⟩ := Option.bind_eq_some_iff.mp h
  have HA := Aside0.mk hb
  clear hb
  cases b with
  | false =>
    simp at h
    subst h
    go_enter Tryd.func5, Tryd.ntmps5
    go_wp2_with fail
    refine (impl_cmdOk.calls _ _ _ _ _ _ _ _ HA.out).mono ?_
    rintro e w1 ⟨rfl, B1⟩
    go_wp2_with fail
    go_ret
    exact ⟨rfl, ((Below.refl _ _).alloc (Nat.le_refl _) _).trans (B1.mono (by simp))⟩
  | true =>
    rw [if_pos rfl] at h
    split at h
    case isFalse => cases h
    rename_i hlen0
    obtain ⟨x1, A1, h⟩ := Option.bind_eq_some_iff.mp h
    obtain ⟨x2, A2, h⟩ := Option.bind_eq_some_iff.mp h
    obtain ⟨x3, A3, h⟩ := Option.bind_eq_some_iff.mp h
    obtain ⟨x4, A4, h⟩ := Option.bind_eq_some_iff.mp h
    split at h
    case isFalse => cases h
    rename_i hlen1
    have hlen := Aside0.mk (And.intro hlen0 hlen1)
    clear hlen0 hlen1
    replace A1 := Aside0.mk A1
    replace A2 := Aside0.mk A2
    replace A3 := Aside0.mk A3
    have L1 := Aside0.mk (bytesOf_length x1)
    have L2 := Aside0.mk (bytesOf_length x2)
    have L3 := Aside0.mk (bytesOf_length x3)
    have L4 := Aside0.mk (bytesOf_length a0_5)
    replace A4 := Aside0.mk A4
    obtain ⟨whole, AP, h⟩ := Option.bind_eq_some_iff.mp h
    replace AP := Aside0.mk AP
    unfold impl_CmdPut.g at h
    split at h
    case isFalse => cases h
    rename_i hwh
    obtain ⟨hw2, hw3⟩ := hwh
    obtain ⟨q, AQ, h⟩ := Option.bind_eq_some_iff.mp h
    obtain ⟨y, AY, h⟩ := Option.bind_eq_some_iff.mp h
    replace AQ := Aside0.mk AQ
    replace AY := Aside0.mk AY
    split at h
    case isFalse => cases h
    rename_i hy
    obtain rfl := Option.some.inj h
    clear h
    go_enter Tryd.func5, Tryd.ntmps5
    go_wp2_with fail
    refine (impl_cmdOk.calls _ _ _ _ _ _ _ _ HA.out).mono ?_
    rintro e w1 ⟨rfl, B1⟩
    have P1 : w1.heap[w.heap.size]? = some (.cells #[.int .i64 a0_0, .int .i64 a0_1, .int .i64 a0_2, .int .i64 a0_3, .int .i64 a0_4, .string a0_5] 24 (0, 0)) := (B1.block _ (by simp)).trans (heap_alloc_new _ _)
    have hB : Below w.heap.size w w1 := ((Below.refl _ _).alloc (Nat.le_refl _) _).trans (B1.mono (by simp))
    replace hB := Aside0.mk hB
    have hz1 : w.heap.size < w1.heap.size := blk_lt P1
    clear B1
    obtain ⟨c0, c1, c2, c3, c4, c5⟩ := box6 P1
    replace P1 := Aside0.mk P1
    go_wp2_with fail
    refine (w_text w1.heap.size _ _ w1 _ (Wr.made w1) (by have s32 : (⟨#[32]⟩ : ByteArray).size = 1 := rfl; have s47 : (⟨#[47]⟩ : ByteArray).size = 1 := rfl; have := hlen.out; have := L1.out; have := L2.out; have := L3.out; have := L4.out; simp [bytesOf_length]; omega)).mono ?_
    rintro e w2 ⟨rfl, R2⟩
    clear c0 c1 c2 c3 c4 c5
    obtain ⟨c0, c1, c2, c3, c4, c5⟩ := box6 (R2.low P1.out hz1)
    replace R2 := Aside0.mk R2
    go_wp2_with fail
    refine (w_number k w1.heap.size _ _ x1 _ w1 _ R2.out A1.out (by have s32 : (⟨#[32]⟩ : ByteArray).size = 1 := rfl; have s47 : (⟨#[47]⟩ : ByteArray).size = 1 := rfl; have := hlen.out; have := L1.out; have := L2.out; have := L3.out; have := L4.out; simp [bytesOf_length]; omega)).mono ?_
    rintro e w3 ⟨rfl, R3⟩
    clear c0 c1 c2 c3 c4 c5 R2
    obtain ⟨c0, c1, c2, c3, c4, c5⟩ := box6 (R3.low P1.out hz1)
    replace R3 := Aside0.mk R3
    go_wp2_with fail
    refine (w_number k w1.heap.size _ _ x2 _ w1 _ R3.out A2.out (by have s32 : (⟨#[32]⟩ : ByteArray).size = 1 := rfl; have s47 : (⟨#[47]⟩ : ByteArray).size = 1 := rfl; have := hlen.out; have := L1.out; have := L2.out; have := L3.out; have := L4.out; simp [bytesOf_length]; omega)).mono ?_
    rintro e w4 ⟨rfl, R4⟩
    clear c0 c1 c2 c3 c4 c5 R3
    obtain ⟨c0, c1, c2, c3, c4, c5⟩ := box6 (R4.low P1.out hz1)
    replace R4 := Aside0.mk R4
    go_wp2_with fail
    refine (w_number k w1.heap.size _ _ x3 _ w1 _ R4.out A3.out (by have s32 : (⟨#[32]⟩ : ByteArray).size = 1 := rfl; have s47 : (⟨#[47]⟩ : ByteArray).size = 1 := rfl; have := hlen.out; have := L1.out; have := L2.out; have := L3.out; have := L4.out; simp [bytesOf_length]; omega)).mono ?_
    rintro e w5 ⟨rfl, R5⟩
    clear c0 c1 c2 c3 c4 c5 R4
    obtain ⟨c0, c1, c2, c3, c4, c5⟩ := box6 (R5.low P1.out hz1)
    replace R5 := Aside0.mk R5
    go_wp2_with fail
    refine (w_text w1.heap.size _ _ w1 _ R5.out (by have s32 : (⟨#[32]⟩ : ByteArray).size = 1 := rfl; have s47 : (⟨#[47]⟩ : ByteArray).size = 1 := rfl; have := hlen.out; have := L1.out; have := L2.out; have := L3.out; have := L4.out; simp [bytesOf_length]; omega)).mono ?_
    rintro e w6 ⟨rfl, R6⟩
    clear c0 c1 c2 c3 c4 c5 R5
    obtain ⟨c0, c1, c2, c3, c4, c5⟩ := box6 (R6.low P1.out hz1)
    replace R6 := Aside0.mk R6
    go_wp2_with fail
    refine (w_number k w1.heap.size _ _ x4 _ w1 _ R6.out A4.out (by have s32 : (⟨#[32]⟩ : ByteArray).size = 1 := rfl; have s47 : (⟨#[47]⟩ : ByteArray).size = 1 := rfl; have := hlen.out; have := L1.out; have := L2.out; have := L3.out; have := L4.out; simp [bytesOf_length]; omega)).mono ?_
    rintro e w7 ⟨rfl, R7⟩
    clear c0 c1 c2 c3 c4 c5 R6
    obtain ⟨v5, d0, d1⟩ := R7.blk
    have hB2 := Aside0.mk (R7.below hB.out (Nat.le_of_lt hz1))
    obtain ⟨c0, c1, c2, c3, c4, c5⟩ := box6 (R7.low P1.out hz1)
    replace R7 := Aside0.mk R7
    go_wp2_with fail
    refine (impl_PacketPut.calls k _ _ _ _ _ _ AP.out).mono ?_
    rintro e w8 ⟨rfl, B8⟩
    have hB3 := Aside0.mk (hB2.out.trans (B8.mono hB2.out.size))
    clear B8 c0 c1 c2 c3 c4 c5 d0 d1
    go_wp2_with fail
    refine (impl_Crc16.calls _ _ _ AQ.out).mono ?_
    rintro e w9 ⟨rfl, B9⟩
    have hB4 := Aside0.mk (hB3.out.trans (B9.mono hB3.out.size))
    go_wp2_with fail
    refine (impl_NumPut.calls k _ _ _ _ AY.out).mono ?_
    rintro e w10 ⟨rfl, B10⟩
    have hB5 := Aside0.mk (hB4.out.trans (B10.mono hB4.out.size))
    go_wp2_with fail
    go_ret
    exact ⟨rfl, hB5.out⟩

/-! ### spec_l1In: function 26 -/
def spec_l1In.f (a0 : Int) (a1 : Int) (a2 : Int) : Option (Bool) := if a0 ≥ a1 then (some (decide (a0 ≤ a2))) else (some false)
set_option maxHeartbeats 8000000 in
set_option maxRecDepth 100000 in
theorem spec_l1In.calls (a0 : Int) (a1 : Int) (a2 : Int) (r : Bool) (w : World) (h : spec_l1In.f a0 a1 a2 = some r) :
  Calls Tryd.prog 26 #[.int .i64 a0, .int .i64 a1, .int .i64 a2] w fun e w' => e = .returned (.bool r) ∧ Drawn0 w w' := by
 have H : (if a0 ≥ a1 then (some (decide (a0 ≤ a2))) else (some false)) = some r := h
 clear h
 by_cases c4 : a0 ≥ a1
 ·rw [if_pos c4] at H
  have c4b0 : decide (a1 ≤ a0) = true := decide_eq_true c4
  clear c4
  obtain rfl := Option.some.inj H
  go_enter Tryd.func26, Tryd.ntmps26
  go_wp2
  go_ret
  exact ⟨by first | rfl | (simp; done) | (simp [*]; done), by repeat (first | exact Drawn0.refl _ | apply Drawn0.step)⟩
 ·rw [if_neg c4] at H
  have c4b0 : decide (a1 ≤ a0) = false := decide_eq_false c4
  clear c4
  obtain rfl := Option.some.inj H
  go_enter Tryd.func26, Tryd.ntmps26
  go_wp2
  go_ret
  exact ⟨by first | rfl | (simp; done) | (simp [*]; done), by repeat (first | exact Drawn0.refl _ | apply Drawn0.step)⟩

/-! ### spec_l6CmdOk: function 16 -/
def spec_l6CmdOk.f (a0_0 : Int) (a0_1 : Int) (a0_2 : Int) (a0_3 : Int) (a0_4 : Int) (a0_5 : ByteArray) : Option (Bool) := (spec_l1In.f a0_0 0 2047).bind fun t215 => (if t215 = true then ((spec_l1In.f a0_1 0 16383).bind fun t216 => (if t216 = true then ((spec_l1In.f a0_2 0 255).bind fun t217 => (if t217 = true then ((spec_l1In.f a0_3 0 255).bind fun t218 => (if t218 = true then ((spec_l1In.f a0_4 0 255).bind fun t219 => (if t219 = true then (some (decide ((a0_5.size : Int) ≤ 60))) else (some false))) else (some false))) else (some false))) else (some false))) else (some false))
set_option maxHeartbeats 8000000 in
set_option maxRecDepth 100000 in
theorem spec_l6CmdOk.calls (a0_0 : Int) (a0_1 : Int) (a0_2 : Int) (a0_3 : Int) (a0_4 : Int) (a0_5 : ByteArray) (r : Bool) (w : World) (h : spec_l6CmdOk.f a0_0 a0_1 a0_2 a0_3 a0_4 a0_5 = some r) :
  Calls Tryd.prog 16 #[.agg #[.int .i64 a0_0, .int .i64 a0_1, .int .i64 a0_2, .int .i64 a0_3, .int .i64 a0_4, .string a0_5]] w fun e w' => e = .returned (.bool r) ∧ Below w.heap.size w w' := by
 have hu24 := Tryd.underlying24
 have HB := m_ (Below.refl w.heap.size w)
 have H : ((spec_l1In.f a0_0 0 2047).bind fun t215 => (if t215 = true then ((spec_l1In.f a0_1 0 16383).bind fun t216 => (if t216 = true then ((spec_l1In.f a0_2 0 255).bind fun t217 => (if t217 = true then ((spec_l1In.f a0_3 0 255).bind fun t218 => (if t218 = true then ((spec_l1In.f a0_4 0 255).bind fun t219 => (if t219 = true then (some (decide ((a0_5.size : Int) ≤ 60))) else (some false))) else (some false))) else (some false))) else (some false))) else (some false))) = some r := h
 clear h
 replace H := Option.bind_eq_some_iff.mp H
 obtain ⟨t215, A20, H⟩ := H
 replace H : (if t215 = true then ((spec_l1In.f a0_1 0 16383).bind fun t216 => (if t216 = true then ((spec_l1In.f a0_2 0 255).bind fun t217 => (if t217 = true then ((spec_l1In.f a0_3 0 255).bind fun t218 => (if t218 = true then ((spec_l1In.f a0_4 0 255).bind fun t219 => (if t219 = true then (some (decide ((a0_5.size : Int) ≤ 60))) else (some false))) else (some false))) else (some false))) else (some false))) else (some false)) = some r := H
 have A2 := Aside0.mk A20
 clear A20
 by_cases c3 : t215 = true
 ·subst c3
  have H1 : ((spec_l1In.f a0_1 0 16383).bind fun t216 => (if t216 = true then ((spec_l1In.f a0_2 0 255).bind fun t217 => (if t217 = true then ((spec_l1In.f a0_3 0 255).bind fun t218 => (if t218 = true then ((spec_l1In.f a0_4 0 255).bind fun t219 => (if t219 = true then (some (decide ((a0_5.size : Int) ≤ 60))) else (some false))) else (some false))) else (some false))) else (some false))) = some r := by rw [if_pos rfl] at H; exact H
  clear H
  have H := H1
  clear H1
  replace H := Option.bind_eq_some_iff.mp H
  obtain ⟨t216, A40, H⟩ := H
  replace H : (if t216 = true then ((spec_l1In.f a0_2 0 255).bind fun t217 => (if t217 = true then ((spec_l1In.f a0_3 0 255).bind fun t218 => (if t218 = true then ((spec_l1In.f a0_4 0 255).bind fun t219 => (if t219 = true then (some (decide ((a0_5.size : Int) ≤ 60))) else (some false))) else (some false))) else (some false))) else (some false)) = some r := H
  have A4 := Aside0.mk A40
  clear A40
  by_cases c5 : t216 = true
  ·subst c5
   have H1 : ((spec_l1In.f a0_2 0 255).bind fun t217 => (if t217 = true then ((spec_l1In.f a0_3 0 255).bind fun t218 => (if t218 = true then ((spec_l1In.f a0_4 0 255).bind fun t219 => (if t219 = true then (some (decide ((a0_5.size : Int) ≤ 60))) else (some false))) else (some false))) else (some false))) = some r := by rw [if_pos rfl] at H; exact H
   clear H
   have H := H1
   clear H1
   replace H := Option.bind_eq_some_iff.mp H
   obtain ⟨t217, A60, H⟩ := H
   replace H : (if t217 = true then ((spec_l1In.f a0_3 0 255).bind fun t218 => (if t218 = true then ((spec_l1In.f a0_4 0 255).bind fun t219 => (if t219 = true then (some (decide ((a0_5.size : Int) ≤ 60))) else (some false))) else (some false))) else (some false)) = some r := H
   have A6 := Aside0.mk A60
   clear A60
   by_cases c7 : t217 = true
   ·subst c7
    have H1 : ((spec_l1In.f a0_3 0 255).bind fun t218 => (if t218 = true then ((spec_l1In.f a0_4 0 255).bind fun t219 => (if t219 = true then (some (decide ((a0_5.size : Int) ≤ 60))) else (some false))) else (some false))) = some r := by rw [if_pos rfl] at H; exact H
    clear H
    have H := H1
    clear H1
    replace H := Option.bind_eq_some_iff.mp H
    obtain ⟨t218, A80, H⟩ := H
    replace H : (if t218 = true then ((spec_l1In.f a0_4 0 255).bind fun t219 => (if t219 = true then (some (decide ((a0_5.size : Int) ≤ 60))) else (some false))) else (some false)) = some r := H
    have A8 := Aside0.mk A80
    clear A80
    by_cases c9 : t218 = true
    ·subst c9
     have H1 : ((spec_l1In.f a0_4 0 255).bind fun t219 => (if t219 = true then (some (decide ((a0_5.size : Int) ≤ 60))) else (some false))) = some r := by rw [if_pos rfl] at H; exact H
     clear H
     have H := H1
     clear H1
     replace H := Option.bind_eq_some_iff.mp H
     obtain ⟨t219, A100, H⟩ := H
     replace H : (if t219 = true then (some (decide ((a0_5.size : Int) ≤ 60))) else (some false)) = some r := H
     have A10 := Aside0.mk A100
     clear A100
     by_cases c11 : t219 = true
     ·subst c11
      have H1 : (some (decide ((a0_5.size : Int) ≤ 60))) = some r := by rw [if_pos rfl] at H; exact H
      clear H
      have H := H1
      clear H1
      obtain rfl := Option.some.inj H
      go_enter Tryd.func16, Tryd.ntmps16
      go_wp2_with (first | ((with_reducible refine gate_dst (N := 1) rfl ?_); (try (refine gate_guard (by rfl) ?_; dsimp only)); refine box_event ?hg (N := 1) ?hd (cs := #[.int .i64 a0_0, .int .i64 a0_1, .int .i64 a0_2, .int .i64 a0_3, .int .i64 a0_4, .string a0_5]) (t := 24) ?hr ?_; (case hd => rfl); (case hg => rfl); (case hr => first | (go_simp; done) | (go_simp; rfl)); intro gb214 hg w12 hbox hb; have n0_ := m_ (below_step (bN HB.out) hb); have n1_ := m_ (hbox); have n2_ := m_ ((by rw [hg]; exact (below_size (bN HB.out)) : w.heap.size ≤ gb214)); have n3_ := m_ ((by rw [hg]; exact (below_size (bN HB.out)) : w.heap.size ≤ gb214)); clear HB; have HB := n0_; have BK214 := n1_; have GW214 := n2_; have GE214 := n3_; clear n0_ n1_ n2_ n3_; clear hb hbox hg; have hcz13_0 : w12.cell? ⟨gb214, 0, none⟩ = some (.int .i64 a0_0) := bc BK214 0; have hcz13_1 : w12.cell? ⟨gb214, 1, none⟩ = some (.int .i64 a0_1) := bc BK214 1; have hcz13_2 : w12.cell? ⟨gb214, 2, none⟩ = some (.int .i64 a0_2) := bc BK214 2; have hcz13_3 : w12.cell? ⟨gb214, 3, none⟩ = some (.int .i64 a0_3) := bc BK214 3; have hcz13_4 : w12.cell? ⟨gb214, 4, none⟩ = some (.int .i64 a0_4) := bc BK214 4; have hcz13_5 : w12.cell? ⟨gb214, 5, none⟩ = some (.string a0_5) := bc BK214 5; have hfz13_0 := blk_frozen BK214.out 0; have hfz13_1 := blk_frozen BK214.out 1; have hfz13_2 := blk_frozen BK214.out 2; have hfz13_3 := blk_frozen BK214.out 3; have hfz13_4 := blk_frozen BK214.out 4; have hfz13_5 := blk_frozen BK214.out 5) | ((with_reducible refine gate_callee (f := 26) rfl ?_); refine goesL_ (some 5) rfl rfl Tryd.func26 (by kernel_rfl) rfl #[.int .i64 a0_0, .int .i64 0, .int .i64 2047] rfl gl_ ?_; (with_reducible refine (spec_l1In.calls a0_0 0 2047 true _ A2.out).mono ?_); rintro e w' ⟨rfl, ⟨nd, rfl⟩⟩; refine ⟨_, rfl, ?_⟩) | (go_at_call 26; (with_reducible refine (spec_l1In.calls a0_1 0 16383 true _ A4.out).mono ?_); rintro e w' ⟨rfl, ⟨nd, rfl⟩⟩) | (go_at_call 26; (with_reducible refine (spec_l1In.calls a0_2 0 255 true _ A6.out).mono ?_); rintro e w' ⟨rfl, ⟨nd, rfl⟩⟩) | (go_at_call 26; (with_reducible refine (spec_l1In.calls a0_3 0 255 true _ A8.out).mono ?_); rintro e w' ⟨rfl, ⟨nd, rfl⟩⟩) | (go_at_call 26; (with_reducible refine (spec_l1In.calls a0_4 0 255 true _ A10.out).mono ?_); rintro e w' ⟨rfl, ⟨nd, rfl⟩⟩))
      go_ret
      exact ⟨by first | rfl | (simp [errW_none, errW_some] <;> rfl) | (simp [*, errW_none, errW_some] <;> rfl), by repeat (first | (with_reducible first | exact HB.out | apply below_alloc | apply pw_below_drewN | apply below_drew1 | refine below_set ?_ GE214.out) | exact HB.out)⟩
     ·replace c11 := Bool.eq_false_iff.mpr c11
      subst c11
      have H1 : (some false) = some r := by rw [if_neg (show ¬ (false = true) by decide)] at H; exact H
      clear H
      have H := H1
      clear H1
      obtain rfl := Option.some.inj H
      go_enter Tryd.func16, Tryd.ntmps16
      go_wp2_with (first | ((with_reducible refine gate_dst (N := 1) rfl ?_); (try (refine gate_guard (by rfl) ?_; dsimp only)); refine box_event ?hg (N := 1) ?hd (cs := #[.int .i64 a0_0, .int .i64 a0_1, .int .i64 a0_2, .int .i64 a0_3, .int .i64 a0_4, .string a0_5]) (t := 24) ?hr ?_; (case hd => rfl); (case hg => rfl); (case hr => first | (go_simp; done) | (go_simp; rfl)); intro gb214 hg w14 hbox hb; have n0_ := m_ (below_step (bN HB.out) hb); have n1_ := m_ (hbox); have n2_ := m_ ((by rw [hg]; exact (below_size (bN HB.out)) : w.heap.size ≤ gb214)); have n3_ := m_ ((by rw [hg]; exact (below_size (bN HB.out)) : w.heap.size ≤ gb214)); clear HB; have HB := n0_; have BK214 := n1_; have GW214 := n2_; have GE214 := n3_; clear n0_ n1_ n2_ n3_; clear hb hbox hg; have hcz15_0 : w14.cell? ⟨gb214, 0, none⟩ = some (.int .i64 a0_0) := bc BK214 0; have hcz15_1 : w14.cell? ⟨gb214, 1, none⟩ = some (.int .i64 a0_1) := bc BK214 1; have hcz15_2 : w14.cell? ⟨gb214, 2, none⟩ = some (.int .i64 a0_2) := bc BK214 2; have hcz15_3 : w14.cell? ⟨gb214, 3, none⟩ = some (.int .i64 a0_3) := bc BK214 3; have hcz15_4 : w14.cell? ⟨gb214, 4, none⟩ = some (.int .i64 a0_4) := bc BK214 4; have hcz15_5 : w14.cell? ⟨gb214, 5, none⟩ = some (.string a0_5) := bc BK214 5; have hfz15_0 := blk_frozen BK214.out 0; have hfz15_1 := blk_frozen BK214.out 1; have hfz15_2 := blk_frozen BK214.out 2; have hfz15_3 := blk_frozen BK214.out 3; have hfz15_4 := blk_frozen BK214.out 4; have hfz15_5 := blk_frozen BK214.out 5) | ((with_reducible refine gate_callee (f := 26) rfl ?_); refine goesL_ (some 5) rfl rfl Tryd.func26 (by kernel_rfl) rfl #[.int .i64 a0_0, .int .i64 0, .int .i64 2047] rfl gl_ ?_; (with_reducible refine (spec_l1In.calls a0_0 0 2047 true _ A2.out).mono ?_); rintro e w' ⟨rfl, ⟨nd, rfl⟩⟩; refine ⟨_, rfl, ?_⟩) | (go_at_call 26; (with_reducible refine (spec_l1In.calls a0_1 0 16383 true _ A4.out).mono ?_); rintro e w' ⟨rfl, ⟨nd, rfl⟩⟩) | (go_at_call 26; (with_reducible refine (spec_l1In.calls a0_2 0 255 true _ A6.out).mono ?_); rintro e w' ⟨rfl, ⟨nd, rfl⟩⟩) | (go_at_call 26; (with_reducible refine (spec_l1In.calls a0_3 0 255 true _ A8.out).mono ?_); rintro e w' ⟨rfl, ⟨nd, rfl⟩⟩) | (go_at_call 26; (with_reducible refine (spec_l1In.calls a0_4 0 255 false _ A10.out).mono ?_); rintro e w' ⟨rfl, ⟨nd, rfl⟩⟩))
      go_ret
      exact ⟨by first | rfl | (simp [errW_none, errW_some] <;> rfl) | (simp [*, errW_none, errW_some] <;> rfl), by repeat (first | (with_reducible first | exact HB.out | apply below_alloc | apply pw_below_drewN | apply below_drew1 | refine below_set ?_ GE214.out) | exact HB.out)⟩
    ·replace c9 := Bool.eq_false_iff.mpr c9
     subst c9
     have H1 : (some false) = some r := by rw [if_neg (show ¬ (false = true) by decide)] at H; exact H
     clear H
     have H := H1
     clear H1
     obtain rfl := Option.some.inj H
     go_enter Tryd.func16, Tryd.ntmps16
     go_wp2_with (first | ((with_reducible refine gate_dst (N := 1) rfl ?_); (try (refine gate_guard (by rfl) ?_; dsimp only)); refine box_event ?hg (N := 1) ?hd (cs := #[.int .i64 a0_0, .int .i64 a0_1, .int .i64 a0_2, .int .i64 a0_3, .int .i64 a0_4, .string a0_5]) (t := 24) ?hr ?_; (case hd => rfl); (case hg => rfl); (case hr => first | (go_simp; done) | (go_simp; rfl)); intro gb214 hg w16 hbox hb; have n0_ := m_ (below_step (bN HB.out) hb); have n1_ := m_ (hbox); have n2_ := m_ ((by rw [hg]; exact (below_size (bN HB.out)) : w.heap.size ≤ gb214)); have n3_ := m_ ((by rw [hg]; exact (below_size (bN HB.out)) : w.heap.size ≤ gb214)); clear HB; have HB := n0_; have BK214 := n1_; have GW214 := n2_; have GE214 := n3_; clear n0_ n1_ n2_ n3_; clear hb hbox hg; have hcz17_0 : w16.cell? ⟨gb214, 0, none⟩ = some (.int .i64 a0_0) := bc BK214 0; have hcz17_1 : w16.cell? ⟨gb214, 1, none⟩ = some (.int .i64 a0_1) := bc BK214 1; have hcz17_2 : w16.cell? ⟨gb214, 2, none⟩ = some (.int .i64 a0_2) := bc BK214 2; have hcz17_3 : w16.cell? ⟨gb214, 3, none⟩ = some (.int .i64 a0_3) := bc BK214 3; have hcz17_4 : w16.cell? ⟨gb214, 4, none⟩ = some (.int .i64 a0_4) := bc BK214 4; have hcz17_5 : w16.cell? ⟨gb214, 5, none⟩ = some (.string a0_5) := bc BK214 5; have hfz17_0 := blk_frozen BK214.out 0; have hfz17_1 := blk_frozen BK214.out 1; have hfz17_2 := blk_frozen BK214.out 2; have hfz17_3 := blk_frozen BK214.out 3; have hfz17_4 := blk_frozen BK214.out 4; have hfz17_5 := blk_frozen BK214.out 5) | ((with_reducible refine gate_callee (f := 26) rfl ?_); refine goesL_ (some 5) rfl rfl Tryd.func26 (by kernel_rfl) rfl #[.int .i64 a0_0, .int .i64 0, .int .i64 2047] rfl gl_ ?_; (with_reducible refine (spec_l1In.calls a0_0 0 2047 true _ A2.out).mono ?_); rintro e w' ⟨rfl, ⟨nd, rfl⟩⟩; refine ⟨_, rfl, ?_⟩) | (go_at_call 26; (with_reducible refine (spec_l1In.calls a0_1 0 16383 true _ A4.out).mono ?_); rintro e w' ⟨rfl, ⟨nd, rfl⟩⟩) | (go_at_call 26; (with_reducible refine (spec_l1In.calls a0_2 0 255 true _ A6.out).mono ?_); rintro e w' ⟨rfl, ⟨nd, rfl⟩⟩) | (go_at_call 26; (with_reducible refine (spec_l1In.calls a0_3 0 255 false _ A8.out).mono ?_); rintro e w' ⟨rfl, ⟨nd, rfl⟩⟩))
     go_ret
     exact ⟨by first | rfl | (simp [errW_none, errW_some] <;> rfl) | (simp [*, errW_none, errW_some] <;> rfl), by repeat (first | (with_reducible first | exact HB.out | apply below_alloc | apply pw_below_drewN | apply below_drew1 | refine below_set ?_ GE214.out) | exact HB.out)⟩
   ·replace c7 := Bool.eq_false_iff.mpr c7
    subst c7
    have H1 : (some false) = some r := by rw [if_neg (show ¬ (false = true) by decide)] at H; exact H
    clear H
    have H := H1
    clear H1
    obtain rfl := Option.some.inj H
    go_enter Tryd.func16, Tryd.ntmps16
    go_wp2_with (first | ((with_reducible refine gate_dst (N := 1) rfl ?_); (try (refine gate_guard (by rfl) ?_; dsimp only)); refine box_event ?hg (N := 1) ?hd (cs := #[.int .i64 a0_0, .int .i64 a0_1, .int .i64 a0_2, .int .i64 a0_3, .int .i64 a0_4, .string a0_5]) (t := 24) ?hr ?_; (case hd => rfl); (case hg => rfl); (case hr => first | (go_simp; done) | (go_simp; rfl)); intro gb214 hg w18 hbox hb; have n0_ := m_ (below_step (bN HB.out) hb); have n1_ := m_ (hbox); have n2_ := m_ ((by rw [hg]; exact (below_size (bN HB.out)) : w.heap.size ≤ gb214)); have n3_ := m_ ((by rw [hg]; exact (below_size (bN HB.out)) : w.heap.size ≤ gb214)); clear HB; have HB := n0_; have BK214 := n1_; have GW214 := n2_; have GE214 := n3_; clear n0_ n1_ n2_ n3_; clear hb hbox hg; have hcz19_0 : w18.cell? ⟨gb214, 0, none⟩ = some (.int .i64 a0_0) := bc BK214 0; have hcz19_1 : w18.cell? ⟨gb214, 1, none⟩ = some (.int .i64 a0_1) := bc BK214 1; have hcz19_2 : w18.cell? ⟨gb214, 2, none⟩ = some (.int .i64 a0_2) := bc BK214 2; have hcz19_3 : w18.cell? ⟨gb214, 3, none⟩ = some (.int .i64 a0_3) := bc BK214 3; have hcz19_4 : w18.cell? ⟨gb214, 4, none⟩ = some (.int .i64 a0_4) := bc BK214 4; have hcz19_5 : w18.cell? ⟨gb214, 5, none⟩ = some (.string a0_5) := bc BK214 5; have hfz19_0 := blk_frozen BK214.out 0; have hfz19_1 := blk_frozen BK214.out 1; have hfz19_2 := blk_frozen BK214.out 2; have hfz19_3 := blk_frozen BK214.out 3; have hfz19_4 := blk_frozen BK214.out 4; have hfz19_5 := blk_frozen BK214.out 5) | ((with_reducible refine gate_callee (f := 26) rfl ?_); refine goesL_ (some 5) rfl rfl Tryd.func26 (by kernel_rfl) rfl #[.int .i64 a0_0, .int .i64 0, .int .i64 2047] rfl gl_ ?_; (with_reducible refine (spec_l1In.calls a0_0 0 2047 true _ A2.out).mono ?_); rintro e w' ⟨rfl, ⟨nd, rfl⟩⟩; refine ⟨_, rfl, ?_⟩) | (go_at_call 26; (with_reducible refine (spec_l1In.calls a0_1 0 16383 true _ A4.out).mono ?_); rintro e w' ⟨rfl, ⟨nd, rfl⟩⟩) | (go_at_call 26; (with_reducible refine (spec_l1In.calls a0_2 0 255 false _ A6.out).mono ?_); rintro e w' ⟨rfl, ⟨nd, rfl⟩⟩))
    go_ret
    exact ⟨by first | rfl | (simp [errW_none, errW_some] <;> rfl) | (simp [*, errW_none, errW_some] <;> rfl), by repeat (first | (with_reducible first | exact HB.out | apply below_alloc | apply pw_below_drewN | apply below_drew1 | refine below_set ?_ GE214.out) | exact HB.out)⟩
  ·replace c5 := Bool.eq_false_iff.mpr c5
   subst c5
   have H1 : (some false) = some r := by rw [if_neg (show ¬ (false = true) by decide)] at H; exact H
   clear H
   have H := H1
   clear H1
   obtain rfl := Option.some.inj H
   go_enter Tryd.func16, Tryd.ntmps16
   go_wp2_with (first | ((with_reducible refine gate_dst (N := 1) rfl ?_); (try (refine gate_guard (by rfl) ?_; dsimp only)); refine box_event ?hg (N := 1) ?hd (cs := #[.int .i64 a0_0, .int .i64 a0_1, .int .i64 a0_2, .int .i64 a0_3, .int .i64 a0_4, .string a0_5]) (t := 24) ?hr ?_; (case hd => rfl); (case hg => rfl); (case hr => first | (go_simp; done) | (go_simp; rfl)); intro gb214 hg w20 hbox hb; have n0_ := m_ (below_step (bN HB.out) hb); have n1_ := m_ (hbox); have n2_ := m_ ((by rw [hg]; exact (below_size (bN HB.out)) : w.heap.size ≤ gb214)); have n3_ := m_ ((by rw [hg]; exact (below_size (bN HB.out)) : w.heap.size ≤ gb214)); clear HB; have HB := n0_; have BK214 := n1_; have GW214 := n2_; have GE214 := n3_; clear n0_ n1_ n2_ n3_; clear hb hbox hg; have hcz21_0 : w20.cell? ⟨gb214, 0, none⟩ = some (.int .i64 a0_0) := bc BK214 0; have hcz21_1 : w20.cell? ⟨gb214, 1, none⟩ = some (.int .i64 a0_1) := bc BK214 1; have hcz21_2 : w20.cell? ⟨gb214, 2, none⟩ = some (.int .i64 a0_2) := bc BK214 2; have hcz21_3 : w20.cell? ⟨gb214, 3, none⟩ = some (.int .i64 a0_3) := bc BK214 3; have hcz21_4 : w20.cell? ⟨gb214, 4, none⟩ = some (.int .i64 a0_4) := bc BK214 4; have hcz21_5 : w20.cell? ⟨gb214, 5, none⟩ = some (.string a0_5) := bc BK214 5; have hfz21_0 := blk_frozen BK214.out 0; have hfz21_1 := blk_frozen BK214.out 1; have hfz21_2 := blk_frozen BK214.out 2; have hfz21_3 := blk_frozen BK214.out 3; have hfz21_4 := blk_frozen BK214.out 4; have hfz21_5 := blk_frozen BK214.out 5) | ((with_reducible refine gate_callee (f := 26) rfl ?_); refine goesL_ (some 5) rfl rfl Tryd.func26 (by kernel_rfl) rfl #[.int .i64 a0_0, .int .i64 0, .int .i64 2047] rfl gl_ ?_; (with_reducible refine (spec_l1In.calls a0_0 0 2047 true _ A2.out).mono ?_); rintro e w' ⟨rfl, ⟨nd, rfl⟩⟩; refine ⟨_, rfl, ?_⟩) | (go_at_call 26; (with_reducible refine (spec_l1In.calls a0_1 0 16383 false _ A4.out).mono ?_); rintro e w' ⟨rfl, ⟨nd, rfl⟩⟩))
   go_ret
   exact ⟨by first | rfl | (simp [errW_none, errW_some] <;> rfl) | (simp [*, errW_none, errW_some] <;> rfl), by repeat (first | (with_reducible first | exact HB.out | apply below_alloc | apply pw_below_drewN | apply below_drew1 | refine below_set ?_ GE214.out) | exact HB.out)⟩
 ·replace c3 := Bool.eq_false_iff.mpr c3
  subst c3
  have H1 : (some false) = some r := by rw [if_neg (show ¬ (false = true) by decide)] at H; exact H
  clear H
  have H := H1
  clear H1
  obtain rfl := Option.some.inj H
  go_enter Tryd.func16, Tryd.ntmps16
  go_wp2_with (first | ((with_reducible refine gate_dst (N := 1) rfl ?_); (try (refine gate_guard (by rfl) ?_; dsimp only)); refine box_event ?hg (N := 1) ?hd (cs := #[.int .i64 a0_0, .int .i64 a0_1, .int .i64 a0_2, .int .i64 a0_3, .int .i64 a0_4, .string a0_5]) (t := 24) ?hr ?_; (case hd => rfl); (case hg => rfl); (case hr => first | (go_simp; done) | (go_simp; rfl)); intro gb214 hg w22 hbox hb; have n0_ := m_ (below_step (bN HB.out) hb); have n1_ := m_ (hbox); have n2_ := m_ ((by rw [hg]; exact (below_size (bN HB.out)) : w.heap.size ≤ gb214)); have n3_ := m_ ((by rw [hg]; exact (below_size (bN HB.out)) : w.heap.size ≤ gb214)); clear HB; have HB := n0_; have BK214 := n1_; have GW214 := n2_; have GE214 := n3_; clear n0_ n1_ n2_ n3_; clear hb hbox hg; have hcz23_0 : w22.cell? ⟨gb214, 0, none⟩ = some (.int .i64 a0_0) := bc BK214 0; have hcz23_1 : w22.cell? ⟨gb214, 1, none⟩ = some (.int .i64 a0_1) := bc BK214 1; have hcz23_2 : w22.cell? ⟨gb214, 2, none⟩ = some (.int .i64 a0_2) := bc BK214 2; have hcz23_3 : w22.cell? ⟨gb214, 3, none⟩ = some (.int .i64 a0_3) := bc BK214 3; have hcz23_4 : w22.cell? ⟨gb214, 4, none⟩ = some (.int .i64 a0_4) := bc BK214 4; have hcz23_5 : w22.cell? ⟨gb214, 5, none⟩ = some (.string a0_5) := bc BK214 5; have hfz23_0 := blk_frozen BK214.out 0; have hfz23_1 := blk_frozen BK214.out 1; have hfz23_2 := blk_frozen BK214.out 2; have hfz23_3 := blk_frozen BK214.out 3; have hfz23_4 := blk_frozen BK214.out 4; have hfz23_5 := blk_frozen BK214.out 5) | ((with_reducible refine gate_callee (f := 26) rfl ?_); refine goesL_ (some 5) rfl rfl Tryd.func26 (by kernel_rfl) rfl #[.int .i64 a0_0, .int .i64 0, .int .i64 2047] rfl gl_ ?_; (with_reducible refine (spec_l1In.calls a0_0 0 2047 false _ A2.out).mono ?_); rintro e w' ⟨rfl, ⟨nd, rfl⟩⟩; refine ⟨_, rfl, ?_⟩))
  go_ret
  exact ⟨by first | rfl | (simp [errW_none, errW_some] <;> rfl) | (simp [*, errW_none, errW_some] <;> rfl), by repeat (first | (with_reducible first | exact HB.out | apply below_alloc | apply pw_below_drewN | apply below_drew1 | refine below_set ?_ GE214.out) | exact HB.out)⟩

/-! ### spec_l1Put: function 27 -/
def spec_l1Put.l0 : Nat → Int → Int → ByteArray → Int → Option (ByteArray)
 | 0, _, _, _, _ => none
 | k + 1, x0, x1, x5, x6 => if x6 < x1 then ((some (([(Int.tmod x0 256) % 256] : List Int) : List Int)).bind fun y220 => (if (strOfNums y220).size + x5.size ≤ 9223372036854775807 then (spec_l1Put.l0 k (wrap64 (Int.tdiv x0 256)) x1 ((strOfNums y220) ++ x5) (wrap64 (x6 + 1))) else (none))) else (some x5)
def spec_l1Put.f (k : Nat) (a0 : Int) (a1 : Int) : Option (ByteArray) := spec_l1Put.l0 k a0 a1 (⟨#[]⟩ : ByteArray) 0
theorem spec_l1Put.mono_l : ∀ k, (∀ y0 y1 y2 y3, LeO (spec_l1Put.l0 k y0 y1 y2 y3) (spec_l1Put.l0 (k + 1) y0 y1 y2 y3))
 | 0 => fun _ _ _ _ r h => by simp [spec_l1Put.l0] at h
 | k + 1 => by
  have ih0 := spec_l1Put.mono_l k
  ·intro y0 y1 y2 y3
   unfold spec_l1Put.l0
   repeat' first
   | (with_reducible exact ih0 _ _ _ _)
   | (with_reducible exact LeO.refl _)
   | (with_reducible exact LeO.none _)
   | (with_reducible refine LeO.ite ?_ ?_)
   | (with_reducible refine LeO.bind ?_ (fun _ => ?_))
   | exact ih0 _ _ _ _
   | exact LeO.none _
   | refine LeO.ite ?_ ?_
   | refine LeO.bind ?_ (fun _ => ?_)
theorem spec_l1Put.mono : ∀ a0 a1 k, LeO (spec_l1Put.f k a0 a1) (spec_l1Put.f (k + 1) a0 a1) := by
 intro a0 a1 k
 have ih0 := spec_l1Put.mono_l k
 unfold spec_l1Put.f
 repeat' first
   | (with_reducible exact ih0 _ _ _ _)
   | (with_reducible exact LeO.refl _)
   | (with_reducible exact LeO.none _)
   | (with_reducible refine LeO.ite ?_ ?_)
   | (with_reducible refine LeO.bind ?_ (fun _ => ?_))
   | exact ih0 _ _ _ _
   | exact LeO.none _
   | refine LeO.ite ?_ ?_
   | refine LeO.bind ?_ (fun _ => ?_)
set_option maxHeartbeats 8000000 in
set_option maxRecDepth 100000 in
theorem spec_l1Put.calls (k : Nat) (a0 : Int) (a1 : Int) (r : ByteArray) (w : World) (h : spec_l1Put.f k a0 a1 = some r) :
  Calls Tryd.prog 27 #[.int .i64 a0, .int .i64 a1] w fun e w' => e = .returned (.string r) ∧ Below w.heap.size w w' := by
 have HB := m_ (Below.refl w.heap.size w)
 have H : (spec_l1Put.l0 k a0 a1 (⟨#[]⟩ : ByteArray) 0) = some r := h
 clear h
 have H' := Aside0.mk H
 clear H
 go_enter Tryd.func27, Tryd.ntmps27
 go_wp2
 go_loopg [0, 5, 6] k (fun kq v0 v5 v6 w' => ∃ (x0_1 : Int) (x5_1 : ByteArray) (x6_1 : Int), v0 = .int .i64 x0_1 ∧ v5 = .string x5_1 ∧ v6 = .int .i64 x6_1 ∧ Aside0 (spec_l1Put.l0 kq x0_1 a1 x5_1 x6_1 = some r) ∧ Aside0 (kq ≤ k) ∧ Aside0 (Below w.heap.size w w'))
 case atStart => exact ⟨(a0), ((⟨#[]⟩ : ByteArray)), (0), (by first | rfl | (simp; done) | (simp [*]; done)), (by first | rfl | (simp; done) | (simp [*]; done)), (by first | rfl | (simp; done) | (simp [*]; done)), H', ⟨Nat.le_refl _⟩, ⟨by repeat (first | (with_reducible first | exact HB.out | apply below_alloc | apply pw_below_drewN | apply below_drew1) | exact HB.out)⟩⟩
 case round =>
  clear H'
  try clear c2
  try clear p2
  obtain ⟨x0_1, x5_1, x6_1, rfl, rfl, rfl, HA, HK1, HB⟩ := hrel
  cases gk with
  | zero => exact absurd HA.out (by simp [spec_l1Put.l0])
  | succ k1 =>
   have H := HA.out
   clear HA
   simp only [spec_l1Put.l0] at H
   by_cases c3 : x6_1 < a1
   ·rw [if_pos c3] at H
    have c3b0 : decide (x6_1 < a1) = true := decide_eq_true c3
    clear c3
    obtain ⟨y220, hy220⟩ : ∃ y_ : List Int, y_ = (([(Int.tmod x0_1 256) % 256] : List Int)) := ⟨_, rfl⟩
    replace H : (if (strOfNums y220).size + x5_1.size ≤ 9223372036854775807 then (spec_l1Put.l0 k1 (wrap64 (Int.tdiv x0_1 256)) a1 ((strOfNums y220) ++ x5_1) (wrap64 (x6_1 + 1))) else (none)) = some r := by first | (rw [hy220]; with_reducible exact H) | (have H2_ := (Option.bind_some _ _).symm.trans H; rw [hy220]; with_reducible exact H2_) | (have H2_ := (Option.bind_some _ _).symm.trans H; with_reducible exact H2_) | with_reducible exact H | (rw [hy220]; exact H) | exact H
    have Ny220 := Aside0.mk hy220
    clear hy220
    by_cases c4 : (strOfNums y220).size + x5_1.size ≤ 9223372036854775807
    ·rw [if_pos c4] at H
     have c4b0 := eq_true c4
     have c4b1 : decide ((strOfNums y220).size + x5_1.size ≤ 9223372036854775807) = true := decide_eq_true c4
     try have c4b2 : (9223372036854775807 < (strOfNums y220).size + x5_1.size) = False := eq_false (Nat.not_lt.2 c4)
     have H' := Aside0.mk H
     clear H
     go_wp2_with (first | ((with_reducible refine gate_dst (N := 15) rfl ?_); refine Kd.R_lit (Kd.int .u8) _ 5 ?hg (N := 15) ?hd (xs := ([(Int.tmod x0_1 256) % 256] : List Int)) (inner := [.int .u8 ((Int.tmod x0_1 256) % 256)]) (ok := fun _ => True) (okp := fun _ => True) ?hr ?hp (fun _ hk => hk) trivial (Below.refl _ _) (Nat.le_refl _) (by simp) ?_; (case hd => rfl); (case hg => rfl); (case hr => first | (go_simp; done) | (go_simp; rfl)); (case hp => exact (Reps.one (show Kd.M (Kd.int .u8) _ _ _ ((Int.tmod x0_1 256) % 256) [.int .u8 ((Int.tmod x0_1 256) % 256)] from rfl) (Reps.none _ _))); intro v221 w5 ho6 hb hg_ hnew_; clear hg_ hnew_; (first | rw [← Ny220.out] at ho6 | (simp only [Int.reduceToNat] at ho6; rw [← Ny220.out] at ho6)); have n0_ := m_ (Kd.R_lower ho6 (below_size (bN HB.out))); have n1_ := m_ (below_step (bN HB.out) hb); clear HB; have HO222 := n0_; have HB := n1_; clear n0_ n1_; clear hb ho6; have hcv7 := own_string (P := Tryd.prog) Tryd.underlying22 Tryd.underlying5 Tryd.underlying9 (Kd.own_of_R HO222.out)))
     go_roundg k1
     case measure => have := HK1.out; omega
     case rel => exact ⟨(wrap64 (Int.tdiv x0_1 256)), ((strOfNums y220) ++ x5_1), (wrap64 (x6_1 + 1)), (by first | rfl | (simp; done) | (simp [*]; done)), (by first | rfl | (simp; done) | (simp [*]; done)), (by first | rfl | (simp; done) | (simp [*]; done)), H', ⟨by have := HK1.out; omega⟩, ⟨by repeat (first | (with_reducible first | exact HB.out | apply below_alloc | apply pw_below_drewN | apply below_drew1) | exact HB.out)⟩⟩
    ·rw [if_neg c4] at H
     exact absurd H (by simp)
   ·rw [if_neg c3] at H
    have c3b0 : decide (x6_1 < a1) = false := decide_eq_false c3
    clear c3
    obtain rfl := Option.some.inj H
    go_wp2
    go_ret
    exact ⟨by first | rfl | (simp [errW_none, errW_some] <;> rfl) | (simp [*, errW_none, errW_some] <;> rfl), by repeat (first | (with_reducible first | exact HB.out | apply below_alloc | apply pw_below_drewN | apply below_drew1) | exact HB.out)⟩

/-! ### spec_l3Flag: function 34 -/
def spec_l3Flag.f (a0 : Bool) : Option (Int) := if a0 = true then (some 1) else (some 0)
set_option maxHeartbeats 8000000 in
set_option maxRecDepth 100000 in
theorem spec_l3Flag.calls (a0 : Bool) (r : Int) (w : World) (h : spec_l3Flag.f a0 = some r) :
  Calls Tryd.prog 34 #[.bool a0] w fun e w' => e = .returned (.int .i64 r) ∧ Below w.heap.size w w' := by
 have HB := m_ (Below.refl w.heap.size w)
 have H : (if a0 = true then (some 1) else (some 0)) = some r := h
 clear h
 by_cases c2 : a0 = true
 ·subst c2
  have H1 : (some 1) = some r := by rw [if_pos rfl] at H; exact H
  clear H
  have H := H1
  clear H1
  obtain rfl := Option.some.inj H
  go_enter Tryd.func34, Tryd.ntmps34
  go_wp2
  go_ret
  exact ⟨by first | rfl | (simp [errW_none, errW_some] <;> rfl) | (simp [*, errW_none, errW_some] <;> rfl), by repeat (first | (with_reducible first | exact HB.out | apply below_alloc | apply pw_below_drewN | apply below_drew1) | exact HB.out)⟩
 ·replace c2 := Bool.eq_false_iff.mpr c2
  subst c2
  have H1 : (some 0) = some r := by rw [if_neg (show ¬ (false = true) by decide)] at H; exact H
  clear H
  have H := H1
  clear H1
  obtain rfl := Option.some.inj H
  go_enter Tryd.func34, Tryd.ntmps34
  go_wp2
  go_ret
  exact ⟨by first | rfl | (simp [errW_none, errW_some] <;> rfl) | (simp [*, errW_none, errW_some] <;> rfl), by repeat (first | (with_reducible first | exact HB.out | apply below_alloc | apply pw_below_drewN | apply below_drew1) | exact HB.out)⟩

/-! ### spec_l6Put: function 28 -/
def spec_l6Put.f (k : Nat) (a0_0 : Bool) (a0_1 : Int) (a0_2 : Int) (a0_3 : ByteArray) : Option (ByteArray) := (spec_l3Flag.f a0_0).bind fun t224 => ((spec_l1Put.f k (wrap64 ((wrap64 ((wrap64 (t224 * 4096)) + 2048)) + a0_1)) 2).bind fun t225 => ((spec_l1Put.f k (wrap64 (49152 + a0_2)) 2).bind fun t226 => (if t225.size + t226.size ≤ 9223372036854775807 then ((spec_l1Put.f k (wrap64 ((a0_3.size : Int) - 1)) 2).bind fun t227 => (if t225.size + t226.size + t227.size ≤ 9223372036854775807 then (if t225.size + t226.size + t227.size + a0_3.size ≤ 9223372036854775807 then (some (((t225 ++ t226) ++ t227) ++ a0_3)) else (none)) else (none))) else (none))))
theorem spec_l6Put.mono : ∀ a0 a1 a2 a3 k, LeO (spec_l6Put.f k a0 a1 a2 a3) (spec_l6Put.f (k + 1) a0 a1 a2 a3) := by
 intro a0 a1 a2 a3 k
 unfold spec_l6Put.f
 repeat' first
   | (with_reducible exact spec_l1Put.mono _ _ _)
   | (with_reducible exact LeO.refl _)
   | (with_reducible exact LeO.none _)
   | (with_reducible refine LeO.ite ?_ ?_)
   | (with_reducible refine LeO.bind ?_ (fun _ => ?_))
   | exact spec_l1Put.mono _ _ _
   | exact LeO.none _
   | refine LeO.ite ?_ ?_
   | refine LeO.bind ?_ (fun _ => ?_)
def spec_l6Put.T1 : Bool × List (List Nat × List Nat) := (true, [([], []), ([0], [0]), ([1], [1]), ([2], [2]), ([3], [3]), ([], []), ([5], [5]), ([4, 6], [4, 6]), ([7, 2], [7]), ([], []), ([9], [9]), ([10], [10]), ([11, 8], [11]), ([8, 12], [8, 12]), ([], []), ([14], [14]), ([15], [15]), ([16], [16]), ([17, 12], [17]), ([13, 18], [13, 18]), ([], []), ([20], [20]), ([19, 21], [19, 21]), ([22, 18, 0, 1, 2, 3, 4, 5, 6, 7, 8, 9, 10, 11, 12, 13, 14, 15, 16, 17, 18, 19, 20, 21, 22], [22])])
def spec_l6Put.B1 : List Nat := [0, 1, 3, 7, 15, 0, 32, 127, 255, 0, 512, 1536, 4095, 8191, 0, 16384, 49152, 114688, 253951, 524287, 0, 1048576, 4194303, 8388607]
theorem spec_l6Put.tab1 : rtab .any (opsOf Tryd.f28 1) = spec_l6Put.T1 := by kernel_rfl
theorem spec_l6Put.bits1 : waitsOk spec_l6Put.T1.2 spec_l6Put.B1 = true := by kernel_rfl
set_option maxHeartbeats 8000000 in
set_option maxRecDepth 100000 in
theorem spec_l6Put.calls (k : Nat) (a0_0 : Bool) (a0_1 : Int) (a0_2 : Int) (a0_3 : ByteArray) (r : ByteArray) (w : World) (h : spec_l6Put.f k a0_0 a0_1 a0_2 a0_3 = some r) :
  Calls Tryd.prog 28 #[.agg #[.bool a0_0, .int .i64 a0_1, .int .i64 a0_2, .string a0_3]] w fun e w' => e = .returned (.string r) ∧ Below w.heap.size w w' := by
 have hu39 := Tryd.underlying39
 have HB := m_ (Below.refl w.heap.size w)
 have H : ((spec_l3Flag.f a0_0).bind fun t224 => ((spec_l1Put.f k (wrap64 ((wrap64 ((wrap64 (t224 * 4096)) + 2048)) + a0_1)) 2).bind fun t225 => ((spec_l1Put.f k (wrap64 (49152 + a0_2)) 2).bind fun t226 => (if t225.size + t226.size ≤ 9223372036854775807 then ((spec_l1Put.f k (wrap64 ((a0_3.size : Int) - 1)) 2).bind fun t227 => (if t225.size + t226.size + t227.size ≤ 9223372036854775807 then (if t225.size + t226.size + t227.size + a0_3.size ≤ 9223372036854775807 then (some (((t225 ++ t226) ++ t227) ++ a0_3)) else (none)) else (none))) else (none))))) = some r := h
 clear h
 replace H := Option.bind_eq_some_iff.mp H
 obtain ⟨t224, A20, H⟩ := H
 replace H : ((spec_l1Put.f k (wrap64 ((wrap64 ((wrap64 (t224 * 4096)) + 2048)) + a0_1)) 2).bind fun t225 => ((spec_l1Put.f k (wrap64 (49152 + a0_2)) 2).bind fun t226 => (if t225.size + t226.size ≤ 9223372036854775807 then ((spec_l1Put.f k (wrap64 ((a0_3.size : Int) - 1)) 2).bind fun t227 => (if t225.size + t226.size + t227.size ≤ 9223372036854775807 then (if t225.size + t226.size + t227.size + a0_3.size ≤ 9223372036854775807 then (some (((t225 ++ t226) ++ t227) ++ a0_3)) else (none)) else (none))) else (none)))) = some r := H
 have A2 := Aside0.mk A20
 clear A20
 replace H := Option.bind_eq_some_iff.mp H
 obtain ⟨t225, A30, H⟩ := H
 replace H : ((spec_l1Put.f k (wrap64 (49152 + a0_2)) 2).bind fun t226 => (if t225.size + t226.size ≤ 9223372036854775807 then ((spec_l1Put.f k (wrap64 ((a0_3.size : Int) - 1)) 2).bind fun t227 => (if t225.size + t226.size + t227.size ≤ 9223372036854775807 then (if t225.size + t226.size + t227.size + a0_3.size ≤ 9223372036854775807 then (some (((t225 ++ t226) ++ t227) ++ a0_3)) else (none)) else (none))) else (none))) = some r := H
 have A3 := Aside0.mk A30
 clear A30
 replace H := Option.bind_eq_some_iff.mp H
 obtain ⟨t226, A40, H⟩ := H
 replace H : (if t225.size + t226.size ≤ 9223372036854775807 then ((spec_l1Put.f k (wrap64 ((a0_3.size : Int) - 1)) 2).bind fun t227 => (if t225.size + t226.size + t227.size ≤ 9223372036854775807 then (if t225.size + t226.size + t227.size + a0_3.size ≤ 9223372036854775807 then (some (((t225 ++ t226) ++ t227) ++ a0_3)) else (none)) else (none))) else (none)) = some r := H
 have A4 := Aside0.mk A40
 clear A40
 by_cases c5 : t225.size + t226.size ≤ 9223372036854775807
 ·rw [if_pos c5] at H
  have c5b0 := eq_true c5
  have c5b1 : decide (t225.size + t226.size ≤ 9223372036854775807) = true := decide_eq_true c5
  try have c5b2 : (9223372036854775807 < t225.size + t226.size) = False := eq_false (Nat.not_lt.2 c5)
  replace H := Option.bind_eq_some_iff.mp H
  obtain ⟨t227, A60, H⟩ := H
  replace H : (if t225.size + t226.size + t227.size ≤ 9223372036854775807 then (if t225.size + t226.size + t227.size + a0_3.size ≤ 9223372036854775807 then (some (((t225 ++ t226) ++ t227) ++ a0_3)) else (none)) else (none)) = some r := H
  have A6 := Aside0.mk A60
  clear A60
  by_cases c7 : t225.size + t226.size + t227.size ≤ 9223372036854775807
  ·rw [if_pos c7] at H
   have c7b0 := eq_true c7
   have c7b1 : decide (t225.size + t226.size + t227.size ≤ 9223372036854775807) = true := decide_eq_true c7
   try have c7b2 : (9223372036854775807 < t225.size + t226.size + t227.size) = False := eq_false (Nat.not_lt.2 c7)
   by_cases c8 : t225.size + t226.size + t227.size + a0_3.size ≤ 9223372036854775807
   ·rw [if_pos c8] at H
    have c8b0 := eq_true c8
    have c8b1 : decide (t225.size + t226.size + t227.size + a0_3.size ≤ 9223372036854775807) = true := decide_eq_true c8
    try have c8b2 : (9223372036854775807 < t225.size + t226.size + t227.size + a0_3.size) = False := eq_false (Nat.not_lt.2 c8)
    obtain rfl := Option.some.inj H
    go_enter Tryd.func28, Tryd.ntmps28
    try go_wp2_with (first | ((with_reducible refine gate_dst (N := 1) rfl ?_); refine box_event ?hg (N := 1) ?hd (cs := #[.bool a0_0, .int .i64 a0_1, .int .i64 a0_2, .string a0_3]) (t := 39) ?hr ?_; (case hd => rfl); (case hg => rfl); (case hr => first | (go_simp; done) | (go_simp; rfl)); intro gb223 hg w9 hbox hb; have n0_ := m_ (below_step (bN HB.out) hb); have n1_ := m_ (hbox); have n2_ := m_ ((by rw [hg]; exact (below_size (bN HB.out)) : w.heap.size ≤ gb223)); have n3_ := m_ ((by rw [hg]; exact (below_size (bN HB.out)) : w.heap.size ≤ gb223)); clear HB; have HB := n0_; have BK223 := n1_; have GW223 := n2_; have GE223 := n3_; clear n0_ n1_ n2_ n3_; clear hb hbox hg))
    have n0_ := m_ (blk_drew BK223.out)
    have n1_ := m_ (below_drew1 HB.out)
    clear BK223
    clear HB
    have BK223 := n0_
    have HB := n1_
    clear n0_ n1_
    refine start_ (n := 24) (S := fun w' => w'.cell? ⟨gb223, 0, none⟩ = some (.bool a0_0) ∧ w'.cell? ⟨gb223, 1, none⟩ = some (.int .i64 a0_1) ∧ w'.cell? ⟨gb223, 2, none⟩ = some (.int .i64 a0_2) ∧ w'.cell? ⟨gb223, 3, none⟩ = some (.string a0_3)) (ds := []) #[false, false, false, false, false, false, false, false, false, false, false, false, false, false, false, false, false, false, false, false, false, false, false, false] (by kernel_rfl) rfl rfl ⟨bc BK223 0, bc BK223 1, bc BK223 2, bc BK223 3⟩ (fun hHeld => ?_); refine with_tabW spec_l6Put.tab1 spec_l6Put.bits1 (fun HT_ HW_ => ?_)
    generalize w9.drew = w10 at BK223 HB hHeld ⊢
    refine pu 0 3 HT_ (h := ?_)
    refine pu 5 8 HT_ (h := ?_)
    refine pu 9 12 HT_ (h := ?_)
    refine pu 14 17 HT_ (h := ?_)
    refine pu 20 23 HT_ (h := ?_)
    refine take_ (i := 1) (N := some 4) (v := ?_) (a' := ?_) #[true, true, false, false, false, true, false, false, false, true, false, false, false, false, true, false, false, false, false, false, true, false, false, false] rfl rfl (take_ofW HT_.out HW_.out (by kernel_rfl)) (fun _ _ _ h => h) (Or.inl ⟨by rfl, ?_⟩) hHeld ?_ ?_
    rotate_left
    ·rintro w' ⟨s0, s1, s2, s3⟩
     go_simp
     with_reducible rfl
    rotate_left
    ·simp only [Act.put, List.setIfInBounds_toArray, List.set_cons_zero, List.set_cons_succ, i64_w, i32_w]
     rfl
    refine take_ (i := 6) (N := some 9) (v := ?_) (a' := ?_) #[true, true, false, false, false, true, true, false, false, true, false, false, false, false, true, false, false, false, false, false, true, false, false, false] rfl rfl (take_ofW HT_.out HW_.out (by kernel_rfl)) (fun _ _ _ h => h) (Or.inl ⟨by rfl, ?_⟩) hHeld ?_ ?_
    rotate_left
    ·rintro w' ⟨s0, s1, s2, s3⟩
     go_simp
     with_reducible rfl
    rotate_left
    ·simp only [Act.put, List.setIfInBounds_toArray, List.set_cons_zero, List.set_cons_succ, i64_w, i32_w]
     rfl
    refine take_ (i := 10) (N := some 13) (v := ?_) (a' := ?_) #[true, true, false, false, false, true, true, false, false, true, true, false, false, false, true, false, false, false, false, false, true, false, false, false] rfl rfl (take_ofW HT_.out HW_.out (by kernel_rfl)) (fun _ _ _ h => h) (Or.inl ⟨by rfl, ?_⟩) hHeld ?_ ?_
    rotate_left
    ·rintro w' ⟨s0, s1, s2, s3⟩
     go_simp
     with_reducible rfl
    rotate_left
    ·simp only [Act.put, List.setIfInBounds_toArray, List.set_cons_zero, List.set_cons_succ, i64_w, i32_w]
     rfl
    refine pu 11 14 HT_ (h := ?_)
    refine take_ (i := 15) (N := some 18) (v := ?_) (a' := ?_) #[true, true, false, false, false, true, true, false, false, true, true, true, false, false, true, true, false, false, false, false, true, false, false, false] rfl rfl (take_ofW HT_.out HW_.out (by kernel_rfl)) (fun _ _ _ h => h) (Or.inl ⟨by rfl, ?_⟩) hHeld ?_ ?_
    rotate_left
    ·rintro w' ⟨s0, s1, s2, s3⟩
     go_simp
     with_reducible rfl
    rotate_left
    ·simp only [Act.put, List.setIfInBounds_toArray, List.set_cons_zero, List.set_cons_succ, i64_w, i32_w]
     rfl
    refine pu 16 19 HT_ (h := ?_)
    refine pu 17 20 HT_ (h := ?_)
    refine take_ (i := 21) (N := some 24) (v := ?_) (a' := ?_) #[true, true, false, false, false, true, true, false, false, true, true, true, false, false, true, true, true, true, false, false, true, true, false, false] rfl rfl (take_ofW HT_.out HW_.out (by kernel_rfl)) (fun _ _ _ h => h) (Or.inl ⟨by rfl, ?_⟩) hHeld ?_ ?_
    rotate_left
    ·rintro w' ⟨s0, s1, s2, s3⟩
     go_simp
     with_reducible rfl
    rotate_left
    ·simp only [Act.put, List.setIfInBounds_toArray, List.set_cons_zero, List.set_cons_succ, i64_w, i32_w]
     rfl
    refine one_ (i := 2) (N := some 5) #[true, true, true, false, false, true, true, false, false, true, true, true, false, false, true, true, true, true, false, false, true, true, false, false] rfl rfl (one_of HT_.out (by kernel_rfl)) (by decide) (fun K hK => ?_)
    refine goes_ Tryd.func34 (by kernel_rfl) rfl #[.bool a0_0] (by rfl) rfl rfl gl_ ?_
    with_reducible refine (spec_l3Flag.calls a0_0 t224 _ A2.out).mono ?_
    rintro e w11 ⟨rfl, hb⟩
    refine ⟨_, rfl, ?_⟩
    have n0_ := m_ (blk_below (kN BK223.out) hb)
    have n1_ := m_ (below_step (bN HB.out) hb)
    clear BK223
    clear HB
    have BK223 := n0_
    have HB := n1_
    clear n0_ n1_
    (try clear hb)
    (try clear hb2)
    (try clear hk)
    (try clear hi)
    refine hK.out _ _ ⟨bc BK223 0, bc BK223 1, bc BK223 2, bc BK223 3⟩ (fun hHeld => ?_)
    clear hK K
    refine np (h := ?_)
    refine pu 3 6 HT_ (h := ?_)
    refine pu 4 7 HT_ (h := ?_)
    refine pu 7 10 HT_ (h := ?_)
    refine one_ (i := 8) (N := some 11) #[true, true, true, true, true, true, true, true, true, true, true, true, false, false, true, true, true, true, false, false, true, true, false, false] rfl rfl (one_of HT_.out (by kernel_rfl)) (by decide) (fun K hK => ?_)
    refine goes_ Tryd.func27 (by kernel_rfl) rfl #[.int .i64 (wrap64 ((wrap64 ((wrap64 (t224 * 4096)) + 2048)) + a0_1)), .int .i64 2] (by rfl) rfl rfl gl_ ?_
    with_reducible refine (spec_l1Put.calls k (wrap64 ((wrap64 ((wrap64 (t224 * 4096)) + 2048)) + a0_1)) 2 t225 _ A3.out).mono ?_
    rintro e w12 ⟨rfl, hb⟩
    refine ⟨_, rfl, ?_⟩
    have n0_ := m_ (blk_below (kN BK223.out) hb)
    have n1_ := m_ (below_step (bN HB.out) hb)
    clear BK223
    clear HB
    have BK223 := n0_
    have HB := n1_
    clear n0_ n1_
    (try clear hb)
    (try clear hb2)
    (try clear hk)
    (try clear hi)
    refine hK.out _ _ ⟨bc BK223 0, bc BK223 1, bc BK223 2, bc BK223 3⟩ (fun hHeld => ?_)
    clear hK K
    refine np (h := ?_)
    refine one_ (i := 12) (N := some 15) #[true, true, true, true, true, true, true, true, true, true, true, true, true, false, true, true, true, true, false, false, true, true, false, false] rfl rfl (one_of HT_.out (by kernel_rfl)) (by decide) (fun K hK => ?_)
    refine goes_ Tryd.func27 (by kernel_rfl) rfl #[.int .i64 (wrap64 (49152 + a0_2)), .int .i64 2] (by rfl) rfl rfl gl_ ?_
    with_reducible refine (spec_l1Put.calls k (wrap64 (49152 + a0_2)) 2 t226 _ A4.out).mono ?_
    rintro e w13 ⟨rfl, hb⟩
    refine ⟨_, rfl, ?_⟩
    have n0_ := m_ (blk_below (kN BK223.out) hb)
    have n1_ := m_ (below_step (bN HB.out) hb)
    clear BK223
    clear HB
    have BK223 := n0_
    have HB := n1_
    clear n0_ n1_
    (try clear hb)
    (try clear hb2)
    (try clear hk)
    (try clear hi)
    refine hK.out _ _ ⟨bc BK223 0, bc BK223 1, bc BK223 2, bc BK223 3⟩ (fun hHeld => ?_)
    clear hK K
    refine np (h := ?_)
    refine pu 13 16 HT_ (h := ?_)
    refine one_ (i := 18) (N := some 21) #[true, true, true, true, true, true, true, true, true, true, true, true, true, true, true, true, true, true, true, false, true, true, false, false] rfl rfl (one_of HT_.out (by kernel_rfl)) (by decide) (fun K hK => ?_)
    refine goes_ Tryd.func27 (by kernel_rfl) rfl #[.int .i64 (wrap64 ((a0_3.size : Int) - 1)), .int .i64 2] (by rfl) rfl rfl gl_ ?_
    with_reducible refine (spec_l1Put.calls k (wrap64 ((a0_3.size : Int) - 1)) 2 t227 _ A6.out).mono ?_
    rintro e w14 ⟨rfl, hb⟩
    refine ⟨_, rfl, ?_⟩
    have n0_ := m_ (blk_below (kN BK223.out) hb)
    have n1_ := m_ (below_step (bN HB.out) hb)
    clear BK223
    clear HB
    have BK223 := n0_
    have HB := n1_
    clear n0_ n1_
    (try clear hb)
    (try clear hb2)
    (try clear hk)
    (try clear hi)
    refine hK.out _ _ ⟨bc BK223 0, bc BK223 1, bc BK223 2, bc BK223 3⟩ (fun hHeld => ?_)
    clear hK K
    refine np (h := ?_)
    refine pu 19 22 HT_ (h := ?_)
    refine pu 22 25 HT_ (h := ?_)
    refine pu 23 2 HT_ (h := ?_)
    refine done_ (done_of HT_.out (by kernel_rfl)) ?_
    try go_wp2
    go_ret
    exact ⟨by first | rfl | (simp [errW_none, errW_some] <;> rfl) | (simp [*, errW_none, errW_some] <;> rfl), by repeat (first | (with_reducible first | exact HB.out | apply below_alloc | apply pw_below_drewN | apply below_drew1 | refine below_set ?_ GE223.out) | exact HB.out)⟩
   ·rw [if_neg c8] at H
    exact absurd H (by simp)
  ·rw [if_neg c7] at H
   exact absurd H (by simp)
 ·rw [if_neg c5] at H
  exact absurd H (by simp)

end Go.Proofs.YtpehnincnpnggaaDoor.P
