/- The sum of a text, in plain Lean: bit by bit, and by half bytes; that they are one; that one byte turned makes it another one. No conditions. -/
namespace Go.Proofs.YtpehnincnpnggaaDoor.Crc
set_option linter.unusedSimpArgs false

/-- One more bit. -/
def sh (v : BitVec 16) : BitVec 16 := if v.msb then (v <<< 1) ^^^ 0x1021#16 else v <<< 1
def sh4 (v : BitVec 16) : BitVec 16 := sh (sh (sh (sh v)))
/-- One more byte. -/
def byte (v : BitVec 16) (b : BitVec 16) : BitVec 16 := sh4 (sh4 (v ^^^ (b <<< 8)))
/-- Half a byte more, by the table. -/
def half (v n : BitVec 16) : BitVec 16 := (v <<< 4) ^^^ sh4 (((v >>> 12) ^^^ n) <<< 12)
def ofByte (b : UInt8) : BitVec 16 := BitVec.ofNat 16 b.toNat
def over (v : BitVec 16) (l : List UInt8) : BitVec 16 := l.foldl (fun s b => byte s (ofByte b)) v
def crc (l : List UInt8) : Nat := (over 0xffff#16 l).toNat

theorem sh_xor (a b : BitVec 16) : sh (a ^^^ b) = sh a ^^^ sh b := by
  unfold sh
  rw [BitVec.msb_xor, BitVec.shiftLeft_xor_distrib]
  cases a.msb <;> cases b.msb <;> simp
  · ac_rfl
  · ac_rfl
  · rw [show a <<< 1 ^^^ 4129#16 ^^^ (b <<< 1 ^^^ 4129#16) = (a <<< 1 ^^^ b <<< 1) ^^^ (4129#16 ^^^ 4129#16) by ac_rfl]
    simp

theorem sh4_xor (a b : BitVec 16) : sh4 (a ^^^ b) = sh4 a ^^^ sh4 b := by unfold sh4; simp only [sh_xor]

theorem sh_low (v : BitVec 16) (h : v.msb = false) : sh v = v <<< 1 := by unfold sh; rw [h]; rfl

/-- The low twelve bits only move up. -/
theorem sh4_low (v : BitVec 16) (h : v >>> 12 = 0#16) : sh4 v = v <<< 4 := by
  have hb : ∀ i, 12 ≤ i → i < 16 → v.getLsbD i = false := fun i h1 h2 => by
    have := congrArg (fun x => BitVec.getLsbD x (i - 12)) h
    simp only [BitVec.getLsbD_ushiftRight, BitVec.getLsbD_zero] at this
    rwa [show 12 + (i - 12) = i by omega] at this
  have m0 : v.msb = false := by rw [BitVec.msb_eq_getLsbD_last]; exact hb 15 (by omega) (by omega)
  have m1 : (v <<< 1).msb = false := by rw [BitVec.msb_eq_getLsbD_last, BitVec.getLsbD_shiftLeft]; simp; exact hb 14 (by omega) (by omega)
  have m2 : (v <<< 1 <<< 1).msb = false := by rw [← BitVec.shiftLeft_add, BitVec.msb_eq_getLsbD_last, BitVec.getLsbD_shiftLeft]; simp; exact hb 13 (by omega) (by omega)
  have m3 : (v <<< 1 <<< 1 <<< 1).msb = false := by rw [← BitVec.shiftLeft_add, ← BitVec.shiftLeft_add, BitVec.msb_eq_getLsbD_last, BitVec.getLsbD_shiftLeft]; simp; exact hb 12 (by omega) (by omega)
  unfold sh4
  rw [sh_low v m0, sh_low _ m1, sh_low _ m2, sh_low _ m3, ← BitVec.shiftLeft_add, ← BitVec.shiftLeft_add, ← BitVec.shiftLeft_add]

theorem split12 (v : BitVec 16) : v = (v &&& 0x0fff#16) ^^^ ((v >>> 12) <<< 12) := by
  apply BitVec.eq_of_getLsbD_eq
  intro i hi
  simp only [BitVec.getLsbD_xor, BitVec.getLsbD_and, BitVec.getLsbD_shiftLeft, BitVec.getLsbD_ushiftRight]
  by_cases h : i < 12
  · have : BitVec.getLsbD 0x0fff#16 i = true := by
      have hh : i = 0 ∨ i = 1 ∨ i = 2 ∨ i = 3 ∨ i = 4 ∨ i = 5 ∨ i = 6 ∨ i = 7 ∨ i = 8 ∨ i = 9 ∨ i = 10 ∨ i = 11 := by omega
      rcases hh with rfl | rfl | rfl | rfl | rfl | rfl | rfl | rfl | rfl | rfl | rfl | rfl <;> rfl
    simp [h, this]
  · have : BitVec.getLsbD 0x0fff#16 i = false := by
      have hh : i = 12 ∨ i = 13 ∨ i = 14 ∨ i = 15 := by omega
      rcases hh with rfl | rfl | rfl | rfl <;> rfl
    simp only [this, Bool.and_false, Bool.false_xor]
    rw [show 12 + (i - 12) = i by omega]
    simp [hi, h]

theorem half_eq (v n : BitVec 16) : half v n = sh4 (v ^^^ (n <<< 12)) := by
  have hl : (v &&& 0x0fff#16) >>> 12 = 0#16 := by
    apply BitVec.eq_of_getLsbD_eq
    intro i hi
    simp only [BitVec.getLsbD_ushiftRight, BitVec.getLsbD_and, BitVec.getLsbD_zero]
    have : BitVec.getLsbD 0x0fff#16 (12 + i) = false := by
      by_cases h : 12 + i < 16
      · have hh : i = 0 ∨ i = 1 ∨ i = 2 ∨ i = 3 := by omega
        rcases hh with rfl | rfl | rfl | rfl <;> rfl
      · exact BitVec.getLsbD_of_ge _ _ (by omega)
    rw [this, Bool.and_false]
  have h4 : v <<< 4 = (v &&& 0x0fff#16) <<< 4 := by
    apply BitVec.eq_of_getLsbD_eq
    intro i hi
    simp only [BitVec.getLsbD_shiftLeft, BitVec.getLsbD_and]
    by_cases h : i < 4
    · simp [h]
    · have : BitVec.getLsbD 0x0fff#16 (i - 4) = true := by
        have hh : i = 4 ∨ i = 5 ∨ i = 6 ∨ i = 7 ∨ i = 8 ∨ i = 9 ∨ i = 10 ∨ i = 11 ∨ i = 12 ∨ i = 13 ∨ i = 14 ∨ i = 15 := by omega
        rcases hh with rfl | rfl | rfl | rfl | rfl | rfl | rfl | rfl | rfl | rfl | rfl | rfl <;> rfl
      simp [h, hi, this]
  unfold half
  rw [h4, ← sh4_low _ hl, ← sh4_xor]
  congr 1
  conv => rhs; rw [split12 v]
  rw [BitVec.shiftLeft_xor_distrib]
  ac_rfl

/-- A byte by its halves. -/
theorem byte_halves (v : BitVec 16) (b : UInt8) : byte v (ofByte b) = half (half v (BitVec.ofNat 16 (b.toNat / 16))) (BitVec.ofNat 16 (b.toNat % 16)) := by
  have hb : b.toNat < 256 := b.toNat_lt
  have e : ofByte b <<< 8 = (BitVec.ofNat 16 (b.toNat / 16) <<< 12) ^^^ (BitVec.ofNat 16 (b.toNat % 16) <<< 8) := by
    unfold ofByte
    generalize b.toNat = m at hb
    have : ∀ m : Fin 256, BitVec.ofNat 16 m.val <<< 8 = (BitVec.ofNat 16 (m.val / 16) <<< 12) ^^^ (BitVec.ofNat 16 (m.val % 16) <<< 8) := by decide +kernel
    exact this ⟨m, hb⟩
  have e2 : sh4 (BitVec.ofNat 16 (b.toNat % 16) <<< 8) = BitVec.ofNat 16 (b.toNat % 16) <<< 12 := by
    have hm : b.toNat % 16 < 16 := Nat.mod_lt _ (by decide)
    generalize b.toNat % 16 = m at hm
    have : ∀ m : Fin 16, sh4 (BitVec.ofNat 16 m.val <<< 8) = BitVec.ofNat 16 m.val <<< 12 := by decide +kernel
    exact this ⟨m, hm⟩
  unfold byte
  rw [half_eq, half_eq, e, ← BitVec.xor_assoc, sh4_xor (v ^^^ _), e2]

theorem sh_inj {a b : BitVec 16} (h : sh a = sh b) : a = b := by
  have h0 : sh (a ^^^ b) = 0#16 := by rw [sh_xor, h, BitVec.xor_self]
  have key : ∀ x : BitVec 16, sh x = 0#16 → x = 0#16 := by
    intro x hx
    unfold sh at hx
    cases hm : x.msb with
    | true =>
      rw [hm] at hx
      simp only [if_true] at hx
      have := congrArg (fun y => BitVec.getLsbD y 0) hx
      simp [BitVec.getLsbD_xor, BitVec.getLsbD_shiftLeft] at this
    | false =>
      rw [hm] at hx
      simp only [Bool.false_eq_true, if_false] at hx
      apply BitVec.eq_of_getLsbD_eq
      intro i hi
      by_cases h15 : i = 15
      · subst h15
        rw [← BitVec.msb_eq_getLsbD_last, hm]
        rfl
      · have := congrArg (fun y => BitVec.getLsbD y (i + 1)) hx
        simp only [BitVec.getLsbD_shiftLeft, BitVec.getLsbD_zero] at this
        simpa [show i + 1 < 16 by omega] using this
  have := key _ h0
  exact BitVec.xor_eq_zero_iff.1 this

theorem sh4_inj {a b : BitVec 16} (h : sh4 a = sh4 b) : a = b := sh_inj (sh_inj (sh_inj (sh_inj h)))
theorem byte_inj_left {a b c : BitVec 16} (h : byte a c = byte b c) : a = b := by
  have := sh4_inj (sh4_inj h)
  simpa using this
theorem byte_inj_right {a : BitVec 16} {c d : UInt8} (h : byte a (ofByte c) = byte a (ofByte d)) : c = d := by
  have h1 := sh4_inj (sh4_inj h)
  have h2 : ofByte c <<< 8 = ofByte d <<< 8 := by simpa using h1
  have hc := c.toNat_lt; have hd := d.toNat_lt
  have h3 := congrArg BitVec.toNat h2
  simp only [ofByte, BitVec.toNat_shiftLeft, BitVec.toNat_ofNat] at h3
  apply UInt8.toNat_inj.1
  rw [Nat.shiftLeft_eq, Nat.shiftLeft_eq] at h3
  omega

theorem over_append (v : BitVec 16) (l m : List UInt8) : over v (l ++ m) = over (over v l) m := by unfold over; rw [List.foldl_append]
theorem over_inj {l : List UInt8} : ∀ {a b : BitVec 16}, over a l = over b l → a = b := by
  induction l with
  | nil => intro a b h; exact h
  | cons c l ih => intro a b h; exact byte_inj_left (ih h)
/-- One byte turned: another sum. -/
theorem crc_turned (l m : List UInt8) (c d : UInt8) (h : crc (l ++ c :: m) = crc (l ++ d :: m)) : c = d := by
  unfold crc at h
  have h1 := BitVec.eq_of_toNat_eq h
  rw [over_append, over_append] at h1
  exact byte_inj_right (over_inj (l := m) h1)
theorem crc_lt (l : List UInt8) : crc l < 65536 := (over _ l).isLt
end Go.Proofs.YtpehnincnpnggaaDoor.Crc
