/- A frame read out of bytes, in plain Lean: the program's and the reference's are one. No conditions. -/
import Derived.Test.YtocmkmcjolbniaaPx3
import Derived.Test.YtocmkmcjolbniaaPx5
import Derived.Test.YtocmkmcjolbniaaPx6
import Derived.Test.YtocmkmcjolbniaaFrame
namespace Go.Proofs.Ytocmkmcjolbniaa.Frame
open Go.RowKit Go.Proofs.Ytocmkmcjolbniaa.P Go.Proofs.Ytocmkmcjolbniaa.E Go.Proofs.Ytocmkmcjolbniaa.Num Go.Proofs.Ytocmkmcjolbniaa.Get Go.Proofs.Ytocmkmcjolbniaa.In Go.Proofs.Ytocmkmcjolbniaa.CrcEv Go.Proofs.YtocmkmcjolbniaaW.PrintWords
set_option linter.unusedSimpArgs false
set_option linter.unusedVariables false
theorem num_one (t : ByteArray) (a : Nat) (h : a < t.size) : num t a 1 = bt t (a : Int) := by
  rw [num_succ t a 0 (by omega), num_zero]
  simp
theorem n2 (s : ByteArray) (a : Nat) (h : a + 2 ≤ s.size) : 0 ≤ num s a 2 ∧ num s a 2 ≤ 65535 := by
  have := num_range s a 2 h
  have e : ((256 ^ 2 : Nat) : Int) = 65536 := by decide
  omega
/-! ### bits -/
theorem and_8192 (x : Int) (h0 : 0 ≤ x) (h1 : x ≤ 65535) : (Go.bits .and .i64 x 8192 != 0) = (x / 8192 % 2 == 1) := by
  obtain ⟨n, rfl⟩ := Int.eq_ofNat_of_zero_le h0
  have := bits_and n 8192 (by omega)
  rw [Nat.mod_eq_of_lt (by omega), show (8192 : Nat) = 2 ^ 13 by rfl, and_pow, Nat.testBit_eq_decide_div_mod_eq] at this
  rw [show (8192 : Int) = ((2 ^ 13 : Nat) : Int) by rfl, this]
  by_cases h : n / 2 ^ 13 % 2 = 1
  · rw [decide_eq_true h]
    have e : ((n : Int) / ((2 ^ 13 : Nat) : Int) % 2 == 1) = true := by rw [beq_iff_eq]; omega
    rw [e]
    decide
  · rw [decide_eq_false h]
    have e : ((n : Int) / ((2 ^ 13 : Nat) : Int) % 2 == 1) = false := by rw [beq_eq_false_iff_ne]; omega
    rw [e]
    decide
theorem nat_andNot (h : Nat) (hh : h < 65536) : h &&& 18446744073709539327 = 2 ^ 14 * (h / 2 ^ 14) + h % 2 ^ 12 := by
  apply Nat.eq_of_testBit_eq
  intro i
  have hb : h % 2 ^ 12 < 2 ^ 14 := by omega
  rw [Nat.testBit_and, Nat.testBit_two_pow_mul_add _ hb]
  by_cases h16 : i < 16
  · have hi : i = 0 ∨ i = 1 ∨ i = 2 ∨ i = 3 ∨ i = 4 ∨ i = 5 ∨ i = 6 ∨ i = 7 ∨ i = 8 ∨ i = 9 ∨ i = 10 ∨ i = 11 ∨ i = 12 ∨ i = 13 ∨ i = 14 ∨ i = 15 := by omega
    by_cases h14 : i < 14
    · rw [if_pos h14, Nat.testBit_mod_two_pow]
      rcases hi with rfl | rfl | rfl | rfl | rfl | rfl | rfl | rfl | rfl | rfl | rfl | rfl | rfl | rfl | rfl | rfl <;> first | omega | (rw [Bool.and_comm]; congr 1)
    · rw [if_neg h14, Nat.testBit_div_two_pow]
      have e : i - 14 + 14 = i := by omega
      rw [e]
      have : i = 14 ∨ i = 15 := by omega
      rcases this with rfl | rfl
      · rw [show Nat.testBit 18446744073709539327 14 = true by decide, Bool.and_true]
      · rw [show Nat.testBit 18446744073709539327 15 = true by decide, Bool.and_true]
  · rw [Nat.testBit_lt_two_pow (show h < 2 ^ i from Nat.lt_of_lt_of_le hh (show (2 : Nat) ^ 16 ≤ 2 ^ i from Nat.pow_le_pow_right (by decide) (by omega))), Bool.false_and, if_neg (by omega), Nat.testBit_div_two_pow]
    rw [Nat.testBit_lt_two_pow]
    exact Nat.lt_of_lt_of_le hh (show (2 : Nat) ^ 16 ≤ 2 ^ (i - 14 + 14) from Nat.pow_le_pow_right (by decide) (by omega))
theorem andNot_at (x : Int) (h0 : 0 ≤ x) (h1 : x ≤ 65535) : Go.bits .andNot .i64 x 12288 = x / 16384 * 16384 + x % 4096 := by
  obtain ⟨n, rfl⟩ := Int.eq_ofNat_of_zero_le h0
  show IntKind.i64.wrap ((BitVec.ofInt 64 (n : Int) &&& ~~~ BitVec.ofInt 64 12288).toNat : Int) = _
  have e : (BitVec.ofInt 64 (n : Int) &&& ~~~ BitVec.ofInt 64 12288).toNat = n &&& 18446744073709539327 := by
    rw [BitVec.toNat_and, BitVec.ofInt_natCast, BitVec.toNat_ofNat, Nat.mod_eq_of_lt (by omega)]
    rfl
  rw [e, nat_andNot n (by omega)]
  simp only [IntKind.wrap, IntKind.bits, IntKind.signed]
  simp
  omega
/-! ### the cursor -/
theorem cnum_in (t : ByteArray) (p n : Nat) (h1 : 1 ≤ n) (hn : n ≤ 4) (h : p + n ≤ t.size) (hs : t.size ≤ 100000) : Ev (fun k => impl_cursor_number.f k t p false n) (num t p n, t, ((p + n : Nat) : Int), false) := by
  unfold impl_cursor_number.f
  refine Ev.iteF (by simp) (Ev.bind (NumGet_in t p n h1 hn h (by omega)) (Ev.iteT rfl (Ev.eq (Ev.now _) ?_)))
  rw [wrap64_id (by omega) (by omega)]
  rfl
theorem cnum_out (t : ByteArray) (p n : Nat) (h1 : 1 ≤ n) (hn : n ≤ 4) (h : t.size < p + n) (hs : t.size ≤ 100000) : Ev (fun k => impl_cursor_number.f k t p false n) (0, t, (p : Int), true) := by
  unfold impl_cursor_number.f
  exact Ev.iteF (by simp) (Ev.bind (NumGet_out t p n h1 hn (by omega) (by omega)) (Ev.iteF (by simp) (Ev.now _)))
theorem cnum_bad (t : ByteArray) (p n : Int) : Ev (fun k => impl_cursor_number.f k t p true n) (0, t, p, true) := by
  unfold impl_cursor_number.f
  exact Ev.iteT rfl (Ev.now _)
theorem ctake_bad (t : ByteArray) (p n : Int) : impl_cursor_take.f t p true n = some (⟨#[]⟩, t, p, true) := by
  unfold impl_cursor_take.f
  rw [if_pos rfl]
theorem ctake_out (t : ByteArray) (p : Nat) (n : Int) (h : n < 0 ∨ t.size < p + n) (hp : p ≤ t.size) (hs : t.size ≤ 100000) : impl_cursor_take.f t p false n = some (⟨#[]⟩, t, (p : Int), true) := by
  unfold impl_cursor_take.f
  rw [if_neg (by simp)]
  by_cases h0 : n < 0
  · rw [if_pos h0]
  · rw [if_neg h0, wrap64_id (by omega) (by omega), if_pos (by omega)]
theorem ctake_in (t : ByteArray) (p : Nat) (n : Int) (h0 : 0 ≤ n) (h : p + n ≤ t.size) (hs : t.size ≤ 100000) : impl_cursor_take.f t p false n = some (t.extract p (p + n).toNat, t, p + n, false) := by
  unfold impl_cursor_take.f
  rw [if_neg (by simp), if_neg (by omega), wrap64_id (by omega) (by omega), if_neg (by omega), if_pos (by omega), wrap64_id (by omega) (by omega), if_pos (by omega), if_pos (by omega), Int.toNat_natCast]
theorem prefix_yes (x p : ByteArray) (h : p.size ≤ x.size) : strings_HasPrefix.f x p = some ((x.extract 0 p.size).toList == p.toList) := by
  unfold strings_HasPrefix.f stringslite_HasPrefix.f
  rw [if_pos (by omega), if_pos (by omega), if_pos (by omega), Int.toNat_natCast]
  rfl
theorem prefix_no (x p : ByteArray) (h : x.size < p.size) : strings_HasPrefix.f x p = some false := by
  unfold strings_HasPrefix.f stringslite_HasPrefix.f
  rw [if_neg (by omega)]
  rfl
/-! ### what is read -/
def fP (t : ByteArray) : Bool := num t 0 2 / 8192 % 2 == 1
def fG (t : ByteArray) : Bool := num t 0 2 / 4096 % 2 == 1
def fC (t : ByteArray) : Int := num t 0 2 % 1024
def fV (t : ByteArray) : Int := num t 2 2 / 1024
def fN (t : ByteArray) : Nat := (num t 2 2 % 1024 + 1).toNat
def fD (t : ByteArray) : ByteArray := t.extract 5 (fN t - 2)
def fOk (t : ByteArray) : Prop := 8 ≤ t.size ∧ t.size ≤ 63 ∧ 8 ≤ fN t ∧ fN t ≤ t.size ∧ frameB (fP t) (fG t) (fC t) (fV t) (bt t 4) (fD t) = true ∧ frameS (fP t) (fG t) (fC t) (fV t) (bt t 4) (fD t) = t.extract 0 (fN t)
instance (t : ByteArray) : Decidable (fOk t) := by unfold fOk; exact inferInstance
def frameGet (t : ByteArray) : FrameR := if fOk t then (fP t, fG t, fC t, fV t, bt t 4, fD t, true) else noFrame
theorem frameGet_yes {t : ByteArray} (h : fOk t) : frameGet t = (fP t, fG t, fC t, fV t, bt t 4, fD t, true) := by unfold frameGet; rw [if_pos h]
theorem frameGet_no {t : ByteArray} (h : ¬ fOk t) : frameGet t = noFrame := by unfold frameGet; rw [if_neg h]
theorem specGet_ev (t : ByteArray) (hs : t.size ≤ 4611686018427387904) : Ev (fun k => spec_FrameGet.f k t) (frameGet t) := by
  unfold spec_FrameGet.f
  by_cases h8 : (t.size : Int) < 8
  · rw [frameGet_no (fun x => by have := x.1; omega)]
    refine Ev.iteT h8 (Ev.step (fun k => by rw [spec_FrameGet.j0]) ?_)
    exact Ev.iteT rfl (Ev.now _)
  · refine Ev.iteF h8 (Ev.step (fun k => by rw [spec_FrameGet.j0]) ?_)
    by_cases h63 : (t.size : Int) > 63
    · rw [frameGet_no (fun x => by have := x.2.1; omega)]
      exact Ev.iteT (by simpa using h63) (Ev.now _)
    · refine Ev.iteF (by simpa using h63) ?_
      obtain ⟨a0, a1⟩ := n2 t 0 (by omega)
      obtain ⟨b0, b1⟩ := n2 t 2 (by omega)
      have c4 := bt_byte t 4
      unfold Byte at c4
      refine Ev.bind (l1Get_ev t 0 2 (by omega) (by omega) hs) (Ev.bind (l1Get_ev t 2 2 (by omega) (by omega) hs) ?_)
      have eN : wrap64 (Int.tmod (num t 2 2) 1024 + 1) = (fN t : Int) := by
        unfold fN
        rw [Int.tmod_eq_emod_of_nonneg b0, wrap64_id (by omega) (by omega)]
        omega
      have eN2 : wrap64 ((fN t : Int) - 2) = (fN t : Int) - 2 := by unfold fN; rw [wrap64_id (by omega) (by omega)]
      have eP : (Int.tmod (wrap64 (Int.tdiv (num t 0 2) 8192)) 2 == 1) = fP t := by
        unfold fP
        rw [Int.tdiv_eq_ediv_of_nonneg a0, wrap64_id (by omega) (by omega), Int.tmod_eq_emod_of_nonneg (by omega)]
      have eG : (Int.tmod (wrap64 (Int.tdiv (num t 0 2) 4096)) 2 == 1) = fG t := by
        unfold fG
        rw [Int.tdiv_eq_ediv_of_nonneg a0, wrap64_id (by omega) (by omega), Int.tmod_eq_emod_of_nonneg (by omega)]
      have eC : Int.tmod (num t 0 2) 1024 = fC t := by unfold fC; rw [Int.tmod_eq_emod_of_nonneg a0]
      have eV : wrap64 (Int.tdiv (num t 2 2) 1024) = fV t := by
        unfold fV
        rw [Int.tdiv_eq_ediv_of_nonneg b0, wrap64_id (by omega) (by omega)]
      have e4 : wrap64 (bt t 4) = bt t 4 := wrap64_id (by omega) (by omega)
      rw [eN, eN2, eP, eG, eC, eV, e4]
      refine Ev.bindc (l1In_at _ _ _) ?_
      by_cases hI : inB (fN t : Int) 8 (t.size : Int) = true
      · obtain ⟨i0, i1⟩ := inB_true.1 hI
        refine Ev.iteT hI (Ev.iteT (by omega) (Ev.iteT (by omega) (Ev.iteT (by omega) ?_)))
        have eD : t.extract 5 ((fN t : Int) - 2).toNat = fD t := by unfold fD; congr 1; omega
        rw [eD]
        refine Ev.bindc (specOk_at _ _ _ _ _ _) ?_
        by_cases hB : frameB (fP t) (fG t) (fC t) (fV t) (bt t 4) (fD t) = true
        · refine Ev.iteT hB (Ev.bind (l3Put_ev hB) (Ev.iteT (by omega) (Ev.iteT (by omega) ?_)))
          rw [Int.toNat_natCast]
          by_cases hS : frameS (fP t) (fG t) (fC t) (fV t) (bt t 4) (fD t) = t.extract 0 (fN t)
          · rw [frameGet_yes ⟨by omega, by omega, by omega, by omega, hB, hS⟩]
            exact Ev.iteT (str_eq.2 hS) (Ev.now _)
          · rw [frameGet_no (fun x => hS x.2.2.2.2.2)]
            exact Ev.iteF (fun e => hS (str_eq.1 e)) (Ev.now _)
        · rw [frameGet_no (fun x => hB x.2.2.2.2.1)]
          exact Ev.iteF hB (Ev.now _)
      · rw [frameGet_no (fun x => hI (inB_true.2 ⟨by have := x.2.2.1; omega, by have := x.2.2.2.1; omega⟩))]
        exact Ev.iteF hI (Ev.now _)
/-- The number of the craft, as the program takes it out of the head, is the reference's where it fits. -/
theorem craft_same (t : ByteArray) (a0 : 0 ≤ num t 0 2) (a1 : num t 0 2 ≤ 65535) (h : num t 0 2 / 16384 * 16384 + num t 0 2 % 4096 ≤ 1023) : num t 0 2 / 16384 * 16384 + num t 0 2 % 4096 = fC t := by
  unfold fC
  omega
theorem fOk_craft {t : ByteArray} (h : fOk t) : num t 0 2 / 16384 * 16384 + num t 0 2 % 4096 = fC t := by
  obtain ⟨h1, h2, h3, h4, hB, hS⟩ := h
  obtain ⟨_, m1, _⟩ := frameS_tells hS (by omega) h4
  obtain ⟨hc, _⟩ := frameB_range hB
  obtain ⟨a0, a1⟩ := n2 t 0 (by omega)
  obtain ⟨p0, p1⟩ := b2i_range (fP t)
  obtain ⟨g0, g1⟩ := b2i_range (fG t)
  apply craft_same t a0 a1
  omega
theorem implGet_ev (t : ByteArray) (hs : t.size ≤ 140737488355328) : Ev (fun k => impl_FrameGet.f k t) (frameGet t) := by
  unfold impl_FrameGet.f
  by_cases h63 : (t.size : Int) > 63
  · rw [frameGet_no (fun x => by have := x.2.1; omega)]
    exact Ev.iteT h63 (Ev.now _)
  · refine Ev.iteF h63 ?_
    by_cases h2 : t.size < 2
    · rw [frameGet_no (fun x => by have := x.1; omega)]
      refine Ev.bind (cnum_out t 0 2 (by omega) (by omega) (by omega) (by omega)) (Ev.bind (cnum_bad t _ _) (Ev.bind (cnum_bad t _ _) ?_))
      exact Ev.bindc (ctake_bad t _ _) (Ev.iteT ⟨by simp, by simp, by simp, by simp⟩ (Ev.iteT rfl (Ev.now _)))
    · obtain ⟨a0, a1⟩ := n2 t 0 (by omega)
      refine Ev.bind (cnum_in t 0 2 (by omega) (by omega) (by omega) (by omega)) ?_
      by_cases h4 : t.size < 4
      · rw [frameGet_no (fun x => by have := x.1; omega)]
        refine Ev.bind (cnum_out t 2 2 (by omega) (by omega) (by omega) (by omega)) (Ev.bind (cnum_bad t _ _) ?_)
        exact Ev.bindc (ctake_bad t _ _) (Ev.iteT ⟨a0, a1, by omega, by omega⟩ (Ev.iteT rfl (Ev.now _)))
      · obtain ⟨b0, b1⟩ := n2 t 2 (by omega)
        refine Ev.bind (cnum_in t 2 2 (by omega) (by omega) (by omega) (by omega)) ?_
        by_cases h5 : t.size < 5
        · rw [frameGet_no (fun x => by have := x.1; omega)]
          refine Ev.bind (cnum_out t 4 1 (by omega) (by omega) (by omega) (by omega)) ?_
          exact Ev.bindc (ctake_bad t _ _) (Ev.iteT ⟨a0, a1, b0, b1⟩ (Ev.iteT rfl (Ev.now _)))
        · refine Ev.bind (cnum_in t 4 1 (by omega) (by omega) (by omega) (by omega)) ?_
          have hN : (fN t : Int) = num t 2 2 % 1024 + 1 := by unfold fN; omega
          by_cases ht : num t 2 2 % 1024 - 7 + 1 < 0 ∨ (t.size : Int) < ((5 : Nat) : Int) + (num t 2 2 % 1024 - 7 + 1)
          · rw [frameGet_no (fun x => by have := x.2.2.1; have := x.2.2.2.1; omega)]
            exact Ev.bindc (ctake_out t 5 _ ht (by omega) (by omega)) (Ev.iteT ⟨a0, a1, b0, b1⟩ (Ev.iteT rfl (Ev.now _)))
          · refine Ev.bindc (ctake_in t 5 _ (by omega) (by omega) (by omega)) (Ev.iteT ⟨a0, a1, b0, b1⟩ (Ev.iteF (by simp) ?_))
            have eD : t.extract 5 (((5 : Nat) : Int) + (num t 2 2 % 1024 - 7 + 1)).toNat = fD t := by unfold fD; congr 1; omega
            have hD : ((fD t).size : Int) = num t 2 2 % 1024 - 7 + 1 := by unfold fD; rw [ByteArray.size_extract]; omega
            show Ev (fun k => impl_FrameGet.g k t (Go.bits .and .i64 (num t 0 2) 8192 != 0) (Go.bits .and .i64 (num t 0 2) 4096 != 0) (Go.bits .andNot .i64 (num t 0 2) 12288) (num t 2 2 / 1024) (num t 4 1) (t.extract 5 (((5 : Nat) : Int) + (num t 2 2 % 1024 - 7 + 1)).toNat)) (frameGet t)
            rw [eD, and_8192 _ a0 a1, and_4096 _ a0 a1, andNot_at _ a0 a1, num_one t 4 (by omega)]
            show Ev (fun k => impl_FrameGet.g k t (fP t) (fG t) (num t 0 2 / 16384 * 16384 + num t 0 2 % 4096) (fV t) (bt t 4) (fD t)) (frameGet t)
            unfold impl_FrameGet.g
            refine Ev.bindc (implOk_at _ _ _ _ _ _) ?_
            by_cases hB : frameB (fP t) (fG t) (num t 0 2 / 16384 * 16384 + num t 0 2 % 4096) (fV t) (bt t 4) (fD t) = true
            · obtain ⟨hc, _, _, hd, _⟩ := frameB_range hB
              have eC := craft_same t a0 a1 hc.2
              rw [eC] at hB ⊢
              have hsz := frameS_size hB
              refine Ev.iteT hB (Ev.bind (implPut_ev _ _ _ _ _ _) ?_)
              by_cases hl : fN t ≤ t.size
              · refine Ev.bindc (prefix_yes _ _ (by omega)) ?_
                have en : (frameS (fP t) (fG t) (fC t) (fV t) (bt t 4) (fD t)).size = fN t := by omega
                rw [en]
                by_cases hS : frameS (fP t) (fG t) (fC t) (fV t) (bt t 4) (fD t) = t.extract 0 (fN t)
                · rw [frameGet_yes ⟨by omega, by omega, by omega, by omega, hB, hS⟩, ← hS]
                  exact Ev.iteT (by simp) (Ev.now _)
                · rw [frameGet_no (fun x => hS x.2.2.2.2.2)]
                  exact Ev.iteF (fun e => hS (str_inj (beq_iff_eq.1 e)).symm) (Ev.now _)
              · rw [frameGet_no (fun x => hl x.2.2.2.1)]
                exact Ev.bindc (prefix_no _ _ (by omega)) (Ev.iteF (by simp) (Ev.now _))
            · rw [frameGet_no (fun x => hB (by rw [fOk_craft x]; exact x.2.2.2.2.1))]
              exact Ev.iteF hB (Ev.now _)
end Go.Proofs.Ytocmkmcjolbniaa.Frame
