/- A frame down read out of bytes, in plain Lean: the program's and the reference's are one. No conditions. -/
import Derived.Test.YtaolcmhgbanacaaPx8
import Derived.Test.YtaolcmhgbanacaaPx9
import Derived.Test.YtaolcmhgbanacaaDown
import Derived.Test.YtaolcmhgbanacaaGetI
namespace Go.Proofs.Ytaolcmhgbanacaa.Down
open Go.RowKit Go.Proofs.Ytaolcmhgbanacaa.P Go.Proofs.Ytaolcmhgbanacaa.E Go.Proofs.Ytaolcmhgbanacaa.Num Go.Proofs.Ytaolcmhgbanacaa.Get Go.Proofs.Ytaolcmhgbanacaa.Farm Go.Proofs.Ytaolcmhgbanacaa.CrcEv Go.Proofs.YtaolcmhgbanacaaW.PrintWords
set_option linter.unusedSimpArgs false
set_option linter.unusedVariables false
theorem num_one (t : ByteArray) (a : Nat) (h : a < t.size) : num t a 1 = bt t (a : Int) := by
  rw [num_succ t a 0 (by omega), num_zero]
  simp
def dC (t : ByteArray) : Int := num t 0 2 / 16 % 1024
def dW (t : ByteArray) : Int := num t 0 2 / 2 % 8
def dF (t : ByteArray) : Int := num t 4 2 % 2048
def dS (t : ByteArray) : ByteArray := downS (dC t) (dW t) (bt t 2) (bt t 3) (dF t) (t.extract 6 34) (t.extract 34 38)
def downGet (t : ByteArray) : DownR :=
  if (t.size : Int) = 40 then (if dS t = t then (dC t, dW t, bt t 2, bt t 3, dF t, t.extract 6 34, t.extract 34 38, true) else noDown) else noDown
theorem downGet_yes {t : ByteArray} (h : (t.size : Int) = 40) (h2 : dS t = t) : downGet t = (dC t, dW t, bt t 2, bt t 3, dF t, t.extract 6 34, t.extract 34 38, true) := by unfold downGet; rw [if_pos h, if_pos h2]
theorem downGet_no {t : ByteArray} (h : (t.size : Int) = 40) (h2 : ¬ dS t = t) : downGet t = noDown := by unfold downGet; rw [if_pos h, if_neg h2]
theorem downGet_len {t : ByteArray} (h : ¬ (t.size : Int) = 40) : downGet t = noDown := by unfold downGet; rw [if_neg h]
/-- What a frame's bytes tell of its fields. -/
theorem downS_tells {c w a o f : Int} {d m t : ByteArray} (h : downS c w a o f d m = t) (hz : 0 < t.size) : downB c w a o f d m = true ∧ num t 0 2 = c * 16 + w * 2 + 1 ∧ num t 4 2 = 6144 + f ∧ num t 2 1 = a ∧ num t 3 1 = o ∧ t.extract 6 34 = d ∧ t.extract 34 38 = m ∧ t.size = 40 := by
  unfold downS at h
  by_cases hb : downB c w a o f d m = true
  · rw [if_pos hb] at h
    obtain ⟨hc, hw, ha, ho, hf, hd, hm⟩ := downB_range hb
    have hl := crcN_lt (downT c w a o f d m)
    generalize crcN (downT c w a o f d m) = q at h hl
    unfold downT at h
    have e1 : t = (⟨#[]⟩ : ByteArray) ++ bs (c * 16 + w * 2 + 1).toNat 2 ++ (bs a.toNat 1 ++ bs o.toNat 1 ++ bs (6144 + f).toNat 2 ++ d ++ m ++ bs q 2) := by
      rw [← h]; simp only [ByteArray.append_assoc, empty_append]
    have e2 : t = (bs (c * 16 + w * 2 + 1).toNat 2 ++ bs a.toNat 1 ++ bs o.toNat 1) ++ bs (6144 + f).toNat 2 ++ (d ++ m ++ bs q 2) := by
      rw [← h]; simp only [ByteArray.append_assoc]
    have e3 : t = bs (c * 16 + w * 2 + 1).toNat 2 ++ bs a.toNat 1 ++ (bs o.toNat 1 ++ bs (6144 + f).toNat 2 ++ d ++ m ++ bs q 2) := by
      rw [← h]; simp only [ByteArray.append_assoc]
    have e4 : t = (bs (c * 16 + w * 2 + 1).toNat 2 ++ bs a.toNat 1) ++ bs o.toNat 1 ++ (bs (6144 + f).toNat 2 ++ d ++ m ++ bs q 2) := by
      rw [← h]; simp only [ByteArray.append_assoc]
    have e5 : t = (bs (c * 16 + w * 2 + 1).toNat 2 ++ bs a.toNat 1 ++ bs o.toNat 1 ++ bs (6144 + f).toNat 2) ++ d ++ (m ++ bs q 2) := by
      rw [← h]; simp only [ByteArray.append_assoc]
    have e6 : t = (bs (c * 16 + w * 2 + 1).toNat 2 ++ bs a.toNat 1 ++ bs o.toNat 1 ++ bs (6144 + f).toNat 2 ++ d) ++ m ++ bs q 2 := by
      rw [← h]
    have n1 := num_at 2 _ (show (c * 16 + w * 2 + 1).toNat < 256 ^ 2 by simp; omega) e1
    have n2 := num_at 2 _ (show (6144 + f).toNat < 256 ^ 2 by simp; omega) e2
    have n3 := num_at 1 _ (show a.toNat < 256 ^ 1 by simp; omega) e3
    have n4 := num_at 1 _ (show o.toNat < 256 ^ 1 by simp; omega) e4
    have n5 := extract_at e5
    have n6 := extract_at e6
    simp only [ByteArray.size_append, bs_size, hd, hm] at n2 n3 n4 n5 n6
    refine ⟨hb, ?_, ?_, ?_, ?_, n5, n6, ?_⟩
    · rw [show (0 : Nat) = (⟨#[]⟩ : ByteArray).size from rfl, n1]; omega
    · rw [n2]; omega
    · rw [n3]; omega
    · rw [n4]; omega
    · rw [e6]; simp only [ByteArray.size_append, bs_size, hd, hm]
  · rw [if_neg hb] at h
    subst h
    exact absurd hz (by decide)
theorem l1_is (s : ByteArray) (a : Nat) (h : a + 2 ≤ s.size) : 0 ≤ num s a 2 ∧ num s a 2 ≤ 65535 := by
  have := num_range s a 2 h
  have e : ((256 ^ 2 : Nat) : Int) = 65536 := by decide
  omega
theorem number_ev (t : ByteArray) (p n : Nat) (h1 : 1 ≤ n) (h4 : n ≤ 4) (h : p + n ≤ t.size) (hs : t.size ≤ 4611686018427387904) : Ev (fun k => impl_cursor_number.f k t p false n) (num t p n, t, ((p + n : Nat) : Int), false) := by
  unfold impl_cursor_number.f
  refine Ev.iteF (by simp) (Ev.bind (NumGet_in t p n h1 h4 h hs) (Ev.iteT rfl (Ev.eq (Ev.now _) ?_)))
  rw [wrap64_id (by omega) (by omega)]
  rfl
theorem take_at (t : ByteArray) (p n : Nat) (h : p + n ≤ t.size) (hs : t.size ≤ 4611686018427387904) : impl_cursor_take.f t p false n = some (t.extract p (p + n), t, ((p + n : Nat) : Int), false) := by
  unfold impl_cursor_take.f
  have e1 : wrap64 ((t.size : Int) - (p : Int)) = (t.size : Int) - (p : Int) := wrap64_id (by omega) (by omega)
  have e2 : wrap64 ((p : Int) + (n : Int)) = ((p + n : Nat) : Int) := by rw [wrap64_id (by omega) (by omega)]; rfl
  rw [if_neg (by simp), if_neg (by omega), e1, e2, if_neg (by omega), if_pos (by omega), if_pos (by omega), if_pos (by omega), Int.toNat_natCast, Int.toNat_natCast]
theorem implGet_ev (t : ByteArray) (hs : t.size ≤ 4611686018427387904) : Ev (fun k => impl_DownGet.f k t) (downGet t) := by
  unfold impl_DownGet.f
  by_cases h : (t.size : Int) = 40
  · obtain ⟨a0, a1⟩ := l1_is t 0 (by omega)
    obtain ⟨f0, f1⟩ := l1_is t 4 (by omega)
    refine Ev.iteT h (Ev.bind (number_ev t 0 2 (by omega) (by omega) (by omega) hs) (Ev.bind (number_ev t 2 1 (by omega) (by omega) (by omega) hs) (Ev.bind (number_ev t 3 1 (by omega) (by omega) (by omega) hs) (Ev.bind (number_ev t 4 2 (by omega) (by omega) (by omega) hs) ?_))))
    refine Ev.bindc (take_at t 6 28 (by omega) hs) (Ev.bindc (take_at t 34 4 (by omega) hs) (Ev.iteT ⟨a0, by show num t 0 2 ≤ _; omega, f0, by show num t 4 2 ≤ _; omega⟩ (Ev.iteF (by simp) ?_)))
    unfold impl_DownGet.g
    refine Ev.bind (implPut_ev _ _ _ _ _ _ _) ?_
    show Ev (fun k => if (downS (num t 0 2 / 16) (num t 0 2 / 2 % 8) (num t 2 1) (num t 3 1) (num t 4 2 - 6144) (t.extract 6 34) (t.extract 34 38)).toList = t.toList then some (num t 0 2 / 16, num t 0 2 / 2 % 8, num t 2 1, num t 3 1, num t 4 2 - 6144, t.extract 6 34, t.extract 34 38, true) else some noDown) (downGet t)
    rw [num_one t 2 (by omega), num_one t 3 (by omega)]
    by_cases h2 : dS t = t
    · rw [downGet_yes h h2]
      obtain ⟨hb, n1, n2, _⟩ := downS_tells (t := t) h2 (by omega)
      obtain ⟨hc, hw, ha, ho, hf, hd, hm⟩ := downB_range hb
      have ec : num t 0 2 / 16 = dC t := by omega
      have ew : num t 0 2 / 2 % 8 = dW t := rfl
      have ef : num t 4 2 - 6144 = dF t := by omega
      rw [ec, ew, ef]
      exact Ev.iteT (str_eq.2 h2) (Ev.now _)
    · rw [downGet_no h h2]
      refine Ev.iteF (fun e => ?_) (Ev.now _)
      have h3 := str_eq.1 e
      obtain ⟨hb, n1, n2, _⟩ := downS_tells (t := t) h3 (by omega)
      obtain ⟨hc, hw, ha, ho, hf, hd, hm⟩ := downB_range hb
      apply h2
      have ec : dC t = num t 0 2 / 16 := by unfold dC; omega
      have ef : dF t = num t 4 2 - 6144 := by unfold dF; omega
      unfold dS
      rw [ec, ef]
      exact h3
  · rw [downGet_len h]
    exact Ev.iteF h (Ev.now _)
end Go.Proofs.Ytaolcmhgbanacaa.Down
