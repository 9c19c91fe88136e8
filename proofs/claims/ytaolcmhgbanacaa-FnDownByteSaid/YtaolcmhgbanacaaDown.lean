/- A frame down in bytes, in plain Lean: the program's and the reference's are one. No conditions. -/
import Derived.Test.YtaolcmhgbanacaaPx4
import Derived.Test.YtaolcmhgbanacaaPx6
import Derived.Test.YtaolcmhgbanacaaPx7
import Derived.Test.YtaolcmhgbanacaaPx8
import Derived.Test.YtaolcmhgbanacaaFarm
import Derived.Test.YtaolcmhgbanacaaCrcEv
namespace Go.Proofs.Ytaolcmhgbanacaa.Down
open Go.RowKit Go.Proofs.Ytaolcmhgbanacaa.P Go.Proofs.Ytaolcmhgbanacaa.E Go.Proofs.Ytaolcmhgbanacaa.Num Go.Proofs.Ytaolcmhgbanacaa.Farm Go.Proofs.Ytaolcmhgbanacaa.CrcEv Go.Proofs.YtaolcmhgbanacaaW.PrintWords
set_option linter.unusedSimpArgs false
set_option linter.unusedVariables false
def firstB (f : Int) : Bool := inB f 0 27 || (decide (f = 2047) || decide (f = 2046))
def downB (c w a o f : Int) (d fm : ByteArray) : Bool := (farmGet fm).2.2.2.2.2 && (inB c 0 1023 && (inB w 0 7 && (inB a 0 255 && (inB o 0 255 && (firstB f && decide ((d.size : Int) = 28))))))
def downT (c w a o f : Int) (d fm : ByteArray) : ByteArray := bs (c * 16 + w * 2 + 1).toNat 2 ++ bs a.toNat 1 ++ bs o.toNat 1 ++ bs (6144 + f).toNat 2 ++ d ++ fm
def downS (c w a o f : Int) (d fm : ByteArray) : ByteArray := if downB c w a o f d fm = true then downT c w a o f d fm ++ bs (crcN (downT c w a o f d fm)) 2 else ⟨#[]⟩
theorem downB_range {c w a o f : Int} {d fm : ByteArray} (h : downB c w a o f d fm = true) : (0 ≤ c ∧ c ≤ 1023) ∧ (0 ≤ w ∧ w ≤ 7) ∧ (0 ≤ a ∧ a ≤ 255) ∧ (0 ≤ o ∧ o ≤ 255) ∧ (0 ≤ f ∧ f ≤ 2047) ∧ d.size = 28 ∧ fm.size = 4 := by
  unfold downB firstB at h
  simp only [Bool.and_eq_true, Bool.or_eq_true, inB_true, decide_eq_true_eq] at h
  obtain ⟨h0, h1, h2, h3, h4, h5, h6⟩ := h
  refine ⟨h1, h2, h3, h4, by omega, by omega, farmGet_size h0⟩
theorem beq_dec (x y : Int) : (x == y) = decide (x = y) := by
  by_cases h : x = y
  · rw [decide_eq_true h, beq_iff_eq.2 h]
  · rw [decide_eq_false h, beq_eq_false_iff_ne.2 h]
theorem specOk_ev (c w a o f : Int) (d fm : ByteArray) : Ev (fun k => spec_l12Ok.f k c w a o f d fm) (downB c w a o f d fm) := by
  unfold spec_l12Ok.f
  refine Ev.bind (specGet_ev fm) ?_
  unfold downB
  cases h0 : (farmGet fm).2.2.2.2.2 with
  | false => exact Ev.iteF (by simp) (Ev.now _)
  | true =>
    refine Ev.iteT rfl (Ev.bindc (l1In_at _ _ _) ?_)
    cases inB c 0 1023 with
    | false => exact Ev.iteF (by simp) (Ev.now _)
    | true =>
      refine Ev.iteT rfl (Ev.bindc (l1In_at _ _ _) ?_)
      cases inB w 0 7 with
      | false => exact Ev.iteF (by simp) (Ev.now _)
      | true =>
        refine Ev.iteT rfl (Ev.bindc (l1In_at _ _ _) ?_)
        cases inB a 0 255 with
        | false => exact Ev.iteF (by simp) (Ev.now _)
        | true =>
          refine Ev.iteT rfl (Ev.bindc (l1In_at _ _ _) ?_)
          cases inB o 0 255 with
          | false => exact Ev.iteF (by simp) (Ev.now _)
          | true =>
            refine Ev.iteT rfl (Ev.bindc (l1In_at _ _ _) ?_)
            unfold firstB
            rw [beq_dec]
            cases inB f 0 27 with
            | true => exact Ev.iteT rfl (Ev.now _)
            | false =>
              refine Ev.iteF (by simp) ?_
              by_cases h1 : f = 2047
              · rw [decide_eq_true h1]
                exact Ev.iteT h1 (Ev.now _)
              · rw [decide_eq_false h1]
                refine Ev.iteF h1 ?_
                by_cases h2 : f = 2046
                · rw [decide_eq_true h2]
                  exact Ev.iteT h2 (Ev.now _)
                · rw [decide_eq_false h2]
                  exact Ev.iteF h2 (Ev.now _)
theorem implOk_ev (c w a o f : Int) (d fm : ByteArray) : Ev (fun k => impl_downOk.f k c w a o f d fm) (downB c w a o f d fm) := by
  have rest : ∀ b : Bool, b = firstB f → Ev (fun k => impl_downOk.j0 k (farmGet fm).2.2.2.2.2 b c w a o f d fm) (downB c w a o f d fm) := by
    rintro _ rfl
    refine Ev.step (fun k => by rw [impl_downOk.j0]) ?_
    unfold downB
    cases h0 : (farmGet fm).2.2.2.2.2 with
    | false => exact Ev.iteF (by simp) (Ev.now _)
    | true =>
      refine Ev.iteT rfl ?_
      cases h1 : firstB f with
      | false => refine Ev.iteF (by simp) (Ev.eq (Ev.now _) ?_); cases inB c 0 1023 <;> cases inB w 0 7 <;> cases inB a 0 255 <;> cases inB o 0 255 <;> rfl
      | true =>
        refine Ev.iteT rfl (Ev.bindc (within_at _ _) ?_)
        cases inB c 0 1023 with
        | false => exact Ev.iteF (by simp) (Ev.now _)
        | true =>
          refine Ev.iteT rfl (Ev.bindc (within_at _ _) ?_)
          cases inB w 0 7 with
          | false => exact Ev.iteF (by simp) (Ev.now _)
          | true =>
            refine Ev.iteT rfl (Ev.bindc (within_at _ _) ?_)
            cases inB a 0 255 with
            | false => exact Ev.iteF (by simp) (Ev.now _)
            | true =>
              refine Ev.iteT rfl (Ev.bindc (within_at _ _) ?_)
              cases inB o 0 255 with
              | false => exact Ev.iteF (by simp) (Ev.now _)
              | true =>
                refine Ev.iteT rfl ?_
                rw [beq_dec]
                exact Ev.now _
  unfold impl_downOk.f
  refine Ev.bind (implGet_ev fm) (Ev.bindc (within_at _ _) ?_)
  by_cases h : inB f 0 27 = true
  · exact Ev.iteT h (rest true (by unfold firstB; rw [h]; rfl))
  · refine Ev.iteF h ?_
    have hf : inB f 0 27 = false := by simpa using h
    by_cases h1 : f = 2047
    · exact Ev.iteT h1 (rest true (by unfold firstB; rw [hf, decide_eq_true h1]; rfl))
    · exact Ev.iteF h1 (rest _ (by unfold firstB; rw [hf, decide_eq_false h1, beq_dec]; rfl))
theorem downT_size {c w a o f : Int} {d fm : ByteArray} (hd : d.size = 28) (hf : fm.size = 4) : (downT c w a o f d fm).size = 38 := by
  unfold downT
  simp only [ByteArray.size_append, bs_size]
  omega
theorem head_at {c w : Int} (hc : 0 ≤ c ∧ c ≤ 1023) (hw : 0 ≤ w ∧ w ≤ 7) : wrap64 (wrap64 (wrap64 (c * 16) + wrap64 (w * 2)) + 1) = c * 16 + w * 2 + 1 := by
  rw [wrap64_id (x := c * 16) (by omega) (by omega), wrap64_id (x := w * 2) (by omega) (by omega), wrap64_id (x := c * 16 + w * 2) (by omega) (by omega), wrap64_id (by omega) (by omega)]
theorem put12_ev (c w a o f : Int) (d fm : ByteArray) (h : downB c w a o f d fm = true) : Ev (fun k => spec_l12Put.f k c w a o f d fm) (downT c w a o f d fm ++ bs (crcN (downT c w a o f d fm)) 2) := by
  obtain ⟨hc, hw, ha, ho, hf, hd, hm⟩ := downB_range h
  have hz := downT_size (c := c) (w := w) (a := a) (o := o) (f := f) hd hm
  have hl := crcN_lt (downT c w a o f d fm)
  unfold spec_l12Put.f
  rw [head_at hc hw, wrap64_id (x := 6144 + f) (by omega) (by omega)]
  refine Ev.bind (l1Put_at (c * 16 + w * 2 + 1) 2 (by omega) (by omega) (by omega) trivial) ?_
  refine Ev.bind (l1Put_at a 1 ha.1 (by omega) (by omega) trivial) ?_
  refine Ev.iteT (by simp only [bs_size]; omega) ?_
  refine Ev.bind (l1Put_at o 1 ho.1 (by omega) (by omega) trivial) ?_
  refine Ev.iteT (by simp only [bs_size]; omega) ?_
  refine Ev.bind (l1Put_at (6144 + f) 2 (by omega) (by omega) (by omega) trivial) ?_
  refine Ev.iteT (by simp only [bs_size]; omega) (Ev.iteT (by simp only [bs_size]; omega) (Ev.iteT (by simp only [bs_size]; omega) ?_))
  refine Ev.bind (specCrc_at (downT c w a o f d fm) (by omega)) ?_
  refine Ev.bind (l1Put_at (crcN (downT c w a o f d fm) : Int) 2 (by omega) (by omega) (by omega) trivial) ?_
  refine Ev.iteT (by simp only [bs_size]; omega) (Ev.eq (Ev.now _) ?_)
  rw [Int.toNat_natCast]
  rfl
theorem specPut_ev (c w a o f : Int) (d fm : ByteArray) : Ev (fun k => spec_DownPut.f k c w a o f d fm) (downS c w a o f d fm) := by
  unfold spec_DownPut.f
  refine Ev.bind (specOk_ev c w a o f d fm) ?_
  unfold downS
  by_cases h : downB c w a o f d fm = true
  · rw [if_pos h]
    exact Ev.iteT h (Ev.bind (put12_ev c w a o f d fm h) (Ev.now _))
  · rw [if_neg h]
    exact Ev.iteF h (Ev.now _)
theorem implPut_ev (c w a o f : Int) (d fm : ByteArray) : Ev (fun k => impl_DownPut.f k c w a o f d fm) (downS c w a o f d fm) := by
  unfold impl_DownPut.f
  refine Ev.bind (implOk_ev c w a o f d fm) ?_
  unfold downS
  by_cases h : downB c w a o f d fm = true
  · rw [if_pos h]
    obtain ⟨hc, hw, ha, ho, hf, hd, hm⟩ := downB_range h
    have hz := downT_size (c := c) (w := w) (a := a) (o := o) (f := f) hd hm
    have hl := crcN_lt (downT c w a o f d fm)
    rw [head_at hc hw, wrap64_id (x := 6144 + f) (by omega) (by omega)]
    have put : ∀ (x : Int) (s : Nat), 0 ≤ x → x < ((256 ^ s : Nat) : Int) → 1 ≤ s → s ≤ 4 → Ev (fun k => impl_NumPut.f k x s) (bs x.toNat s) := NumPut_in
    refine Ev.iteT h ?_
    refine Ev.bind (put (c * 16 + w * 2 + 1) 2 (by omega) (by simp; omega) (by omega) (by omega)) ?_
    refine Ev.bind (put a 1 ha.1 (by simp; omega) (by omega) (by omega)) ?_
    refine Ev.iteT (by simp only [bs_size]; omega) ?_
    refine Ev.bind (put o 1 ho.1 (by simp; omega) (by omega) (by omega)) ?_
    refine Ev.iteT (by simp only [bs_size]; omega) ?_
    refine Ev.bind (put (6144 + f) 2 (by omega) (by simp; omega) (by omega) (by omega)) ?_
    refine Ev.iteT (by simp only [bs_size]; omega) (Ev.iteT (by simp only [bs_size]; omega) (Ev.iteT (by simp only [bs_size]; omega) ?_))
    refine Ev.bindc (implCrc_at (downT c w a o f d fm) (by omega)) ?_
    refine Ev.bind (put (crcN (downT c w a o f d fm) : Int) 2 (by omega) (by simp; omega) (by omega) (by omega)) ?_
    refine Ev.iteT (by simp only [bs_size]; omega) (Ev.eq (Ev.now _) ?_)
    rw [Int.toNat_natCast]
    rfl
  · rw [if_neg h]
    exact Ev.iteF h (Ev.now _)
end Go.Proofs.Ytaolcmhgbanacaa.Down
