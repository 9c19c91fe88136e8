/- A frame in bytes, in plain Lean: the program's and the reference's are one. No conditions. -/
import Derived.Test.YtocmkmcjolbniaaPx2
import Derived.Test.YtocmkmcjolbniaaPx4
import Derived.Test.YtocmkmcjolbniaaPx5
import Derived.Test.YtocmkmcjolbniaaIn
import Derived.Test.YtocmkmcjolbniaaGet
import Derived.Test.YtocmkmcjolbniaaCrcEv
namespace Go.Proofs.Ytocmkmcjolbniaa.Frame
open Go.RowKit Go.Proofs.Ytocmkmcjolbniaa.P Go.Proofs.Ytocmkmcjolbniaa.E Go.Proofs.Ytocmkmcjolbniaa.Num Go.Proofs.Ytocmkmcjolbniaa.Get Go.Proofs.Ytocmkmcjolbniaa.In Go.Proofs.Ytocmkmcjolbniaa.CrcEv Go.Proofs.YtocmkmcjolbniaaW.PrintWords
set_option linter.unusedSimpArgs false
set_option linter.unusedVariables false
def frameB (p g : Bool) (c v n : Int) (d : ByteArray) : Bool := inB c 0 1023 && (inB v 0 63 && (inB n 0 255 && (inB (d.size : Int) 1 53 && (p || !g))))
def frameT (p g : Bool) (c v n : Int) (d : ByteArray) : ByteArray := bs (b2i p * 8192 + b2i g * 4096 + c).toNat 2 ++ bs (v * 1024 + (d.size : Int) + 6).toNat 2 ++ bs n.toNat 1 ++ d
def frameS (p g : Bool) (c v n : Int) (d : ByteArray) : ByteArray := if frameB p g c v n d = true then frameT p g c v n d ++ bs (crcN (frameT p g c v n d)) 2 else ⟨#[]⟩
theorem frameB_range {p g : Bool} {c v n : Int} {d : ByteArray} (h : frameB p g c v n d = true) : (0 ≤ c ∧ c ≤ 1023) ∧ (0 ≤ v ∧ v ≤ 63) ∧ (0 ≤ n ∧ n ≤ 255) ∧ (1 ≤ d.size ∧ d.size ≤ 53) ∧ (g = true → p = true) := by
  unfold frameB at h
  simp only [Bool.and_eq_true, inB_true] at h
  obtain ⟨h1, h2, h3, h4, h5⟩ := h
  exact ⟨h1, h2, h3, by omega, fun hg => by rw [hg] at h5; simpa using h5⟩
theorem frameT_size (p g : Bool) (c v n : Int) (d : ByteArray) : (frameT p g c v n d).size = 5 + d.size := by
  unfold frameT
  simp only [ByteArray.size_append, bs_size]
theorem frameS_size {p g : Bool} {c v n : Int} {d : ByteArray} (h : frameB p g c v n d = true) : (frameS p g c v n d).size = 7 + d.size := by
  unfold frameS
  rw [if_pos h, ByteArray.size_append, frameT_size, bs_size]
  omega
theorem dataOk_at (d : ByteArray) : impl_frameDataOk.f d = some (inB (d.size : Int) 1 53) := by
  unfold impl_frameDataOk.f inB
  by_cases h : (d.size : Int) ≥ 1
  · rw [if_pos h, decide_eq_true (show (1 : Int) ≤ d.size from h), Bool.true_and]
  · rw [if_neg h, decide_eq_false (show ¬ (1 : Int) ≤ d.size from h), Bool.false_and]
theorem specOk_at (p g : Bool) (c v n : Int) (d : ByteArray) : spec_FrameOk.f p g c v n d = some (frameB p g c v n d) := by
  unfold spec_FrameOk.f frameB
  simp only [l1In_at]
  cases inB c 0 1023 <;> cases inB v 0 63 <;> cases inB n 0 255 <;> cases inB (d.size : Int) 1 53 <;> cases p <;> cases g <;> rfl
theorem implOk_at (p g : Bool) (c v n : Int) (d : ByteArray) : impl_FrameOk.f p g c v n d = some (frameB p g c v n d) := by
  unfold impl_FrameOk.f frameB
  simp only [within_at, dataOk_at]
  cases inB c 0 1023 <;> cases inB v 0 63 <;> cases inB n 0 255 <;> cases inB (d.size : Int) 1 53 <;> cases p <;> cases g <;> rfl
theorem l3Put_ev {p g : Bool} {c v n : Int} {d : ByteArray} (h : frameB p g c v n d = true) : Ev (fun k => spec_l3Put.f k p g c v n d) (frameS p g c v n d) := by
  obtain ⟨hc, hv, hn, hd, _⟩ := frameB_range h
  obtain ⟨p0, p1⟩ := b2i_range p
  obtain ⟨g0, g1⟩ := b2i_range g
  unfold spec_l3Put.f
  refine Ev.bindc (flag_at p) (Ev.bindc (flag_at g) ?_)
  have e1 : wrap64 (wrap64 (wrap64 (b2i p * 8192) + wrap64 (b2i g * 4096)) + c) = b2i p * 8192 + b2i g * 4096 + c := by
    rw [wrap64_id (x := b2i p * 8192) (by omega) (by omega), wrap64_id (x := b2i g * 4096) (by omega) (by omega), wrap64_id (x := b2i p * 8192 + b2i g * 4096) (by omega) (by omega), wrap64_id (by omega) (by omega)]
  have e2 : wrap64 (wrap64 (wrap64 (v * 1024) + (d.size : Int)) + 6) = v * 1024 + (d.size : Int) + 6 := by
    rw [wrap64_id (x := v * 1024) (by omega) (by omega), wrap64_id (x := v * 1024 + (d.size : Int)) (by omega) (by omega), wrap64_id (by omega) (by omega)]
  rw [e1, e2]
  refine Ev.bind (l1Put_at _ 2 (by omega) (by omega) (by omega) trivial) ?_
  refine Ev.bind (l1Put_at _ 2 (by omega) (by omega) (by omega) trivial) ?_
  refine Ev.iteT (by rw [bs_size, bs_size]; omega) ?_
  refine Ev.bind (l1Put_at n 1 (by omega) (by omega) (by omega) trivial) ?_
  refine Ev.iteT (by rw [bs_size, bs_size, bs_size]; omega) ?_
  refine Ev.iteT (by rw [bs_size, bs_size, bs_size]; omega) ?_
  have hz := frameT_size p g c v n d
  have hl := crcN_lt (frameT p g c v n d)
  refine Ev.bind (specCrc_at (frameT p g c v n d) (by omega)) ?_
  refine Ev.bind (l1Put_at _ 2 (by omega) (by omega) (by omega) trivial) ?_
  rw [Int.toNat_natCast]
  refine Ev.iteT (by rw [bs_size, bs_size, bs_size, bs_size]; omega) (Ev.eq (Ev.now _) ?_)
  unfold frameS
  rw [if_pos h]
  rfl
theorem specPut_ev (p g : Bool) (c v n : Int) (d : ByteArray) : Ev (fun k => if frameB p g c v n d = true then spec_l3Put.f k p g c v n d else some ⟨#[]⟩) (frameS p g c v n d) := by
  by_cases h : frameB p g c v n d = true
  · exact Ev.iteT h (l3Put_ev h)
  · have e : frameS p g c v n d = ⟨#[]⟩ := by unfold frameS; rw [if_neg h]
    rw [e]
    exact Ev.iteF h (Ev.now _)
theorem kind_at (p g : Bool) (c v n : Int) (d : ByteArray) (h : g = true → p = true) : ∃ x, impl_frameKindOf.f p g c v n d = some x ∧ impl_frameBits.f x = some (b2i p * 8192 + b2i g * 4096) := by
  cases g with
  | true => rw [h rfl]; exact ⟨_, rfl, rfl⟩
  | false => cases p <;> exact ⟨_, rfl, rfl⟩
theorem implPut_ev (p g : Bool) (c v n : Int) (d : ByteArray) : Ev (fun k => impl_FramePut.f k p g c v n d) (frameS p g c v n d) := by
  unfold impl_FramePut.f
  refine Ev.bindc (implOk_at p g c v n d) ?_
  by_cases h : frameB p g c v n d = true
  · obtain ⟨hc, hv, hn, hd, hpg⟩ := frameB_range h
    obtain ⟨p0, p1⟩ := b2i_range p
    obtain ⟨g0, g1⟩ := b2i_range g
    obtain ⟨x, k1, k2⟩ := kind_at p g c v n d hpg
    refine Ev.iteT h (Ev.bindc k1 (Ev.bindc k2 ?_))
    have e1 : wrap64 (b2i p * 8192 + b2i g * 4096 + c) = b2i p * 8192 + b2i g * 4096 + c := wrap64_id (by omega) (by omega)
    have e2 : wrap64 (wrap64 (wrap64 (wrap64 (v * 1024) + (d.size : Int)) + 7) - 1) = v * 1024 + (d.size : Int) + 6 := by
      rw [wrap64_id (x := v * 1024) (by omega) (by omega), wrap64_id (x := v * 1024 + (d.size : Int)) (by omega) (by omega), wrap64_id (x := v * 1024 + (d.size : Int) + 7) (by omega) (by omega), wrap64_id (by omega) (by omega)]
      omega
    rw [e1, e2]
    refine Ev.bind (NumPut_in _ 2 (by omega) (by show _ < (65536 : Int); omega) (by omega) (by omega)) ?_
    refine Ev.bind (NumPut_in _ 2 (by omega) (by show _ < (65536 : Int); omega) (by omega) (by omega)) ?_
    refine Ev.iteT (by rw [bs_size, bs_size]; omega) ?_
    refine Ev.bind (NumPut_in n 1 (by omega) (by show _ < (256 : Int); omega) (by omega) (by omega)) ?_
    refine Ev.iteT (by rw [bs_size, bs_size, bs_size]; omega) ?_
    refine Ev.iteT (by rw [bs_size, bs_size, bs_size]; omega) ?_
    have hz := frameT_size p g c v n d
    have hl := crcN_lt (frameT p g c v n d)
    refine Ev.bindc (implCrc_at (frameT p g c v n d) (by omega)) ?_
    refine Ev.bind (NumPut_in _ 2 (by omega) (by show _ < (65536 : Int); omega) (by omega) (by omega)) ?_
    rw [Int.toNat_natCast]
    refine Ev.iteT (by rw [bs_size, bs_size, bs_size, bs_size]; omega) (Ev.eq (Ev.now _) ?_)
    unfold frameS
    rw [if_pos h]
    rfl
  · have e : frameS p g c v n d = ⟨#[]⟩ := by unfold frameS; rw [if_neg h]
    rw [e]
    exact Ev.iteF h (Ev.now _)
/-- What a frame's bytes, as a text begins, tell of its fields. -/
theorem frameS_tells {p g : Bool} {c v n : Int} {d t : ByteArray} {m : Nat} (h : frameS p g c v n d = t.extract 0 m) (hm : 0 < m) (hb : m ≤ t.size) : frameB p g c v n d = true ∧ num t 0 2 = b2i p * 8192 + b2i g * 4096 + c ∧ num t 2 2 = v * 1024 + (d.size : Int) + 6 ∧ num t 4 1 = n ∧ m = 7 + d.size := by
  have hz : (t.extract 0 m).size = m := by rw [ByteArray.size_extract]; omega
  by_cases hB : frameB p g c v n d = true
  · have hsz := frameS_size hB
    rw [h, hz] at hsz
    obtain ⟨hc, hv, hn, hd, _⟩ := frameB_range hB
    obtain ⟨p0, p1⟩ := b2i_range p
    obtain ⟨g0, g1⟩ := b2i_range g
    have e : t = frameS p g c v n d ++ t.extract m t.size := by
      rw [h]
      apply bytes_inj
      rw [bytesOf_append, bytesOf_extract, bytesOf_extract]
      have hl := bytesOf_length t
      generalize bytesOf t = l at hl
      rw [← hl, List.drop_zero, Nat.sub_zero, List.take_of_length_le (l := List.drop m l) (by rw [List.length_drop]; omega), List.take_append_drop]
    generalize t.extract m t.size = q at e
    unfold frameS at e
    rw [if_pos hB] at e
    generalize crcN (frameT p g c v n d) = y at e
    unfold frameT at e
    have e1 : t = (⟨#[]⟩ : ByteArray) ++ bs (b2i p * 8192 + b2i g * 4096 + c).toNat 2 ++ (bs (v * 1024 + (d.size : Int) + 6).toNat 2 ++ bs n.toNat 1 ++ d ++ bs y 2 ++ q) := by rw [e]; simp only [ByteArray.append_assoc, empty_append]
    have e2 : t = bs (b2i p * 8192 + b2i g * 4096 + c).toNat 2 ++ bs (v * 1024 + (d.size : Int) + 6).toNat 2 ++ (bs n.toNat 1 ++ d ++ bs y 2 ++ q) := by rw [e]; simp only [ByteArray.append_assoc]
    have e3 : t = (bs (b2i p * 8192 + b2i g * 4096 + c).toNat 2 ++ bs (v * 1024 + (d.size : Int) + 6).toNat 2) ++ bs n.toNat 1 ++ (d ++ bs y 2 ++ q) := by rw [e]; simp only [ByteArray.append_assoc]
    have m1 := num_at 2 _ (show (b2i p * 8192 + b2i g * 4096 + c).toNat < 256 ^ 2 by simp; omega) e1
    have m2 := num_at 2 _ (show (v * 1024 + (d.size : Int) + 6).toNat < 256 ^ 2 by simp; omega) e2
    have m3 := num_at 1 _ (show n.toNat < 256 ^ 1 by simp; omega) e3
    simp only [ByteArray.size_append, bs_size] at m2 m3
    refine ⟨hB, ?_, ?_, ?_, hsz⟩
    · rw [show (0 : Nat) = (⟨#[]⟩ : ByteArray).size from rfl, m1]; omega
    · rw [m2]; omega
    · rw [m3]; omega
  · unfold frameS at h
    rw [if_neg hB] at h
    rw [← h] at hz
    have : (⟨#[]⟩ : ByteArray).size = 0 := rfl
    omega
end Go.Proofs.Ytocmkmcjolbniaa.Frame
