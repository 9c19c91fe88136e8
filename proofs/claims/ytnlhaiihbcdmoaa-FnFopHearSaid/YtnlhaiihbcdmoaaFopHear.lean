/- Who sends frames hears how the other end stands, in plain Lean: the program's and the reference's are one. No conditions. -/
import Derived.Test.YtnlhaiihbcdmoaaPx5
import Derived.Test.YtnlhaiihbcdmoaaPx6
import Derived.Test.YtnlhaiihbcdmoaaPx11
import Derived.Test.YtnlhaiihbcdmoaaFop
namespace Go.Proofs.Ytnlhaiihbcdmoaa.Fop
open Go.RowKit Go.Proofs.Ytnlhaiihbcdmoaa.P Go.Proofs.Ytnlhaiihbcdmoaa.E Go.Proofs.Ytnlhaiihbcdmoaa.Num Go.Proofs.Ytnlhaiihbcdmoaa.In Go.Proofs.Ytnlhaiihbcdmoaa.Lists Go.Proofs.YtnlhaiihbcdmoaaW.PrintWords
set_option linter.unusedSimpArgs false
set_option linter.unusedVariables false
def farmB (w a : Bool) (c n : Int) : Bool := inB c 0 3 && (inB n 0 255 && (a || !w))
theorem farmB_range {w a : Bool} {c n : Int} (h : farmB w a c n = true) : 0 ≤ n ∧ n ≤ 255 := by
  unfold farmB at h
  simp only [Bool.and_eq_true, inB_true] at h
  omega
theorem specFarm_at (s w a : Bool) (c n : Int) : spec_FarmOk.f s w a c n = some (farmB w a c n) := by
  unfold spec_FarmOk.f farmB
  rw [l1In_at, l1In_at]
  cases inB c 0 3 <;> cases inB n 0 255 <;> cases w <;> cases a <;> rfl
theorem implFarm_at (s w a : Bool) (c n : Int) : impl_FarmOk.f s w a c n = some (farmB w a c n) := by
  unfold impl_FarmOk.f farmB
  rw [within_at, within_at]
  cases inB c 0 3 <;> cases inB n 0 255 <;> cases w <;> cases a <;> rfl
def firstN (n : Int) (l : List ByteArray) : Int := (n - (l.length : Int) + 256) % 256
def ansN (n : Int) (l : List ByteArray) (x : Int) : Int := (x - firstN n l + 256) % 256
abbrev HearR := Int × Int × Int × List ByteArray × Bool × Bool
def hearR (c v n : Int) (l : List ByteArray) (s xs xw xa : Bool) (xc xn : Int) : HearR :=
  if fopB c v n l = true then (if farmB xw xa xc xn = true ∧ ansN n l xn ≤ (l.length : Int) then (c, v, n, l.drop (ansN n l xn).toNat, xs, true) else (c, v, n, l, s, false)) else (0, 0, 0, [], false, false)
theorem hearR_no {c v n : Int} {l : List ByteArray} {s xs xw xa : Bool} {xc xn : Int} (h : ¬ fopB c v n l = true) : hearR c v n l s xs xw xa xc xn = (0, 0, 0, [], false, false) := by unfold hearR; rw [if_neg h]
theorem hearR_yes {c v n : Int} {l : List ByteArray} {s xs xw xa : Bool} {xc xn : Int} (h : fopB c v n l = true) (h2 : farmB xw xa xc xn = true) (h3 : ansN n l xn ≤ (l.length : Int)) : hearR c v n l s xs xw xa xc xn = (c, v, n, l.drop (ansN n l xn).toNat, xs, true) := by unfold hearR; rw [if_pos h, if_pos ⟨h2, h3⟩]
theorem hearR_keep {c v n : Int} {l : List ByteArray} {s xs xw xa : Bool} {xc xn : Int} (h : fopB c v n l = true) (h2 : ¬ (farmB xw xa xc xn = true ∧ ansN n l xn ≤ (l.length : Int))) : hearR c v n l s xs xw xa xc xn = (c, v, n, l, s, false) := by unfold hearR; rw [if_pos h, if_neg h2]
theorem first_at (c v n : Int) (l : List ByteArray) (s : Bool) (h : fopB c v n l = true) : Ev (fun k => impl_FopFirst.f k c v n l s) (firstN n l) := by
  obtain ⟨⟨n0, n1⟩, hl⟩ := fopB_range h
  unfold impl_FopFirst.f
  refine Ev.bind (implOk_ev c v n l s (by omega)) (Ev.iteT h ?_)
  rw [wrap64_id (by omega) (by omega)]
  exact Ev.bindc (plus_at n (-(l.length : Int)) n0 n1 (by omega) (by omega)) (Ev.now _)
theorem implHear_ev (c v n : Int) (l : List ByteArray) (s xs xw xa : Bool) (xc xn : Int) (hl : l.length ≤ 1048577) : Ev (fun k => impl_FopHear.f k c v n l s xs xw xa xc xn) (hearR c v n l s xs xw xa xc xn) := by
  unfold impl_FopHear.f
  refine Ev.bind (implOk_ev c v n l s hl) ?_
  have cp : impl_FopHear.c c v n l s = some (c, v, n, l, s, false) := by unfold impl_FopHear.c; rw [implCopy_at c v n l s hl]; rfl
  by_cases h : fopB c v n l = true
  · refine Ev.iteT h (Ev.bindc (implFarm_at _ _ _ _ _) ?_)
    obtain ⟨⟨n0, n1⟩, h4⟩ := fopB_range h
    by_cases h2 : farmB xw xa xc xn = true
    · obtain ⟨x0, x1⟩ := farmB_range h2
      have f0 : 0 ≤ firstN n l ∧ firstN n l ≤ 255 := by unfold firstN; omega
      have eb : impl_goesRound_behind.f xn (firstN n l) = some (ansN n l xn) := by
        unfold impl_goesRound_behind.f
        rw [wrap64_id (by omega) (by omega), plus_at xn (-(firstN n l)) x0 x1 (by omega) (by omega)]
        rfl
      refine Ev.iteT h2 (Ev.bind (first_at c v n l s h) (Ev.bindc eb ?_))
      have a0 : 0 ≤ ansN n l xn := by unfold ansN; omega
      by_cases h3 : ansN n l xn ≤ (l.length : Int)
      · rw [hearR_yes h h2 h3]
        exact Ev.iteF (by omega) (Ev.iteT ⟨by omega, a0⟩ (Ev.now _))
      · rw [hearR_keep h (fun x => h3 x.2)]
        exact Ev.iteT (by omega) (Ev.const cp)
    · rw [hearR_keep h (fun x => h2 x.1)]
      exact Ev.iteF h2 (Ev.const cp)
  · rw [hearR_no h]
    exact Ev.iteF h (Ev.now _)
theorem specHear_ev (c v n : Int) (l : List ByteArray) (s xs xw xa : Bool) (xc xn : Int) (hl : l.length ≤ 1048577) : Ev (fun k => spec_FopHear.f k c v n l s xs xw xa xc xn) (hearR c v n l s xs xw xa xc xn) := by
  unfold spec_FopHear.f
  refine Ev.bind (specOk_ev c v n l s hl) ?_
  by_cases h : fopB c v n l = true
  · refine Ev.iteT h (Ev.bindc (specCopy_at c v n l s hl) (Ev.bindc (specFarm_at _ _ _ _ _) ?_))
    obtain ⟨⟨n0, n1⟩, h4⟩ := fopB_range h
    by_cases h2 : farmB xw xa xc xn = true
    · obtain ⟨x0, x1⟩ := farmB_range h2
      have f0 : 0 ≤ firstN n l ∧ firstN n l ≤ 255 := by unfold firstN; omega
      have e1 : spec_l5First.f c v n l s = some (firstN n l) := by
        unfold spec_l5First.f
        rw [wrap64_id (by omega) (by omega), mod_at _ (by omega) (by omega), Option.bind_some]
        congr 1
        unfold firstN
        omega
      have e2 : spec_l4Mod.f (wrap64 (xn - firstN n l)) = some (ansN n l xn) := by
        rw [wrap64_id (by omega) (by omega), mod_at _ (by omega) (by omega)]
        congr 1
        unfold ansN
        omega
      refine Ev.iteT h2 (Ev.bindc e1 (Ev.bindc e2 ?_))
      have a0 : 0 ≤ ansN n l xn := by unfold ansN; omega
      by_cases h3 : ansN n l xn ≤ (l.length : Int)
      · rw [hearR_yes h h2 h3]
        refine Ev.iteF (by omega) (Ev.bindc (x := ([] : List ByteArray)) rfl (Ev.iteT a0 (Ev.iteT h3 (Ev.iteT (by rw [List.length_drop]; simp; omega) (Ev.now _)))))
      · rw [hearR_keep h (fun x => h3 x.2)]
        exact Ev.iteT (by omega) (Ev.now _)
    · rw [hearR_keep h (fun x => h2 x.1)]
      exact Ev.iteF h2 (Ev.now _)
  · rw [hearR_no h]
    exact Ev.iteF h (Ev.now _)
theorem hearR_short (c v n : Int) (l : List ByteArray) (s xs xw xa : Bool) (xc xn : Int) : (hearR c v n l s xs xw xa xc xn).2.2.2.1.length ≤ l.length := by
  unfold hearR
  split
  · split
    · show (l.drop _).length ≤ _
      rw [List.length_drop]; omega
    · exact Nat.le_refl _
  · exact Nat.zero_le _
end Go.Proofs.Ytnlhaiihbcdmoaa.Fop
