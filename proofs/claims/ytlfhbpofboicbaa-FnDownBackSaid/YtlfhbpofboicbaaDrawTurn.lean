/- A turned text, in plain Lean: the draw answers, and what it answers is as long. No conditions. -/
import Derived.Test.YtlfhbpofboicbaaPx10
import Derived.Test.YtlfhbpofboicbaaDrawTxt
namespace Go.Proofs.Ytlfhbpofboicbaa.Draw
open Go.RowKit Go.Proofs.Ytlfhbpofboicbaa.P Go.Proofs.Ytlfhbpofboicbaa.E Go.Proofs.Ytlfhbpofboicbaa.Num Go.Proofs.YtlfhbpofboicbaaW.PrintWords
set_option linter.unusedSimpArgs false
set_option linter.unusedVariables false
theorem spoil_size (s : ByteArray) (n : Int) : (spoilS s n).size = s.size := by
  unfold spoilS
  rw [strOfNums_size, List.length_set, bytesOf_length]
theorem turn_ev {b : List Int} {p : Int} (h : Bytes b) (hp : 0 ≤ p) (hp2 : p < 1099511000000) (t : ByteArray) (ht : t.size ≤ 100000) :
    ∃ t' p', Ev (fun k => spec_l15Turn.f k b p t) (t', p') ∧ t'.size = t.size ∧ p ≤ p' ∧ p' ≤ p + 3 := by
  unfold spec_l15Turn.f
  by_cases h0 : t.toList = ([] : List UInt8)
  · exact ⟨_, _, Ev.iteT h0 (Ev.now _), rfl, by omega, by omega⟩
  · obtain ⟨v1, e1, a1, b1⟩ := pick_ev h hp (by omega) 256
    obtain ⟨v2, e2, a2, b2⟩ := pick_ev h (show 0 ≤ p + 1 by omega) (by omega) 16
    obtain ⟨v3, e3, a3, b3⟩ := pick_ev h (show 0 ≤ p + 1 + 1 by omega) (by omega) 127
    have c1 := b1 (by omega)
    have c2 := b2 (by omega)
    have c3 := b3 (by omega)
    have hz : 0 < t.size := by
      rcases Nat.eq_zero_or_pos t.size with hz | hz
      · exact absurd (by rw [ByteArray.toList_eq]; exact Array.toList_eq_nil_iff.2 (Array.eq_empty_of_size_eq_zero hz)) h0
      · exact hz
    have ew : wrap64 (wrap64 (v1 + wrap64 (v2 * 256)) + wrap64 (v3 * 4096)) = v1 + v2 * 256 + v3 * 4096 := by
      rw [wrap64_id (x := v2 * 256) (by omega) (by omega), wrap64_id (x := v3 * 4096) (by omega) (by omega), wrap64_id (x := v1 + v2 * 256) (by omega) (by omega), wrap64_id (by omega) (by omega)]
    have es : spec_l14Spoil.f t (v1 + v2 * 256 + v3 * 4096) = some (spoilS t (v1 + v2 * 256 + v3 * 4096), true) := by
      unfold spec_l14Spoil.f
      rw [if_pos (by omega)]
    refine ⟨_, _, Ev.iteF h0 (Ev.bind e1 (Ev.bind e2 (Ev.bind e3 ?_))), spoil_size t (v1 + v2 * 256 + v3 * 4096), by omega, show p + 1 + 1 + 1 ≤ p + 3 by omega⟩
    rw [ew]
    exact Ev.bindc es (Ev.now _)
end Go.Proofs.Ytlfhbpofboicbaa.Draw
