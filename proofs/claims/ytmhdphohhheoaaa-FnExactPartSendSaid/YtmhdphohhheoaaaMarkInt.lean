/- What the laws mark in lists of numbers is held. No conditions. -/
import Derived.Test.YtmhdphohhheoaaaPx17
import Derived.Test.YtmhdphohhheoaaaEv
namespace Go.Proofs.Ytmhdphohhheoaaa.Lists
open Go.RowKit Go.Proofs.Ytmhdphohhheoaaa.P Go.Proofs.Ytmhdphohhheoaaa.E Go.Proofs.YtmhdphohhheoaaaW.PrintWords
set_option linter.unusedSimpArgs false
set_option linter.unusedVariables false

def mkInt (k : Int) (n : Nat) : List Int := (List.range n).map fun (j : Nat) => k + (j : Int)
theorem mkInt_length (k : Int) (n : Nat) : (mkInt k n).length = n := by simp [mkInt]
theorem markIntS_ev (l : List Int) (m : Int) (h0 : 0 ≤ m) (h1 : m ≤ 1000000000000) (hl : l.length ≤ 1048576) : Ev (fun k => laws_markIntS.f k l m) (m + l.length, mkInt m l.length) := by
  unfold laws_markIntS.f
  have := Ev.loop (L := fun k (s : List Int × Int × Int) => laws_markIntS.l0 k s.1 s.2.1 s.2.2) (r := (m + (l.length : Int), mkInt m l.length)) (fun i => (mkInt m i ++ l.drop i, m + (i : Int), (i : Int))) l.length 0 (fun i hi k _ => ?_) (fun k _ => ?_)
  · simpa [mkInt] using this
  · show laws_markIntS.l0 (k + 1) (mkInt m i ++ l.drop i) (m + (i : Int)) (i : Int) = laws_markIntS.l0 k (mkInt m (i + 1) ++ l.drop (i + 1)) (m + ((i + 1 : Nat) : Int)) ((i + 1 : Nat) : Int)
    rw [laws_markIntS.l0, if_pos (by simp [mkInt_length]; omega), if_pos (by omega), wrap_succ (by omega), wrap64_id (by omega) (by omega)]
    congr 1
    · rw [toNat_cast, List.set_append_right _ _ (by rw [mkInt_length]; exact Nat.le_refl _), mkInt_length, Nat.sub_self, List.drop_eq_getElem_cons hi, List.set_cons_zero]
      unfold mkInt
      rw [List.range_succ, List.map_append, List.append_assoc]
      rfl
    · omega
  · show laws_markIntS.l0 (k + 1) (mkInt m l.length ++ l.drop l.length) (m + (l.length : Int)) (l.length : Int) = _
    rw [laws_markIntS.l0, if_neg (by simp [mkInt_length]), List.drop_length, List.append_nil]
theorem heldIntS_ev (n : Nat) (m : Int) (h0 : 0 ≤ m) (h1 : m ≤ 1000000000000) (hl : n ≤ 1048576) : Ev (fun k => laws_heldIntS.f k (mkInt m n) m) (m + n) := by
  unfold laws_heldIntS.f
  have := Ev.loop (L := fun k (s : Int × Int) => laws_heldIntS.l0 k (mkInt m n) s.1 s.2) (r := m + (n : Int)) (fun i => (m + (i : Int), (i : Int))) n 0 (fun i hi k _ => ?_) (fun k _ => ?_)
  · simpa using this
  · show laws_heldIntS.l0 (k + 1) (mkInt m n) (m + (i : Int)) (i : Int) = laws_heldIntS.l0 k (mkInt m n) (m + ((i + 1 : Nat) : Int)) ((i + 1 : Nat) : Int)
    have hr : rd (mkInt m n) (i : Int) = m + i := by simp [rd, mkInt, List.getD, hi]
    rw [laws_heldIntS.l0, if_pos (by rw [mkInt_length]; omega), if_pos (by omega), if_pos hr, wrap_succ (by omega), wrap64_id (by omega) (by omega)]
    congr 1
    omega
  · show laws_heldIntS.l0 (k + 1) (mkInt m n) (m + (n : Int)) (n : Int) = _
    rw [laws_heldIntS.l0, if_neg (by rw [mkInt_length]; omega)]
end Go.Proofs.Ytmhdphohhheoaaa.Lists
