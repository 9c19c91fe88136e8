/- What the laws mark in lists of ops is held. No conditions. -/
import Derived.Test.YtmhdphohhheoaaaPx17
import Derived.Test.YtmhdphohhheoaaaEv
namespace Go.Proofs.Ytmhdphohhheoaaa.Lists
open Go.RowKit Go.Proofs.Ytmhdphohhheoaaa.P Go.Proofs.Ytmhdphohhheoaaa.E Go.Proofs.YtmhdphohhheoaaaW.PrintWords
set_option linter.unusedSimpArgs false
set_option linter.unusedVariables false

def mkOp (k : Int) (n : Nat) : List S53 := (List.range n).map fun (j : Nat) => ⟨k + 3 * (j : Int), k + 3 * (j : Int) + 1, k + 3 * (j : Int) + 2⟩
theorem mkOp_length (k : Int) (n : Nat) : (mkOp k n).length = n := by simp [mkOp]
theorem markOpS_ev (l : List S53) (m : Int) (h0 : 0 ≤ m) (h1 : m ≤ 1000000000000) (hl : l.length ≤ 1048576) : Ev (fun k => laws_markOpS.f k l m) (m + 3 * l.length, mkOp m l.length) := by
  unfold laws_markOpS.f
  have := Ev.loop (L := fun k (s : List S53 × Int × Int) => laws_markOpS.l0 k s.1 s.2.1 s.2.2) (r := (m + 3 * (l.length : Int), mkOp m l.length)) (fun i => (mkOp m i ++ l.drop i, m + 3 * (i : Int), (i : Int))) l.length 0 (fun i hi k _ => ?_) (fun k _ => ?_)
  · simpa [mkOp] using this
  · show laws_markOpS.l0 (k + 1) (mkOp m i ++ l.drop i) (m + 3 * (i : Int)) (i : Int) = laws_markOpS.l0 k (mkOp m (i + 1) ++ l.drop (i + 1)) (m + 3 * ((i + 1 : Nat) : Int)) ((i + 1 : Nat) : Int)
    have hlen : (mkOp m i ++ l.drop i).length = l.length := by simp [mkOp_length]; omega
    have hset : ∀ x : S53, (mkOp m i ++ l.drop i).set i x = mkOp m i ++ x :: l.drop (i + 1) := fun x => by
      rw [List.set_append_right _ _ (by rw [mkOp_length]; exact Nat.le_refl _), mkOp_length, Nat.sub_self, List.drop_eq_getElem_cons hi, List.set_cons_zero]
    have hset2 : ∀ x y : S53, (mkOp m i ++ y :: l.drop (i + 1)).set i x = mkOp m i ++ x :: l.drop (i + 1) := fun x y => by
      rw [List.set_append_right _ _ (by rw [mkOp_length]; exact Nat.le_refl _), mkOp_length, Nat.sub_self, List.set_cons_zero]
    have hrd : ∀ y : S53, rd_T53 (mkOp m i ++ y :: l.drop (i + 1)) (i : Int) = y := fun y => by
      simp [rd_T53, List.getD, List.getElem?_append_right, mkOp_length]
    have w1 : wrap64 (m + 3 * (i : Int) + 1) = m + 3 * (i : Int) + 1 := wrap64_id (by omega) (by omega)
    have w2 : wrap64 (m + 3 * (i : Int) + 1 + 1) = m + 3 * (i : Int) + 2 := by rw [wrap64_id (by omega) (by omega)]; omega
    have w3 : wrap64 (m + 3 * (i : Int) + 2 + 1) = m + 3 * ((i + 1 : Nat) : Int) := by rw [wrap64_id (by omega) (by omega)]; omega
    rw [laws_markOpS.l0, if_pos (by rw [hlen]; omega), if_pos (by omega)]
    simp only [Option.bind_some, toNat_cast, hset, hset2, hrd, w1, w2, w3, wrap_succ (show i < 9223372036854775807 by omega)]
    congr 1
    unfold mkOp
    rw [List.range_succ, List.map_append, List.append_assoc]
    rfl
  · show laws_markOpS.l0 (k + 1) (mkOp m l.length ++ l.drop l.length) (m + 3 * (l.length : Int)) (l.length : Int) = _
    rw [laws_markOpS.l0, if_neg (by simp [mkOp_length]), List.drop_length, List.append_nil]
theorem heldOpS_ev (n : Nat) (m : Int) (h0 : 0 ≤ m) (h1 : m ≤ 1000000000000) (hl : n ≤ 1048576) : Ev (fun k => laws_heldOpS.f k (mkOp m n) m) (m + 3 * n) := by
  unfold laws_heldOpS.f
  have := Ev.loop (L := fun k (s : Int × Int) => laws_heldOpS.l0 k (mkOp m n) s.1 s.2) (r := m + 3 * (n : Int)) (fun i => (m + 3 * (i : Int), (i : Int))) n 0 (fun i hi k _ => ?_) (fun k _ => ?_)
  · simpa using this
  · show laws_heldOpS.l0 (k + 1) (mkOp m n) (m + 3 * (i : Int)) (i : Int) = laws_heldOpS.l0 k (mkOp m n) (m + 3 * ((i + 1 : Nat) : Int)) ((i + 1 : Nat) : Int)
    have hr : rd_T53 (mkOp m n) (i : Int) = ⟨m + 3 * (i : Int), m + 3 * (i : Int) + 1, m + 3 * (i : Int) + 2⟩ := by simp [rd_T53, mkOp, List.getD, hi]
    have w1 : wrap64 (m + 3 * (i : Int) + 1) = m + 3 * (i : Int) + 1 := wrap64_id (by omega) (by omega)
    have w2 : wrap64 (m + 3 * (i : Int) + 1 + 1) = m + 3 * (i : Int) + 2 := by rw [wrap64_id (by omega) (by omega)]; omega
    have w3 : wrap64 (m + 3 * (i : Int) + 2 + 1) = m + 3 * ((i + 1 : Nat) : Int) := by rw [wrap64_id (by omega) (by omega)]; omega
    rw [laws_heldOpS.l0, if_pos (by rw [mkOp_length]; omega), if_pos (by omega), hr]
    simp only [w1, w2, w3, if_true, wrap_succ (show i < 9223372036854775807 by omega)]
  · show laws_heldOpS.l0 (k + 1) (mkOp m n) (m + 3 * (n : Int)) (n : Int) = _
    rw [laws_heldOpS.l0, if_neg (by rw [mkOp_length]; omega)]
end Go.Proofs.Ytmhdphohhheoaaa.Lists
