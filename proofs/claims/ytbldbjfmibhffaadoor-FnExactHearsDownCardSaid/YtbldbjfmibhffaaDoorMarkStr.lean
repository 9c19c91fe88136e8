/- What the laws mark in lists of texts is held. No conditions. -/
import Derived.Test.YtbldbjfmibhffaaDoorPx10
import Derived.Test.YtbldbjfmibhffaaDoorPx11
import Derived.Test.YtbldbjfmibhffaaDoorText
namespace Go.Proofs.YtbldbjfmibhffaaDoor.Lists
open Go.RowKit Go.Proofs.YtbldbjfmibhffaaDoor.P Go.Proofs.YtbldbjfmibhffaaDoor.E Go.Proofs.YtbldbjfmibhffaaDoor.Num Go.Proofs.YtbldbjfmibhffaaDoorW.PrintWords
set_option linter.unusedSimpArgs false
set_option linter.unusedVariables false
theorem markText_loop : ∀ (n : Nat) (acc : ByteArray), acc.size + n ≤ 4000000000000 → ∃ t, ∀ k, n < k → laws_markText.l0 k (n : Int) acc = some t := by
  intro n
  induction n using Nat.strongRecOn with
  | ind n ih =>
    intro acc h
    by_cases h0 : n = 0
    · subst h0
      refine ⟨(⟨#[109]⟩ : ByteArray) ++ acc, fun k hk => ?_⟩
      obtain ⟨k, rfl⟩ : ∃ m, k = m + 1 := ⟨k - 1, by omega⟩
      rw [laws_markText.l0, if_neg (by omega), if_pos (by omega)]
    · have e1 : wrap64 (Int.tdiv (n : Int) 10) = ((n / 10 : Nat) : Int) := by rw [Int.tdiv_eq_ediv_of_nonneg (by omega), wrap64_id (by omega) (by omega)]; omega
      have hz : ∀ x : Int, (strOfNums [x] ++ acc).size = 1 + acc.size := fun x => by rw [ByteArray.size_append, strOfNums_size]; rfl
      have hz2 : ∀ x : Int, (strOfNums [x]).size = 1 := fun x => by rw [strOfNums_size]; rfl
      obtain ⟨t, ht⟩ := ih (n / 10) (by omega) (strOfNums [(wrap64 (48 + (Int.tmod (n : Int) 10))) % 256] ++ acc) (by rw [hz]; omega)
      refine ⟨t, fun k hk => ?_⟩
      obtain ⟨k, rfl⟩ : ∃ m, k = m + 1 := ⟨k - 1, by omega⟩
      rw [laws_markText.l0, if_pos (by omega)]
      show (if (strOfNums [(wrap64 (48 + (Int.tmod (n : Int) 10))) % 256]).size + acc.size ≤ 9223372036854775807 then laws_markText.l0 k (wrap64 (Int.tdiv (n : Int) 10)) (strOfNums [(wrap64 (48 + (Int.tmod (n : Int) 10))) % 256] ++ acc) else none) = some t
      rw [hz2, if_pos (by omega), e1]
      exact ht k (by omega)
theorem markText_some (m : Int) : ∃ t, 0 ≤ m → m ≤ 2000000000000 → ∀ k, 2000000000002 ≤ k → laws_markText.f k m = some t := by
  by_cases h : m ≤ 0
  · exact ⟨(⟨#[109, 48]⟩ : ByteArray), fun _ _ k _ => by unfold laws_markText.f; rw [if_pos h]⟩
  · by_cases h2 : m ≤ 2000000000000
    · obtain ⟨t, ht⟩ := markText_loop m.toNat ⟨#[]⟩ (by show 0 + m.toNat ≤ _; omega)
      refine ⟨t, fun _ _ k hk => ?_⟩
      unfold laws_markText.f
      rw [if_neg h]
      have := ht k (by omega)
      rwa [show ((m.toNat : Nat) : Int) = m by omega] at this
    · exact ⟨⟨#[]⟩, fun _ h3 => absurd h3 h2⟩
/-- The text that marks with a number. -/
noncomputable def mt (m : Int) : ByteArray := Classical.choose (markText_some m)
theorem mt_at {m : Int} (h0 : 0 ≤ m) (h1 : m ≤ 2000000000000) : ∀ k, 2000000000002 ≤ k → laws_markText.f k m = some (mt m) := Classical.choose_spec (markText_some m) h0 h1
theorem mt_ev {m : Int} (h0 : 0 ≤ m) (h1 : m ≤ 2000000000000) : Ev (fun k => laws_markText.f k m) (mt m) := ⟨2000000000002, fun k hk => mt_at h0 h1 k hk⟩
noncomputable def mkStr (m : Int) (n : Nat) : List ByteArray := (List.range n).map fun (j : Nat) => mt (m + (j : Int))
theorem mkStr_length (m : Int) (n : Nat) : (mkStr m n).length = n := by simp [mkStr]
theorem markStringS_ev (l : List ByteArray) (m : Int) (h0 : 0 ≤ m) (h1 : m ≤ 1000000000000) (hl : l.length ≤ 1048577) : Ev (fun k => laws_markStringS.f k l m) (m + l.length, mkStr m l.length) := by
  unfold laws_markStringS.f
  have := Ev.loop (L := fun k (s : List ByteArray × Int × Int) => laws_markStringS.l0 k s.1 s.2.1 s.2.2) (r := (m + (l.length : Int), mkStr m l.length)) (fun i => (mkStr m i ++ l.drop i, m + (i : Int), (i : Int))) l.length 2000000000002 (fun i hi k hk => ?_) (fun k _ => ?_)
  · simpa [mkStr] using this
  · show laws_markStringS.l0 (k + 1) (mkStr m i ++ l.drop i) (m + (i : Int)) (i : Int) = laws_markStringS.l0 k (mkStr m (i + 1) ++ l.drop (i + 1)) (m + ((i + 1 : Nat) : Int)) ((i + 1 : Nat) : Int)
    rw [laws_markStringS.l0, if_pos (by simp [mkStr_length]; omega), mt_at (by omega) (by omega) k hk, Option.bind_some, if_pos (by omega), wrap_succ (by omega), wrap64_id (by omega) (by omega)]
    congr 1
    · rw [toNat_cast, List.set_append_right _ _ (by rw [mkStr_length]; exact Nat.le_refl _), mkStr_length, Nat.sub_self, List.drop_eq_getElem_cons hi, List.set_cons_zero]
      unfold mkStr
      rw [List.range_succ, List.map_append, List.append_assoc]
      rfl
    · omega
  · show laws_markStringS.l0 (k + 1) (mkStr m l.length ++ l.drop l.length) (m + (l.length : Int)) (l.length : Int) = _
    rw [laws_markStringS.l0, if_neg (by simp [mkStr_length]), List.drop_length, List.append_nil]
theorem heldStringS_ev (n : Nat) (m : Int) (h0 : 0 ≤ m) (h1 : m ≤ 1000000000000) (hl : n ≤ 1048577) : Ev (fun k => laws_heldStringS.f k (mkStr m n) m) (m + n) := by
  unfold laws_heldStringS.f
  have := Ev.loop (L := fun k (s : Int × Int) => laws_heldStringS.l0 k (mkStr m n) s.1 s.2) (r := m + (n : Int)) (fun i => (m + (i : Int), (i : Int))) n 2000000000002 (fun i hi k hk => ?_) (fun k _ => ?_)
  · simpa using this
  · show laws_heldStringS.l0 (k + 1) (mkStr m n) (m + (i : Int)) (i : Int) = laws_heldStringS.l0 k (mkStr m n) (m + ((i + 1 : Nat) : Int)) ((i + 1 : Nat) : Int)
    have hr : rdOf ByteArray.empty (mkStr m n) (i : Int) = mt (m + i) := by simp [rdOf, mkStr, List.getD, hi]
    rw [laws_heldStringS.l0, if_pos (by rw [mkStr_length]; omega), if_pos (by omega), mt_at (by omega) (by omega) k hk, Option.bind_some, hr, if_pos rfl, wrap_succ (by omega), wrap64_id (by omega) (by omega)]
    congr 1
    omega
  · show laws_heldStringS.l0 (k + 1) (mkStr m n) (m + (n : Int)) (n : Int) = _
    rw [laws_heldStringS.l0, if_neg (by rw [mkStr_length]; omega)]
end Go.Proofs.YtbldbjfmibhffaaDoor.Lists
