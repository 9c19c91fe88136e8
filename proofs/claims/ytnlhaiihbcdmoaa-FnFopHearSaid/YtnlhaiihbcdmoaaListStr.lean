/- Plain facts on the laws' helpers over lists of texts: copies are the list, equal is equal. No conditions. -/
import Derived.Test.YtnlhaiihbcdmoaaPx12
import Derived.Test.YtnlhaiihbcdmoaaText
namespace Go.Proofs.Ytnlhaiihbcdmoaa.Lists
open Go.RowKit Go.Proofs.Ytnlhaiihbcdmoaa.P Go.Proofs.Ytnlhaiihbcdmoaa.E Go.Proofs.Ytnlhaiihbcdmoaa.Num Go.Proofs.YtnlhaiihbcdmoaaW.PrintWords
set_option linter.unusedSimpArgs false
set_option linter.unusedVariables false
/-- All texts are short. -/
def Short (l : List ByteArray) : Prop := l.length ≤ 1048576 ∧ ∀ s ∈ l, s.size ≤ 1048576
theorem szStr_loop (l : List ByteArray) (hl : l.length ≤ 9223372036854775806) (hs : ∀ s ∈ l, s.size ≤ 9223372036854775807) : ∀ (d i : Nat) (m : Int), i + d = l.length → 0 ≤ m → m ≤ 1048576 →
    ∃ r, Ev (fun k => laws_szStringS.l0 k l m (i : Int)) r ∧ r ≤ m ∧ (0 ≤ r → ∀ s ∈ l.drop i, s.size ≤ 1048576) := by
  intro d
  induction d with
  | zero =>
    intro i m hi h0 h1
    refine ⟨m, Ev.step (fun k => by rw [laws_szStringS.l0]) (Ev.iteF (by omega) (Ev.now _)), by omega, fun _ s h => ?_⟩
    rw [List.drop_of_length_le (by omega)] at h
    cases h
  | succ d ih =>
    intro i m hi h0 h1
    have hlt : i < l.length := by omega
    have hx : rdOf ByteArray.empty l (i : Int) = l[i] := by unfold rdOf; rw [Int.toNat_natCast, List.getD_eq_getElem?_getD, List.getElem?_eq_getElem hlt]; rfl
    have hb := hs l[i] (List.getElem_mem hlt)
    by_cases h : m - (l[i].size : Int) < 0
    · refine ⟨-1, Ev.step (fun k => by rw [laws_szStringS.l0]) (Ev.iteT (by omega) (Ev.iteT (by omega) ?_)), by omega, fun h => absurd h (by omega)⟩
      rw [hx, wrap64_id (x := m - (l[i].size : Int)) (by omega) (by omega)]
      exact Ev.iteT h (Ev.now _)
    · obtain ⟨r, er, hr, hs2⟩ := ih (i + 1) (m - (l[i].size : Int)) (by omega) (by omega) (by omega)
      refine ⟨r, Ev.step (fun k => by rw [laws_szStringS.l0]) (Ev.iteT (by omega) (Ev.iteT (by omega) ?_)), by omega, fun h2 s hm => ?_⟩
      · rw [hx, wrap64_id (x := m - (l[i].size : Int)) (by omega) (by omega), wrap_succ (by omega)]
        exact Ev.iteF h er
      · rw [List.drop_eq_getElem_cons hlt] at hm
        rcases List.mem_cons.1 hm with rfl | hm
        · omega
        · exact hs2 h2 s hm
theorem szStringS_ev (l : List ByteArray) (m : Int) (h0 : 0 ≤ m) (h1 : m ≤ 1048576) (hl : l.length ≤ 9223372036854775806) (hs : ∀ s ∈ l, s.size ≤ 9223372036854775807) :
    ∃ r, Ev (fun k => laws_szStringS.f k l m) r ∧ r ≤ m ∧ (0 ≤ r → Short l) := by
  unfold laws_szStringS.f
  rw [wrap64_id (x := m - (l.length : Int)) (by omega) (by omega)]
  by_cases h : m - (l.length : Int) < 0
  · exact ⟨-1, Ev.iteT h (Ev.now _), by omega, fun h => absurd h (by omega)⟩
  · obtain ⟨r, er, hr, hs2⟩ := szStr_loop l hl hs l.length 0 (m - l.length) (by omega) (by omega) (by omega)
    exact ⟨r, Ev.iteF h er, by omega, fun h2 => ⟨by omega, by simpa using hs2 h2⟩⟩
theorem toStringS_ev (l : List ByteArray) (hl : l.length ≤ 1048576) : Ev (fun k => laws_toStringS.f k l) l := by
  unfold laws_toStringS.f
  refine Ev.iteT (by omega) (Ev.iteT (by simp; omega) ?_)
  refine Ev.eq (Ev.fill (L := fun k ys i => laws_toStringS.l0 k l ys i) l.length 0 (fun i => l.getD i ByteArray.empty) _ (by simp) (fun i hi k _ zs hz => ?_) (fun k _ zs hz => ?_)) ?_
  · show laws_toStringS.l0 (k + 1) l zs i = _
    rw [laws_toStringS.l0, if_pos (by omega), if_pos (by omega), if_pos (by omega), wrap_succ (by omega)]
    simp [rdOf]
  · show laws_toStringS.l0 (k + 1) l zs l.length = _
    rw [laws_toStringS.l0, if_neg (by omega)]
  · simpa using map_range_getD l ByteArray.empty id
theorem eqStringS_ev (a b : List ByteArray) (hl : a.length ≤ 9223372036854775806) : Ev (fun k => laws_eqStringS.f k a b) (decide (a = b)) := by
  unfold laws_eqStringS.f
  by_cases h : a.length = b.length
  · refine Ev.iteT (by omega) ?_
    refine Ev.eq (Ev.all (L := fun k i => laws_eqStringS.l0 k a b i) a.length 0 (fun i => decide (a.getD i ByteArray.empty = b.getD i ByteArray.empty)) (b := true) (fun i hi k _ => ?_) (fun k _ => ?_)) ?_
    · show laws_eqStringS.l0 (k + 1) a b i = _
      rw [laws_eqStringS.l0, if_pos (by omega), if_pos (by omega), if_pos (by omega), wrap_succ (by omega)]
      simp [rdOf, str_eq]
    · show laws_eqStringS.l0 (k + 1) a b a.length = _
      rw [laws_eqStringS.l0, if_neg (by omega)]
    · rw [all_eq a b ByteArray.empty h, Bool.and_true]
  · refine Ev.iteF (by omega) (Ev.eq (Ev.now false) ?_)
    rw [eq_comm, decide_eq_false_iff_not]
    rintro rfl
    exact h rfl
end Go.Proofs.Ytnlhaiihbcdmoaa.Lists
