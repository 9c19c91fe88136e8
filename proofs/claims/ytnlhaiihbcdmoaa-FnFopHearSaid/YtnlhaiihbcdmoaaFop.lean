/- Who sends frames in order, in plain Lean: what is ok, what is first, copies. No conditions. -/
import Derived.Test.YtnlhaiihbcdmoaaPx3
import Derived.Test.YtnlhaiihbcdmoaaPx4
import Derived.Test.YtnlhaiihbcdmoaaPx5
import Derived.Test.YtnlhaiihbcdmoaaPx12
import Derived.Test.YtnlhaiihbcdmoaaInB
import Derived.Test.YtnlhaiihbcdmoaaListStr
namespace Go.Proofs.Ytnlhaiihbcdmoaa.Fop
open Go.RowKit Go.Proofs.Ytnlhaiihbcdmoaa.P Go.Proofs.Ytnlhaiihbcdmoaa.E Go.Proofs.Ytnlhaiihbcdmoaa.Num Go.Proofs.Ytnlhaiihbcdmoaa.In Go.Proofs.Ytnlhaiihbcdmoaa.Lists Go.Proofs.YtnlhaiihbcdmoaaW.PrintWords
set_option linter.unusedSimpArgs false
set_option linter.unusedVariables false
def textB (s : ByteArray) : Bool := inB (s.size : Int) 1 53
def fopB (c v n : Int) (l : List ByteArray) : Bool := inB c 0 1023 && (inB v 0 63 && (inB n 0 255 && (decide ((l.length : Int) ≤ 4) && l.all textB)))
theorem fopB_range {c v n : Int} {l : List ByteArray} (h : fopB c v n l = true) : (0 ≤ n ∧ n ≤ 255) ∧ l.length ≤ 4 := by
  unfold fopB at h
  simp only [Bool.and_eq_true, inB_true, decide_eq_true_eq] at h
  omega
theorem dataOk_at (d : ByteArray) : impl_frameDataOk.f d = some (textB d) := by
  unfold impl_frameDataOk.f textB inB
  by_cases h : (d.size : Int) ≥ 1
  · rw [if_pos h, decide_eq_true (show (1 : Int) ≤ d.size from h), Bool.true_and]
  · rw [if_neg h, decide_eq_false (show ¬ (1 : Int) ≤ d.size from h), Bool.false_and]
theorem rdS {l : List ByteArray} {i : Nat} (hi : i < l.length) : rdOf ByteArray.empty l (i : Int) = l[i] := by unfold rdOf; rw [Int.toNat_natCast, List.getD_eq_getElem?_getD, List.getElem?_eq_getElem hi]; rfl
theorem implLoop (l : List ByteArray) (hl : l.length ≤ 1048577) : ∀ (d i : Nat), i + d = l.length → Ev (fun k => impl_FopOk.l0 k l (l.length : Int) (i : Int)) ((l.drop i).all textB) := by
  intro d
  induction d with
  | zero =>
    intro i hi
    rw [List.drop_of_length_le (by omega)]
    refine Ev.step (fun k => by rw [impl_FopOk.l0]) ?_
    exact Ev.iteF (by omega) (Ev.now _)
  | succ d ih =>
    intro i hi
    have hlt : i < l.length := by omega
    rw [List.drop_eq_getElem_cons hlt, List.all_cons]
    refine Ev.step (fun k => by rw [impl_FopOk.l0]) (Ev.iteT (by omega) (Ev.iteT (by omega) (Ev.iteT (by omega) ?_)))
    rw [rdS hlt, wrap_succ (by omega)]
    refine Ev.bindc (dataOk_at _) ?_
    by_cases h : textB l[i] = true
    · rw [h, Bool.true_and]
      exact Ev.iteT rfl (ih (i + 1) (by omega))
    · rw [Bool.not_eq_true] at h
      rw [h]
      exact Ev.iteF (by simp) (Ev.now _)
theorem implOk_ev (c v n : Int) (l : List ByteArray) (s : Bool) (hl : l.length ≤ 1048577) : Ev (fun k => impl_FopOk.f k c v n l s) (fopB c v n l) := by
  unfold impl_FopOk.f fopB
  have bad : Ev (fun k => impl_FopOk.j0 k true c v n l s) false := by
    refine Ev.step (fun k => by rw [impl_FopOk.j0]) ?_
    exact Ev.iteT rfl (Ev.now _)
  refine Ev.bindc (within_at _ _) ?_
  by_cases h1 : inB c 0 1023 = true
  · rw [h1, Bool.true_and]
    refine Ev.iteT rfl (Ev.bindc (within_at _ _) ?_)
    by_cases h2 : inB v 0 63 = true
    · rw [h2, Bool.true_and]
      refine Ev.iteT rfl (Ev.bindc (within_at _ _) ?_)
      by_cases h3 : inB n 0 255 = true
      · rw [h3, Bool.true_and]
        refine Ev.iteT rfl ?_
        by_cases h4 : (l.length : Int) ≤ 4
        · rw [decide_eq_true h4, decide_eq_false (by omega), Bool.true_and]
          refine Ev.step (fun k => by rw [impl_FopOk.j0]) ?_
          exact Ev.iteF (by simp) (implLoop l hl l.length 0 (by omega))
        · rw [decide_eq_false h4, decide_eq_true (by omega), Bool.false_and]
          exact bad
      · rw [Bool.not_eq_true] at h3
        rw [h3, Bool.false_and]
        exact Ev.iteF (by simp) bad
    · rw [Bool.not_eq_true] at h2
      rw [h2, Bool.false_and]
      exact Ev.iteF (by simp) bad
  · rw [Bool.not_eq_true] at h1
    rw [h1, Bool.false_and]
    exact Ev.iteF (by simp) bad
theorem specTail_at (c v n : Int) (l : List ByteArray) : ((spec_l1In.f c 0 1023).bind fun t216 => (if t216 = true then ((spec_l1In.f v 0 63).bind fun t217 => (if t217 = true then ((spec_l1In.f n 0 255).bind fun t218 => (if t218 = true then (some (decide ((l.length : Int) ≤ 4))) else (some false))) else (some false))) else (some false))) = some (inB c 0 1023 && (inB v 0 63 && (inB n 0 255 && decide ((l.length : Int) ≤ 4)))) := by
  simp only [l1In_at]
  cases inB c 0 1023 <;> cases inB v 0 63 <;> cases inB n 0 255 <;> rfl
theorem specLoop (c v n : Int) (l : List ByteArray) (s : Bool) (hl : l.length ≤ 1048577) : ∀ (d i : Nat), i + d = l.length → Ev (fun k => spec_FopOk.l0 k (i : Int) c v n l s) ((l.drop i).all textB && (inB c 0 1023 && (inB v 0 63 && (inB n 0 255 && decide ((l.length : Int) ≤ 4))))) := by
  intro d
  induction d with
  | zero =>
    intro i hi
    rw [List.drop_of_length_le (by omega), List.all_nil, Bool.true_and]
    refine Ev.step (fun k => by rw [spec_FopOk.l0]) ?_
    exact Ev.iteF (by omega) (Ev.const (specTail_at c v n l))
  | succ d ih =>
    intro i hi
    have hlt : i < l.length := by omega
    rw [List.drop_eq_getElem_cons hlt, List.all_cons]
    refine Ev.step (fun k => by rw [spec_FopOk.l0]) (Ev.iteT (by omega) (Ev.iteT (by omega) ?_))
    rw [rdS hlt, wrap_succ (by omega)]
    refine Ev.bindc (l1In_at _ _ _) ?_
    by_cases h : textB l[i] = true
    · rw [h, Bool.true_and]
      exact Ev.iteT h (ih (i + 1) (by omega))
    · have h' := h
      rw [Bool.not_eq_true] at h
      rw [h]
      exact Ev.iteF h' (Ev.now _)
theorem specOk_ev (c v n : Int) (l : List ByteArray) (s : Bool) (hl : l.length ≤ 1048577) : Ev (fun k => spec_FopOk.f k c v n l s) (fopB c v n l) := by
  unfold spec_FopOk.f
  refine Ev.eq (specLoop c v n l s hl l.length 0 (by omega)) ?_
  unfold fopB
  rw [List.drop_zero]
  cases inB c 0 1023 <;> cases inB v 0 63 <;> cases inB n 0 255 <;> cases decide ((l.length : Int) ≤ 4) <;> cases l.all textB <;> rfl
theorem implCopy_at (c v n : Int) (l : List ByteArray) (s : Bool) (hl : l.length ≤ 1048577) : impl_fopCopy.f c v n l s = some (c, v, n, l, s) := by
  unfold impl_fopCopy.f slices_Clone_string_string.f
  simp only [Option.bind_some, List.length_nil, List.nil_append, Nat.zero_add]
  rw [if_pos (by omega)]
  rfl
theorem specCopy_at (c v n : Int) (l : List ByteArray) (s : Bool) (hl : l.length ≤ 1048577) : spec_l5Copy.f c v n l s = some (c, v, n, l, s) := by
  unfold spec_l5Copy.f
  simp only [Option.bind_some, List.length_nil, List.nil_append, Nat.zero_add]
  rw [if_pos (by omega)]
theorem toFop_ev (c v n : Int) (l : List ByteArray) (s : Bool) (hl : l.length ≤ 1048576) : Ev (fun k => laws_toFop.f k c v n l s) (c, v, n, l, s) := by
  unfold laws_toFop.f
  exact Ev.bind (toStringS_ev l hl) (Ev.now _)
theorem eqFop_ev (c v n : Int) (l : List ByteArray) (s : Bool) (hl : l.length ≤ 9223372036854775806) : Ev (fun k => laws_eqFop.f k c v n l s c v n l s) true := by
  unfold laws_eqFop.f
  refine Ev.iteT rfl (Ev.iteT rfl (Ev.iteT rfl (Ev.bind (eqStringS_ev l l hl) (Ev.iteT (by simp) (Ev.iteF (by simp) (Ev.now _))))))
theorem szFop_ev (c v n : Int) (l : List ByteArray) (s : Bool) (hs : ∀ x ∈ l, x.size ≤ 9223372036854775807) (hl : l.length ≤ 9223372036854775807) : ∃ r, Ev (fun k => laws_szFop.f k c v n l s 1048576) r ∧ (0 ≤ r → Short l) := by
  unfold laws_szFop.f
  by_cases hl2 : l.length ≤ 9223372036854775806
  · obtain ⟨r, er, _, hr⟩ := szStringS_ev l 1048576 (by omega) (by omega) hl2 hs
    by_cases h : r < 0
    · exact ⟨-1, Ev.bind er (Ev.iteT h (Ev.now _)), fun h => absurd h (by omega)⟩
    · exact ⟨r, Ev.bind er (Ev.iteF h (Ev.now _)), hr⟩
  · have e1 : Ev (fun k => laws_szStringS.f k l 1048576) (-1) := by
      unfold laws_szStringS.f
      exact Ev.iteT (by rw [wrap64_id (by omega) (by omega)]; omega) (Ev.now _)
    exact ⟨-1, Ev.bind e1 (Ev.iteT (by omega) (Ev.now _)), fun h => absurd h (by omega)⟩
theorem plus_at (g n : Int) (h0 : 0 ≤ g) (h1 : g ≤ 255) (h2 : -255 ≤ n) (h3 : n ≤ 255) : impl_goesRound_plus.f g n = some ((g + n + 256) % 256) := by
  unfold impl_goesRound_plus.f
  have e : Int.tmod n 256 = n := by
    by_cases h : 0 ≤ n
    · rw [Int.tmod_eq_emod_of_nonneg h]; omega
    · have := Int.neg_tmod (-n) 256
      rw [Int.neg_neg] at this
      rw [this, Int.tmod_eq_emod_of_nonneg (by omega)]
      omega
  rw [e, wrap64_id (x := g + n) (by omega) (by omega), wrap64_id (by omega) (by omega), Int.tmod_eq_emod_of_nonneg (by omega)]
theorem mod_at (x : Int) (h0 : -512 ≤ x) (h1 : x ≤ 1024) : spec_l4Mod.f x = some ((x + 512) % 256) := by
  unfold spec_l4Mod.f
  rw [wrap64_id (by omega) (by omega), Int.tmod_eq_emod_of_nonneg (by omega)]
end Go.Proofs.Ytnlhaiihbcdmoaa.Fop
