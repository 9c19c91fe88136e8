/- Small words on 'from some number of rounds on it answers r'. No conditions. -/
import Derived.Test.YtbldbjfmibhffaaDoorWordsMore
namespace Go.Proofs.YtbldbjfmibhffaaDoor.E
open Go.RowKit Go.Proofs.YtbldbjfmibhffaaDoorW.PrintWords
set_option linter.unusedSimpArgs false
set_option linter.unusedVariables false

theorem Ev.iteT {α : Type} {c : Prop} [Decidable c] {f g : Nat → Option α} {r : α} (h : c) (k : Ev f r) : Ev (fun n => if c then f n else g n) r := by
  simpa only [if_pos h] using k
theorem Ev.iteF {α : Type} {c : Prop} [Decidable c] {f g : Nat → Option α} {r : α} (h : ¬ c) (k : Ev g r) : Ev (fun n => if c then f n else g n) r := by
  simpa only [if_neg h] using k
theorem Ev.ite {α : Type} {c : Prop} [Decidable c] {f g : Nat → Option α} {r : α} (h : c → Ev f r) (k : ¬ c → Ev g r) : Ev (fun n => if c then f n else g n) r := by
  by_cases hc : c
  · exact Ev.iteT hc (h hc)
  · exact Ev.iteF hc (k hc)
theorem Ev.const {α : Type} {a : Option α} {r : α} (h : a = some r) : Ev (fun _ => a) r := ⟨0, fun _ _ => h⟩
theorem Ev.bindc {α β : Type} {a : Option α} {f : Nat → α → Option β} {x : α} {r : β} (h : a = some x) (k : Ev (fun n => f n x) r) : Ev (fun n => a.bind (f n)) r := by
  subst h
  exact k
theorem Ev.some_ {α : Type} (r : α) : Ev (fun _ => some r) r := Ev.now r
theorem Ev.eq {α : Type} {g : Nat → Option α} {r s : α} (h : Ev g r) (e : r = s) : Ev g s := e ▸ h
theorem Ev.uniq {α : Type} {g : Nat → Option α} {r s : α} (h : Ev g r) (k : Ev g s) : r = s := by
  obtain ⟨a, ha⟩ := h
  obtain ⟨b, hb⟩ := k
  have h1 := ha (max a b) (Nat.le_max_left _ _)
  have h2 := hb (max a b) (Nat.le_max_right _ _)
  rw [h1] at h2
  exact Option.some.inj h2
theorem Ev.rnd {α : Type} {g : Nat → Option α} {r : α} (h : Ev g r) : ∃ k, g k = some r := by
  obtain ⟨n, h⟩ := h
  exact ⟨n, h n (Nat.le_refl _)⟩
theorem wrap64_id {x : Int} (h0 : -9223372036854775808 ≤ x) (h1 : x ≤ 9223372036854775807) : wrap64 x = x := by unfold wrap64; omega
/-- A loop that goes from state to state, n times, and then ends. -/
theorem Ev.loop {σ ρ : Type} {L : Nat → σ → Option ρ} {r : ρ} (st : Nat → σ) (n K : Nat) (hs : ∀ i, i < n → ∀ k, K ≤ k → L (k + 1) (st i) = L k (st (i + 1))) (he : ∀ k, K ≤ k → L (k + 1) (st n) = some r) : Ev (fun k => L k (st 0)) r := by
  have main : ∀ d i, i + d = n → ∀ k, K + d < k → L k (st i) = some r := by
    intro d
    induction d with
    | zero =>
      intro i hi k hk
      obtain rfl : i = n := by omega
      obtain ⟨k, rfl⟩ : ∃ m, k = m + 1 := ⟨k - 1, by omega⟩
      exact he k (by omega)
    | succ d ih =>
      intro i hi k hk
      obtain ⟨k, rfl⟩ : ∃ m, k = m + 1 := ⟨k - 1, by omega⟩
      rw [hs i (by omega) k (by omega)]
      exact ih (i + 1) (by omega) k (by omega)
  exact ⟨K + n + 1, fun k hk => main n 0 (by omega) k (by omega)⟩

/-- Is it so at each place? A loop that ends with the first at which it is not. -/
theorem Ev.all {L : Nat → Int → Option Bool} {b : Bool} (n K : Nat) (p : Nat → Bool) (hs : ∀ i, i < n → ∀ k, K ≤ k → L (k + 1) (i : Int) = if p i = true then L k ((i + 1 : Nat) : Int) else some false) (he : ∀ k, K ≤ k → L (k + 1) (n : Int) = some b) :
    Ev (fun k => L k 0) ((List.range n).all p && b) := by
  have main : ∀ d i, i + d = n → ∀ k, K + d < k → L k (i : Int) = some ((List.range' i d).all p && b) := by
    intro d
    induction d with
    | zero =>
      intro i hi k hk
      obtain rfl : i = n := by omega
      obtain ⟨k, rfl⟩ : ∃ m, k = m + 1 := ⟨k - 1, by omega⟩
      rw [he k (by omega)]
      rfl
    | succ d ih =>
      intro i hi k hk
      obtain ⟨k, rfl⟩ : ∃ m, k = m + 1 := ⟨k - 1, by omega⟩
      rw [hs i (by omega) k (by omega), List.range'_succ, List.all_cons]
      cases hp : p i with
      | true => rw [if_pos rfl, ih (i + 1) (by omega) k (by omega)]; simp
      | false => simp
  refine ⟨K + n + 1, fun k hk => ?_⟩
  have := main n 0 (by omega) k (by omega)
  rw [List.range_eq_range']
  exact this

theorem all_range {α : Type} (l : List α) (d : α) (p : α → Bool) : (List.range l.length).all (fun i => p (l.getD i d)) = l.all p := by
  induction l with
  | nil => rfl
  | cons x l ih =>
    rw [List.length_cons, List.range_succ_eq_map, List.all_cons, List.all_cons, List.all_map, ← ih]
    rfl

/-- A list that is filled from its beginning. -/
theorem Ev.fill {β : Type} {L : Nat → List β → Int → Option (List β)} (n K : Nat) (v : Nat → β) (ys : List β) (hl : ys.length = n) (hs : ∀ i, i < n → ∀ k, K ≤ k → ∀ zs : List β, zs.length = n → L (k + 1) zs (i : Int) = L k (zs.set i (v i)) ((i + 1 : Nat) : Int))
    (he : ∀ k, K ≤ k → ∀ zs : List β, zs.length = n → L (k + 1) zs (n : Int) = some zs) : Ev (fun k => L k ys 0) ((List.range n).map v) := by
  let st : Nat → List β × Int := fun i => ((List.range i).map v ++ ys.drop i, (i : Int))
  have hlen : ∀ i, i ≤ n → ((List.range i).map v ++ ys.drop i).length = n := fun i hi => by simp; omega
  have := Ev.loop (L := fun k (s : List β × Int) => L k s.1 s.2) (r := (List.range n).map v) st n K (fun i hi k hk => by
    show L (k + 1) ((List.range i).map v ++ ys.drop i) (i : Int) = L k ((List.range (i + 1)).map v ++ ys.drop (i + 1)) ((i + 1 : Nat) : Int)
    rw [hs i hi k hk _ (hlen i (by omega))]
    congr 1
    rw [List.set_append_right _ _ (by simp)]
    simp only [List.length_map, List.length_range, Nat.sub_self]
    rw [List.drop_eq_getElem_cons (by omega), List.set_cons_zero, List.range_succ, List.map_append, List.append_assoc]
    rfl) (fun k hk => by
    show L (k + 1) ((List.range n).map v ++ ys.drop n) (n : Int) = _
    rw [he k hk _ (hlen n (by omega)), List.drop_of_length_le (by omega), List.append_nil])
  simpa [st] using this

theorem map_range_getD {α β : Type} (l : List α) (d : α) (f : α → β) : (List.range l.length).map (fun i => f (l.getD i d)) = l.map f := by
  apply List.ext_getElem?
  intro i
  by_cases hi : i < l.length
  · simp [hi, List.getD]
  · simp [hi]
theorem toNat_cast (i : Nat) : ((i : Int)).toNat = i := Int.toNat_natCast i
theorem wrap_succ {i : Nat} (h : i < 9223372036854775807) : wrap64 ((i : Int) + 1) = ((i + 1 : Nat) : Int) := by unfold wrap64; omega
theorem all_eq {α : Type} [DecidableEq α] (a b : List α) (d : α) (h : a.length = b.length) : (List.range a.length).all (fun i => decide (a.getD i d = b.getD i d)) = decide (a = b) := by
  rw [Bool.eq_iff_iff]
  simp only [List.all_eq_true, List.mem_range, decide_eq_true_eq]
  constructor
  · intro hx
    apply List.ext_getElem h
    intro i h1 h2
    have := hx i h1
    simpa [List.getD, h1, h2] using this
  · rintro rfl i _
    rfl
end Go.Proofs.YtbldbjfmibhffaaDoor.E
