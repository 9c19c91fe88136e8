/- How an argument that reads as data lies in memory, kind by kind: integers, bools, strings, slices, structs of these. No conditions. -/
import Derived.Deep.Slices
import Derived.ChangeArms
import Derived.OpenShut
import Derived.Test.YtbldbjfmibhffaaDoorWordsMore
namespace Go.Proofs.YtbldbjfmibhffaaDoor.Open
open Go.RowKit Go.Deep Go.ChangeShapes Go.WideShapes Go.Proofs.YtbldbjfmibhffaaDoorW.PrintWords
set_option linter.unusedSimpArgs false
set_option linter.unusedVariables false

/-- What reads at type t is of kind d, and well formed. -/
def Opens {α : Type} (P : Program) (t : TypeId) (d : Kd α) (G : α → Prop) : Prop :=
  P.cellsOf t = d.sz ∧ ∀ (H : Type) (enc : TypeId × Value → H) (w : World) (base : Nat) (spare : Nat → Bool) (held : Bool) (fuel : Nat) (cs : List Value) (x : DataW H × List MemPlace),
    DataW.trod enc P w base spare held fuel t cs = some x → ∃ y, G y ∧ d.K w y cs

def GInt (y : Int) : Prop := -9223372036854775808 ≤ y ∧ y ≤ 9223372036854775807
def GU8 (y : Int) : Prop := 0 ≤ y ∧ y ≤ 255
def GAny {α : Type} (_ : α) : Prop := True
def GStr (y : ByteArray) : Prop := y.size ≤ 9223372036854775807
def GList {α : Type} (G : α → Prop) (l : List α) : Prop := ∀ y ∈ l, G y

theorem opens_int {P : Program} {t : TypeId} (h : P.underlying t = some (.int .i64)) (hc : P.cellsOf t = 1) : Opens P t (Kd.int .i64) GInt := by
  refine ⟨hc, fun H enc w base spare held fuel cs x hx => ?_⟩
  obtain ⟨n, rfl, rfl, hw⟩ := DataW.trod_int h hx
  refine ⟨n, ?_, rfl⟩
  simp [Lit.wf, IntKind.min, IntKind.max, IntKind.signed, IntKind.bits] at hw
  unfold GInt
  omega

theorem gint_of_wf {n : Int} (h : (Lit.int .i64 n).wf = true) : GInt n := by
  simp [Lit.wf, IntKind.min, IntKind.max, IntKind.signed, IntKind.bits] at h
  unfold GInt
  omega
theorem gstr_of_le {s : ByteArray} (h : s.size ≤ maxLen) : GStr s := by unfold maxLen at h; exact h

theorem opens_u8 {P : Program} {t : TypeId} (h : P.underlying t = some (.int .u8)) (hc : P.cellsOf t = 1) : Opens P t (Kd.int .u8) GU8 := by
  refine ⟨hc, fun H enc w base spare held fuel cs x hx => ?_⟩
  obtain ⟨n, rfl, rfl, hw⟩ := DataW.trod_int h hx
  refine ⟨n, ?_, rfl⟩
  simp [Lit.wf, IntKind.min, IntKind.max, IntKind.signed, IntKind.bits] at hw
  unfold GU8
  omega

theorem opens_bool {P : Program} {t : TypeId} (h : P.underlying t = some .bool) (hc : P.cellsOf t = 1) : Opens P t Kd.bool GAny := by
  refine ⟨hc, fun H enc w base spare held fuel cs x hx => ?_⟩
  obtain ⟨b, rfl, rfl⟩ := DataW.trod_bool h hx
  exact ⟨b, trivial, rfl⟩

theorem opens_string {P : Program} {t : TypeId} (h : P.underlying t = some .string) (hc : P.cellsOf t = 1) : Opens P t Kd.string GStr := by
  refine ⟨hc, fun H enc w base spare held fuel cs x hx => ?_⟩
  obtain ⟨s, rfl, rfl, hw⟩ := DataW.trod_string h hx
  exact ⟨s, by unfold maxLen at hw; exact hw, rfl⟩

theorem list_choose {α : Type} (n : Nat) (p : Nat → α → Prop) (h : ∀ i, i < n → ∃ x, p i x) : ∃ l : List α, l.length = n ∧ ∀ i x, l[i]? = some x → p i x := by
  induction n with
  | zero => exact ⟨[], rfl, fun i x hx => by simp at hx⟩
  | succ n ih =>
    obtain ⟨l, hl, hp⟩ := ih (fun i hi => h i (Nat.lt_succ_of_lt hi))
    obtain ⟨x, hx⟩ := h n (Nat.lt_succ_self n)
    refine ⟨l ++ [x], by simp [hl], fun i y hy => ?_⟩
    by_cases hi : i < n
    · rw [List.getElem?_append_left (by omega)] at hy
      exact hp i y hy
    · have : i < (l ++ [x]).length := (List.getElem?_eq_some_iff.1 hy).1
      simp [hl] at this
      obtain rfl : i = n := by omega
      rw [List.getElem?_append_right (by omega), hl, Nat.sub_self] at hy
      simp at hy
      subst hy
      exact hx

theorem opens_slice {α : Type} {P : Program} {t e : TypeId} {d : Kd α} {G : α → Prop} (h : P.underlying t = some (.slice e)) (hc : P.cellsOf t = 1) (ho : Opens P e d G) : Opens P t (Kd.slice e d) (GList G) := by
  refine ⟨hc, fun H enc w base spare held fuel cs x hx => ?_⟩
  rcases open_slice h hx with ⟨rfl, _⟩ | ⟨a, len, cap, m, n, D, Pl, rfl, _, hl, hm, hmm, _, hcell⟩
  · exact ⟨[], fun y hy => by simp at hy, none, 0, rfl, Nat.le_refl _, Kd.C_nil _ _⟩
  · have hle : len ≤ m := by rw [hmm]; split <;> omega
    obtain ⟨l, hll, hp⟩ := list_choose len (fun i y => G y ∧ ∃ c, c.length = d.sz ∧ d.K w y c ∧ w.cells? base (a.add (i * P.cellsOf e)) (P.cellsOf e) = some c) (fun i hi => by
      obtain ⟨cs', h1, h2⟩ := hcell i (by omega)
      obtain ⟨y, hg, hk⟩ := ho.2 H enc w base spare held n cs' _ h2
      exact ⟨y, hg, cs', d.K_len hk, hk, h1⟩)
    subst hll
    refine ⟨l, fun y hy => ?_, some a, cap, rfl, hl, rfl, by unfold maxLen at hm; omega, fun _ => ⟨a, rfl, fun j p hj => ?_⟩⟩
    · obtain ⟨i, hi⟩ := List.getElem?_of_mem hy
      exact (hp i y hi).1
    · obtain ⟨_, c, hcl, hk, hcs⟩ := hp j p hj
      refine ⟨c, hcl, hk, fun i u hu => ?_⟩
      obtain ⟨hb, hlen, hget⟩ := World.cells?_some hcs
      have hi : i < c.length := (List.getElem?_eq_some_iff.1 hu).1
      rw [ho.1] at hget hlen
      have := hget i (by omega)
      rw [hu] at this
      rw [← Go.Deep.add_add]
      exact this

def GLen {α : Type} (l : List α) : Prop := l.length ≤ 9223372036854775807
theorem opens_slice_len {α : Type} {P : Program} {t e : TypeId} {d : Kd α} {G : α → Prop} (h : P.underlying t = some (.slice e)) (hc : P.cellsOf t = 1) (ho : Opens P e d G) : Opens P t (Kd.slice e d) GLen := by
  refine ⟨hc, fun H enc w base spare held fuel cs x hx => ?_⟩
  obtain ⟨y, _, k⟩ := (opens_slice h hc ho).2 H enc w base spare held fuel cs x hx
  refine ⟨y, ?_, k⟩
  obtain ⟨_, _, _, _, hr⟩ := k
  exact hr.2.1

/-- The fields of a struct, from an offset on. -/
def FieldsOpen {α : Type} (P : Program) (fs : List Field) (off : Nat) (d : Kd α) (G : α → Prop) : Prop :=
  ∀ (H : Type) (enc : TypeId × Value → H) (w : World) (base : Nat) (spare : Nat → Bool) (held : Bool) (fuel : Nat) (cs : List Value),
    off + d.sz ≤ cs.length → (∀ f ∈ fs, ∃ x, DataW.trod enc P w base spare held fuel f.type ((cs.drop f.offset).take (P.cellsOf f.type)) = some x) → ∃ y, G y ∧ d.K w y ((cs.drop off).take d.sz)

theorem fields_one {α : Type} {P : Program} {f : Field} {off : Nat} {d : Kd α} {G : α → Prop} (ho : Opens P f.type d G) (hoff : f.offset = off) : FieldsOpen P [f] off d G := by
  intro H enc w base spare held fuel cs hlen hx
  obtain ⟨y, hy⟩ := hx f (by simp)
  rw [hoff, ho.1] at hy
  exact ho.2 H enc w base spare held fuel _ _ hy

theorem fields_cons {α β : Type} {P : Program} {f : Field} {fs : List Field} {off : Nat} {d : Kd α} {d' : Kd β} {G : α → Prop} {G' : β → Prop} (ho : Opens P f.type d G) (hoff : f.offset = off) (hr : FieldsOpen P fs (off + d.sz) d' G') :
    FieldsOpen P (f :: fs) off (Kd.pair d d') (fun p => G p.1 ∧ G' p.2) := by
  intro H enc w base spare held fuel cs hlen hx
  have hlen' : off + (d.sz + d'.sz) ≤ cs.length := hlen
  obtain ⟨y, hy⟩ := hx f (by simp)
  rw [hoff, ho.1] at hy
  obtain ⟨a, ga, ka⟩ := ho.2 H enc w base spare held fuel _ _ hy
  obtain ⟨b, gb, kb⟩ := hr H enc w base spare held fuel cs (by omega) (fun g hg => hx g (List.mem_cons_of_mem _ hg))
  refine ⟨(a, b), ⟨ga, gb⟩, _, _, ?_, ka, kb⟩
  show (cs.drop off).take (d.sz + d'.sz) = _
  rw [List.take_add, List.drop_drop]

theorem opens_struct {α β : Type} {P : Program} {t : TypeId} {fs : Array Field} {d : Kd α} {G : α → Prop} (h : P.underlying t = some (.struct fs)) (hc : P.cellsOf t = d.sz) (hf : FieldsOpen P fs.toList 0 d G) (f : β → α) (g : α → β) (hfg : ∀ a, f (g a) = a) :
    Opens P t (Kd.iso d f) (fun b => G (f b)) := by
  refine ⟨hc, fun H enc w base spare held fuel cs x hx => ?_⟩
  obtain ⟨xs, n, rfl, _, hl, hxl, hget⟩ := DataW.trod_struct h hx
  obtain ⟨y, gy, ky⟩ := hf H enc w base spare held n cs (by omega) (fun f hf => by
    obtain ⟨i, hi⟩ := List.getElem?_of_mem hf
    have hi' : fs[i]? = some f := by simpa using hi
    have hlt : i < fs.size := (Array.getElem?_eq_some_iff.1 hi').1
    refine ⟨xs[i], ?_⟩
    rw [hget i f hi', List.getElem?_eq_getElem (by omega)])
  refine ⟨g y, by show G (f (g y)); rw [hfg]; exact gy, ?_⟩
  show d.K w (f (g y)) cs
  rw [hfg]
  rw [List.drop_zero, List.take_of_length_le (by omega)] at ky
  exact ky

/-- A struct argument: its cells, one by one. -/
theorem agg_of {P : Program} {w : World} {r : Reach} {base : Nat} {t : TypeId} {v : Value} {fs : Array Field} (h : P.underlying t = some (.struct fs)) (hv : Value.okWide P w r base t v) : ∃ cs, v = .agg cs := by
  unfold Value.okWide at hv
  rw [h] at hv
  obtain ⟨cs, rfl, _⟩ := hv
  exact ⟨cs, rfl⟩
end Go.Proofs.YtbldbjfmibhffaaDoor.Open
