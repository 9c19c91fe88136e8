/- The machine side of these statements, function by function: what each Go function answers (as a Lean function), and that it does. Written by a program (mp.py) for this claim. -/
import Derived.Test.YtcenmlpfbpogoaaDoorPx0
import Derived.Test.YtcenmlpfbpogoaaDoorPx1
import Derived.Test.YtcenmlpfbpogoaaDoorPx6
namespace Go.Proofs.YtcenmlpfbpogoaaDoor.P
open Go.RowKit Go.Proofs.YtcenmlpfbpogoaaDoorW.PrintWords Go.Proofs.YtcenmlpfbpogoaaDoorW.PrintLast Go.Proofs.YtcenmlpfbpogoaaDoorW.PrintMore
attribute [local go_sem] max2_int min2_int max_two min_two max_three min_three max_four min_four   -- for this text's walks alone
set_option linter.unusedVariables false
set_option linter.unusedSimpArgs false

/-! ### spec_l1Rd_oneOf: function 53 -/
/-- A slice's own words, as a value. -/
def hdrV (p : Option Addr × Nat × Nat) : Value := .slice p.1 p.2.1 p.2.2
def Kd.hdr : Kd (Option Addr × Nat × Nat) := Kd.scalar hdrV (fun _ => rfl)
theorem at_hdr {w : World} {A : Option Addr} {n : Nat} {xs : List (Option Addr × Nat × Nat)} (h : Kd.hdr.C w A n xs) (i : Int) (h0 : 0 ≤ i) (h1 : i < n) : ∃ ad, A = some ad ∧ w.cell? (ad.add i.toNat) = some (hdrV (rdOf (none, 0, 0) xs i)) :=
  ReadsOf.at_ (Kd.reads_of_C (enc := hdrV) (d := (none, 0, 0)) (h1 := fun _ => rfl) h) i h0 h1
def spec_l1Rd_oneOf.f (k : Nat) (s0_0 : List Int) (s0_1 : Int) (l1 : List (List Int)) : Option (List Int × Int) := (spec_l1Rd_pick.f k s0_0 s0_1 (l1.length : Int)).bind fun bt150 => (if 0 ≤ bt150.1 then (if bt150.1 < (l1.length : Int) then (some (l1.getD bt150.1.toNat [], bt150.2)) else (none)) else (none))
theorem spec_l1Rd_oneOf.mono : ∀ a0 a1 a2 k, LeO (spec_l1Rd_oneOf.f k a0 a1 a2) (spec_l1Rd_oneOf.f (k + 1) a0 a1 a2) := by
  intro a0 a1 a2 k
  unfold spec_l1Rd_oneOf.f
  exact LeO.bind (spec_l1Rd_pick.mono _ _ _ _) (fun _ => LeO.refl _)
theorem oneOf_three {k : Nat} {s : List Int} {s1 : Int} {y0 y1 y2 r1 : List Int} {r2 : Int} (h : spec_l1Rd_oneOf.f k s s1 [y0, y1, y2] = some (r1, r2)) :
    ∃ t, spec_l1Rd_pick.f k s s1 3 = some (t, r2) ∧ 0 ≤ t ∧ t < 3 ∧ ((t = 0 ∧ r1 = y0) ∨ (t = 1 ∧ r1 = y1) ∨ (t = 2 ∧ r1 = y2)) := by
  unfold spec_l1Rd_oneOf.f at h
  obtain ⟨⟨t, p⟩, A, h⟩ := Option.bind_eq_some_iff.mp h
  dsimp only at h
  split at h
  case isFalse => cases h
  rename_i h0
  split at h
  case isFalse => cases h
  rename_i h1
  obtain ⟨rfl, rfl⟩ := Prod.mk.inj (Option.some.inj h)
  have h2 : t < 3 := h1
  refine ⟨t, A, h0, h2, ?_⟩
  have h3 : t = 0 ∨ t = 1 ∨ t = 2 := by omega
  rcases h3 with rfl | rfl | rfl
  · exact .inl ⟨rfl, rfl⟩
  · exact .inr (.inl ⟨rfl, rfl⟩)
  · exact .inr (.inr ⟨rfl, rfl⟩)
set_option maxHeartbeats 8000000 in
set_option maxRecDepth 100000 in
theorem spec_l1Rd_oneOf.raw (k : Nat) (g : Nat) (s0_0 : List Int) (s0_1 : Int) (A1 : Option Addr) (c1 : Nat) (hs : List (Option Addr × Nat × Nat)) (t : Int) (r2 : Int) (w0 w : World) (hI : IsS86 w0 w g s0_0 s0_1) (hB : Below w0.heap.size w0 w) (hr1 : Kd.C Kd.hdr w A1 hs.length hs) (hc1 : hs.length ≤ c1) (hf1 : ∀ ad, A1 = some ad → 0 < hs.length → ad.block ≠ g) (h : spec_l1Rd_pick.f k s0_0 s0_1 (hs.length : Int) = some (t, r2)) (h0 : 0 ≤ t) (h1 : t < (hs.length : Int)) :
  Calls Tryd.prog 53 #[.pointer (some ⟨g, 0, none⟩), .slice A1 hs.length c1] w fun e w' => ∃ v, e = .returned v ∧ v = hdrV (rdOf (none, 0, 0) hs t) ∧ IsS86 w0 w' g s0_0 r2 ∧ Below w0.heap.size w0 w' ∧ KeepBut w w' g none := by
  have HR1 := Aside0.mk hr1
  have hpos : 0 < hs.length := by omega
  have c5b0 : decide (t < (hs.length : Int)) = true := decide_eq_true h1
  have c4b0 : decide (0 ≤ t) = true := decide_eq_true h0
  replace hI := Aside0.mk hI
  replace hB := Aside0.mk hB
  replace h := Aside0.mk h
  clear hr1 hc1
  go_enter Tryd.func53, Tryd.ntmps53
  go_wp2_with fail
  refine (spec_l1Rd_pick.calls k g s0_0 s0_1 (hs.length : Int) t r2 w0 w hI.out hB.out h.out).mono ?_
  rintro e w1 ⟨rfl, hi, hb, hk⟩
  obtain ⟨ad, e1, hx⟩ := at_hdr HR1.out t h0 h1
  have hne := hf1 _ e1 hpos
  cases e1
  replace hx := keep_cell hk hx (by rw [add_block]; exact hne)
  generalize hv : hdrV (rdOf (none, 0, 0) hs t) = v at hx
  have p0 := eq_true h0
  have p1 := eq_true h1
  replace hi := Aside0.mk hi
  replace hb := Aside0.mk hb
  replace hk := Aside0.mk hk
  clear hI hB h HR1 hf1 h0 h1
  go_wp2
  go_ret
  exact ⟨v, rfl, hv.symm, hi.out, hb.out, hk.out⟩

end Go.Proofs.YtcenmlpfbpogoaaDoor.P
