/- The machine side of these statements, function by function: what each Go function answers (as a Lean function), and that it does. Written by a program (mp.py) for this claim. -/
import Derived.Test.YtpehnincnpnggaaDoorPx0
import Derived.Test.YtpehnincnpnggaaDoorPx3
import Derived.Test.YtpehnincnpnggaaDoorPx4
import Derived.Test.YtpehnincnpnggaaDoorPx5
import Derived.Test.YtpehnincnpnggaaDoorPx7
namespace Go.Proofs.YtpehnincnpnggaaDoor.P
open Go.RowKit Go.Proofs.YtpehnincnpnggaaDoorW.PrintWords Go.Proofs.YtpehnincnpnggaaDoorW.PrintLast Go.Proofs.YtpehnincnpnggaaDoorW.PrintMore
attribute [local go_sem] max2_int min2_int max_two min_two max_three min_three max_four min_four   -- for this text's walks alone
set_option linter.unusedVariables false
set_option linter.unusedSimpArgs false

/-! ### laws_FnCmdByte: function 3 -/
/-- '[]byte(s)': a new row, of which nothing else is. -/
theorem bytes_made {P : Program} (W0 : World) (src dst e : TypeId) (s : ByteArray) {u : TypeDesc} (hl : s.size ≤ 9223372036854775807) (hs : P.underlying src = some u) (hd : P.underlying dst = some (.slice e)) (he : P.underlying e = some (.int .u8)) :
    ∃ W c, (convert src dst (.string s)).run P W0 = .ok (.slice (some ⟨W0.heap.size, 0, none⟩) s.size c) W ∧ Aside0 (Below W0.heap.size W0 W) ∧ Aside0 (ReadsInt W .u8 (some ⟨W0.heap.size, 0, none⟩) s.size (bytesOf s)) ∧
      Aside0 (∀ j, j < s.size → W.frozen? ⟨W0.heap.size, j, none⟩ = false) := by
  refine ⟨_, _, Lib.run_convert_string_bytes W0 src dst e s hs hd he, ⟨bytes_below (Below.refl _ _) (Nat.le_refl _) e s⟩, ⟨bytes_reads W0 e s hl⟩, ⟨fun j hj => ?_⟩⟩
  have hz : s.size ≤ (Lib.bytesCells W0 e s).size := by simp [Lib.bytesCells]
  simp only [World.frozen?, Lib.bytesWorld_at_new, Bool.and_eq_false_iff, decide_eq_false_iff_not]
  left
  omega
theorem bytes_range (s : ByteArray) (k : Nat) : 0 ≤ (bytesOf s).getD k 0 ∧ (bytesOf s).getD k 0 ≤ 255 := by
  rw [List.getD_eq_getElem?_getD]
  cases e : (bytesOf s)[k]? with
  | none => simp
  | some x =>
    have := List.mem_of_getElem? e
    simp only [bytesOf, List.mem_map] at this
    obtain ⟨b, _, rfl⟩ := this
    have := b.toNat_lt
    simp
    omega
/-- A byte of a row that is read is written. -/
theorem reads_set {W : World} {g n k : Nat} {xs : List Int} {v : Int} (h : ReadsInt W .u8 (some ⟨g, 0, none⟩) n xs) (hk : k < n) : ReadsInt (W.setCell ⟨g, k, none⟩ (.int .u8 v)) .u8 (some ⟨g, 0, none⟩) n (xs.set k v) := by
  obtain ⟨h0, h1, h2⟩ := h
  refine ⟨by simpa using h0, h1, fun hn => ⟨_, rfl, fun j hj => ?_⟩⟩
  obtain ⟨ad, e, hc⟩ := h2 hn
  cases e
  have hj' := hc j hj
  have hk' := hc k hk
  rw [add_plain] at hj' hk' ⊢
  by_cases e : j = k
  · subst e
    rw [World.cell?_setCell_same _ _ _ hk']
    have : j < xs.length := by omega
    simp [List.getD_eq_getElem?_getD, this]
  · rw [World.cell?_setCell_other _ _ _ _ (by first | (simp; done) | (simp; exact fun h => e (Eq.symm h))), hj']
    have e2 : ¬ k = j := fun h => e (Eq.symm h)
    simp [List.getD_eq_getElem?_getD, e2]
def turnK (s : ByteArray) (m : Nat) : Nat := m % s.size
def turnV (s : ByteArray) (n m : Nat) : Int := Go.bits .xor .u8 ((bytesOf s).getD (turnK s m) 0) (1 + (n : Int) % 255)
def turnS (s : ByteArray) (n m : Nat) : ByteArray := strOfNums ((bytesOf s).set (turnK s m) (turnV s n m))
def laws_FnCmdByte.f (k : Nat) (l0 : List Int) (l1 : List Int) : Option (Bool) :=
  if (l0.length : Int) > 1048576 then some true else if (l1.length : Int) > 1048576 then some true else
  (spec_DrawCmdPut.f k l0).bind fun d => (impl_CmdPut.f k d.1 d.2.1 d.2.2.1 d.2.2.2.1 d.2.2.2.2.1 d.2.2.2.2.2).bind fun s => (spec_CmdPut.f k d.1 d.2.1 d.2.2.1 d.2.2.2.1 d.2.2.2.2.1 d.2.2.2.2.2).bind fun s2 =>
    if s = s2 then (if s.size = 0 then some true else if s.size ≤ 4611686018427387904 then ((impl_CmdGet.f k (turnS s l0.length l1.length)).bind fun x => if x.2.2.2.2.2.2 ≠ 0 ∧ x.1 = 0 ∧ x.2.1 = 0 ∧ x.2.2.1 = 0 ∧ x.2.2.2.1 = 0 ∧ x.2.2.2.2.1 = 0 ∧ x.2.2.2.2.2.1 = ⟨#[]⟩ then some true else none) else none) else none
theorem string_nil (s : ByteArray) : (s.toList == ([] : List UInt8)) = decide (s.size = 0) := by
  have e : s.toList = s.data.toList := ByteArray.toList_eq s
  rw [e, Bool.eq_iff_iff, beq_iff_eq, decide_eq_true_iff]
  constructor
  · intro h
    rw [← data_length, h]
    rfl
  · intro h
    exact List.eq_nil_of_length_eq_zero (by rw [data_length]; exact h)
set_option maxHeartbeats 8000000 in
set_option maxRecDepth 100000 in
theorem laws_FnCmdByte.calls (k : Nat) (A0 : Option Addr) (c0 : Nat) (l0 : List Int) (A1 : Option Addr) (c1 : Nat) (l1 : List Int) (r : Bool) (w : World) (hr0 : Kd.C (Kd.int .u8) w A0 l0.length l0) (hc0 : l0.length ≤ c0) (hr1 : Kd.C (Kd.int .u8) w A1 l1.length l1) (hc1 : l1.length ≤ c1) (h : laws_FnCmdByte.f k l0 l1 = some r) :
  Calls Tryd.prog 3 #[.slice A0 l0.length c0, .slice A1 l1.length c1] w fun e w' => e = .returned (.bool r) ∧ Below w.heap.size w w' := by
  unfold laws_FnCmdByte.f at h
  replace hr0 := Aside0.mk hr0
  replace hc0 := Aside0.mk hc0
  clear hr1 hc1
  by_cases d0 : (l0.length : Int) > 1048576
  · rw [if_pos d0] at h
    obtain rfl := Option.some.inj h
    have d0b : decide (1048576 < (l0.length : Int)) = true := decide_eq_true d0
    clear h d0
    go_enter Tryd.func3, Tryd.ntmps3
    go_wp2
    go_ret
    exact ⟨rfl, Below.refl _ _⟩
  rw [if_neg d0] at h
  have d0b : decide (1048576 < (l0.length : Int)) = false := decide_eq_false d0
  clear d0
  by_cases d1 : (l1.length : Int) > 1048576
  · rw [if_pos d1] at h
    obtain rfl := Option.some.inj h
    have d1b : decide (1048576 < (l1.length : Int)) = true := decide_eq_true d1
    clear h d1
    go_enter Tryd.func3, Tryd.ntmps3
    go_wp2
    go_ret
    exact ⟨rfl, Below.refl _ _⟩
  rw [if_neg d1] at h
  have d1b : decide (1048576 < (l1.length : Int)) = false := decide_eq_false d1
  clear d1
  obtain ⟨⟨t0, t1, t2, t3, t4, t5⟩, A1', h1⟩ := Option.bind_eq_some_iff.mp h
  clear h
  obtain ⟨s, A2', h2⟩ := Option.bind_eq_some_iff.mp h1
  clear h1
  obtain ⟨s2, A3', h3⟩ := Option.bind_eq_some_iff.mp h2
  clear h2
  replace A1' := Aside0.mk A1'
  replace A2' := Aside0.mk A2'
  by_cases es : s = s2
  case neg => rw [if_neg es] at h3; cases h3
  subst es
  rw [if_pos rfl] at h3
  replace A3' := Aside0.mk A3'
  replace h3 := Aside0.mk h3
  go_enter Tryd.func3, Tryd.ntmps3
  go_wp2_with fail
  refine (spec_DrawCmdPut.calls k A0 c0 l0 t0 t1 t2 t3 t4 t5 w hr0.out hc0.out A1'.out).mono ?_
  rintro e w1 ⟨rfl, B1⟩
  replace B1 := Aside0.mk B1
  clear hr0 hc0 A1'
  go_wp2_with fail
  refine (impl_CmdPut.calls k t0 t1 t2 t3 t4 t5 s _ A2'.out).mono ?_
  rintro e w2 ⟨rfl, B2⟩
  have R2 := Aside0.mk (blk_below (g := w1.heap.size) (o := .cells #[.int .i64 t0, .int .i64 t1, .int .i64 t2, .int .i64 t3, .int .i64 t4, .string t5] 24 (0, 0)) (blk_new w1 _) B2)
  have G2 := Aside0.mk (below_then (B1.out.alloc B1.out.size _) ((B1.out.alloc B1.out.size _).size) B2)
  have hne : w1.heap.size < w2.heap.size := by have := B2.size; simp at this; omega
  clear B1 B2 A2'
  generalize w1.heap.size = g at R2 hne ⊢
  have e0 : w2.cell? ⟨g, 0, none⟩ = some (.int .i64 t0) := (blk_cell R2.out 0).trans rfl
  have f0 := blk_frozen R2.out 0
  have e1 : w2.cell? ⟨g, 1, none⟩ = some (.int .i64 t1) := (blk_cell R2.out 1).trans rfl
  have f1 := blk_frozen R2.out 1
  have e2 : w2.cell? ⟨g, 2, none⟩ = some (.int .i64 t2) := (blk_cell R2.out 2).trans rfl
  have f2 := blk_frozen R2.out 2
  have e3 : w2.cell? ⟨g, 3, none⟩ = some (.int .i64 t3) := (blk_cell R2.out 3).trans rfl
  have f3 := blk_frozen R2.out 3
  have e4 : w2.cell? ⟨g, 4, none⟩ = some (.int .i64 t4) := (blk_cell R2.out 4).trans rfl
  have f4 := blk_frozen R2.out 4
  have e5 : w2.cell? ⟨g, 5, none⟩ = some (.string t5) := (blk_cell R2.out 5).trans rfl
  have f5 := blk_frozen R2.out 5
  go_wp2_with fail
  refine (spec_CmdPut.calls k t0 t1 t2 t3 t4 t5 s _ A3'.out).mono ?_
  rintro e w3 ⟨rfl, B3⟩
  have R3 := Aside0.mk (blk_below R2.out B3)
  have G3 := Aside0.mk (below_then G2.out G2.out.size B3)
  clear e0 e1 e2 e3 e4 e5 f0 f1 f2 f3 f4 f5 R2 G2 B3 hne
  have e0 : w3.cell? ⟨g, 0, none⟩ = some (.int .i64 t0) := (blk_cell R3.out 0).trans rfl
  have f0 := blk_frozen R3.out 0
  have e1 : w3.cell? ⟨g, 1, none⟩ = some (.int .i64 t1) := (blk_cell R3.out 1).trans rfl
  have f1 := blk_frozen R3.out 1
  have e2 : w3.cell? ⟨g, 2, none⟩ = some (.int .i64 t2) := (blk_cell R3.out 2).trans rfl
  have f2 := blk_frozen R3.out 2
  have e3 : w3.cell? ⟨g, 3, none⟩ = some (.int .i64 t3) := (blk_cell R3.out 3).trans rfl
  have f3 := blk_frozen R3.out 3
  have e4 : w3.cell? ⟨g, 4, none⟩ = some (.int .i64 t4) := (blk_cell R3.out 4).trans rfl
  have f4 := blk_frozen R3.out 4
  have e5 : w3.cell? ⟨g, 5, none⟩ = some (.string t5) := (blk_cell R3.out 5).trans rfl
  have f5 := blk_frozen R3.out 5
  by_cases hz : s.size = 0
  · have q0 : (s.toList == ([] : List UInt8)) = true := by rw [string_nil, decide_eq_true hz]
    have h4 := h3.out
    rw [if_pos hz] at h4
    obtain rfl := Option.some.inj h4
    clear h3 h4
    go_wp2_with fail
    refine (spec_CmdPut.calls k t0 t1 t2 t3 t4 t5 s _ A3'.out).mono ?_
    rintro e w4 ⟨rfl, B4⟩
    have G4 := Aside0.mk (below_then G3.out G3.out.size B4)
    clear B4 G3
    go_wp2
    go_ret
    exact ⟨by simp, G4.out⟩
  have q0 : (s.toList == ([] : List UInt8)) = false := by rw [string_nil, decide_eq_false hz]
  have h4 := h3.out
  clear h3
  rw [if_neg hz] at h4
  by_cases hl : s.size ≤ 4611686018427387904
  case neg => rw [if_neg hl] at h4; cases h4
  rw [if_pos hl] at h4
  obtain ⟨⟨r1, r2, r3, r4, r5, r6, r7⟩, A4', h5⟩ := Option.bind_eq_some_iff.mp h4
  clear h4
  replace A4' := Aside0.mk A4'
  split at h5
  case isFalse => cases h5
  rename_i hx
  obtain ⟨x7, x1, x2, x3, x4, x5, x6⟩ := hx
  dsimp only at x7 x1 x2 x3 x4 x5 x6
  subst x1 x2 x3 x4 x5 x6
  have x7a : (r7 == 0) = false := beq_eq_false_iff_ne.mpr x7
  have x7b : (r7 != 0) = true := bne_iff_ne.mpr x7
  obtain rfl := Option.some.inj h5
  clear h5
  have hp : 0 < s.size := Nat.pos_of_ne_zero hz
  obtain ⟨W, c, hrun, HB, HR, HF⟩ := bytes_made (P := Tryd.prog) w3 9 22 5 s (by omega) Tryd.underlying9 Tryd.underlying22 Tryd.underlying5
  have hX : (l1.length : Int) % (s.size : Int) = (turnK s l1.length : Int) := (Int.natCast_emod _ _).symm
  have hk : turnK s l1.length < s.size := Nat.mod_lt _ hp
  obtain ⟨b0, b1⟩ := bytes_range s (turnK s l1.length)
  have hcell : W.cell? ⟨w3.heap.size, turnK s l1.length, none⟩ = some (.int .u8 ((bytesOf s).getD (turnK s l1.length) 0)) := by
    obtain ⟨ad, e, hc⟩ := HR.out.2.2 hp
    cases e
    have := hc _ hk
    rw [add_plain] at this
    simpa using this
  have hfz : W.frozen? ⟨w3.heap.size, turnK s l1.length, none⟩ = false := by simpa using HF.out _ hk
  have hcv : ∀ v : Int, (convert 22 9 (.slice (some ⟨w3.heap.size, 0, none⟩) s.size c)).run Tryd.prog (W.setCell ⟨w3.heap.size, turnK s l1.length, none⟩ (.int .u8 v)) = .ok (.string (strOfNums ((bytesOf s).set (turnK s l1.length) v))) (W.setCell ⟨w3.heap.size, turnK s l1.length, none⟩ (.int .u8 v)) := fun v =>
    string_of_reads Tryd.underlying22 Tryd.underlying5 Tryd.underlying9 (reads_set (by simpa using HR.out) hk)
  unfold turnS turnV at A4'
  generalize turnK s l1.length = kk at hX hk hcell hfz hcv b0 b1 A4' ⊢
  generalize (bytesOf s).getD kk 0 = b at hcell b0 b1 A4' ⊢
  go_wp2_with fail
  refine (impl_CmdGet.calls k _ _ _ _ _ _ _ _ _ A4'.out).mono ?_
  rintro e w5 ⟨rfl, B5⟩
  have G4 : Below w.heap.size w (W.setCell ⟨w3.heap.size, kk, none⟩ (.int .u8 (Go.bits .xor .u8 b (1 + (l0.length : Int) % 255)))) := (G3.out.trans (HB.out.mono G3.out.size)).setCell G3.out.size _
  have G5 := Aside0.mk (below_then G4 G4.size B5)
  clear B5 G4 G3 HB HR HF hcell hfz hcv hrun e0 e1 e2 e3 e4 e5 f0 f1 f2 f3 f4 f5 R3
  go_wp2_with fail
  go_ret
  exact ⟨by simp, by first | exact G5.out | exact (G5.out.alloc G5.out.size _)⟩

end Go.Proofs.YtpehnincnpnggaaDoor.P
