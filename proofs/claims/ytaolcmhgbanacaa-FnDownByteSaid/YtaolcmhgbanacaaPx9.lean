/- The machine side of these statements, function by function: what each Go function answers (as a Lean function), and that it does. Written by a program (mp.py) for this claim. -/
import Derived.Test.YtaolcmhgbanacaaPx0
import Derived.Test.YtaolcmhgbanacaaPx1
import Derived.Test.YtaolcmhgbanacaaPx4
import Derived.Test.YtaolcmhgbanacaaPx7
import Derived.Test.YtaolcmhgbanacaaPx8
namespace Go.Proofs.Ytaolcmhgbanacaa.P
open Go.RowKit Go.Proofs.YtaolcmhgbanacaaW.PrintWords Go.Proofs.YtaolcmhgbanacaaW.PrintLast Go.Proofs.YtaolcmhgbanacaaW.PrintMore
attribute [local go_sem] max2_int min2_int max_two min_two max_three min_three max_four min_four   -- for this text's walks alone
set_option linter.unusedVariables false
set_option linter.unusedSimpArgs false

/-! ### impl_DownGet: function 7 -/
abbrev DownR := Int × Int × Int × Int × Int × ByteArray × ByteArray × Bool
def noDown : DownR := (0, 0, 0, 0, 0, ⟨#[]⟩, ⟨#[]⟩, false)
def impl_DownGet.g (k : Nat) (a0 : ByteArray) (head all own first : Int) (data farm : ByteArray) : Option DownR :=
  (impl_DownPut.f k (head / 16) (head / 2 % 8) all own (first - 6144) data farm).bind fun s => if s.toList = a0.toList then some (head / 16, head / 2 % 8, all, own, first - 6144, data, farm, true) else some noDown
def impl_DownGet.f (k : Nat) (a0 : ByteArray) : Option DownR :=
  if (a0.size : Int) = 40 then
    (impl_cursor_number.f k a0 0 false 2).bind fun t1 => (impl_cursor_number.f k t1.2.1 t1.2.2.1 t1.2.2.2 1).bind fun t2 => (impl_cursor_number.f k t2.2.1 t2.2.2.1 t2.2.2.2 1).bind fun t3 =>
    (impl_cursor_number.f k t3.2.1 t3.2.2.1 t3.2.2.2 2).bind fun t4 => (impl_cursor_take.f t4.2.1 t4.2.2.1 t4.2.2.2 28).bind fun t5 => (impl_cursor_take.f t5.2.1 t5.2.2.1 t5.2.2.2 4).bind fun t6 =>
    if 0 ≤ t1.1 ∧ t1.1 ≤ 16777216 ∧ 0 ≤ t4.1 ∧ t4.1 ≤ 16777216 then
      if t6.2.2.2 = true then some noDown else impl_DownGet.g k a0 t1.1 t2.1 t3.1 t4.1 t5.1 t6.1
    else none
  else some noDown
theorem impl_DownGet.mono : ∀ a0 k, LeO (impl_DownGet.f k a0) (impl_DownGet.f (k + 1) a0) := by
  intro a0 k
  unfold impl_DownGet.f impl_DownGet.g
  repeat' first
  | (with_reducible exact impl_cursor_number.mono _ _ _ _ _)
  | (with_reducible exact impl_DownPut.mono _ _ _ _ _ _ _ _)
  | (with_reducible exact LeO.refl _)
  | (with_reducible exact LeO.none _)
  | (with_reducible refine LeO.ite ?_ ?_)
  | (with_reducible refine LeO.bind ?_ (fun _ => ?_))
theorem down_row {W : World} {g : Nat} {v0 v1 v2 v3 v4 v5 v6 : Value} (h : W.heap[g]? = some (.cells #[v0, v1, v2, v3, v4, v5, v6] 24 (0, 0))) :
    (W.cell? ⟨g, 0, none⟩ = some v0 ∧ W.cell? ⟨g, 1, none⟩ = some v1 ∧ W.cell? ⟨g, 2, none⟩ = some v2 ∧ W.cell? ⟨g, 3, none⟩ = some v3 ∧ W.cell? ⟨g, 4, none⟩ = some v4 ∧ W.cell? ⟨g, 5, none⟩ = some v5 ∧ W.cell? ⟨g, 6, none⟩ = some v6) ∧
    (W.frozen? ⟨g, 0, none⟩ = false ∧ W.frozen? ⟨g, 1, none⟩ = false ∧ W.frozen? ⟨g, 2, none⟩ = false ∧ W.frozen? ⟨g, 3, none⟩ = false ∧ W.frozen? ⟨g, 4, none⟩ = false ∧ W.frozen? ⟨g, 5, none⟩ = false ∧ W.frozen? ⟨g, 6, none⟩ = false) := by
  have c := fun j => cell_of_row W g j _ _ _ h
  have f := fun j => frozen_of_row W g j _ _ h
  exact ⟨⟨c 0, c 1, c 2, c 3, c 4, c 5, c 6⟩, f 0, f 1, f 2, f 3, f 4, f 5, f 6⟩
theorem down_set {W : World} {g : Nat} {c0 c1 c2 c3 c4 c5 c6 : Value} (h : W.heap[g]? = some (.cells #[c0, c1, c2, c3, c4, c5, c6] 24 (0, 0))) (v0 v1 v2 v3 v4 v5 v6 : Value) :
    (((((((W.setCell ⟨g, 0, none⟩ v0).setCell ⟨g, 1, none⟩ v1).setCell ⟨g, 2, none⟩ v2).setCell ⟨g, 3, none⟩ v3).setCell ⟨g, 4, none⟩ v4).setCell ⟨g, 5, none⟩ v5).setCell ⟨g, 6, none⟩ v6).heap[g]? = some (.cells #[v0, v1, v2, v3, v4, v5, v6] 24 (0, 0)) := by
  have h0 := blk_set h 0 v0
  have h1 := blk_set h0 1 v1
  have h2 := blk_set h1 2 v2
  have h3 := blk_set h2 3 v3
  have h4 := blk_set h3 4 v4
  have h5 := blk_set h4 5 v5
  have h6 := blk_set h5 6 v6
  simpa using h6
theorem down_set_below {B : Nat} {w W : World} {g : Nat} (h : Below B w W) (hg : B ≤ g) (v0 v1 v2 v3 v4 v5 v6 : Value) :
    Below B w (((((((W.setCell ⟨g, 0, none⟩ v0).setCell ⟨g, 1, none⟩ v1).setCell ⟨g, 2, none⟩ v2).setCell ⟨g, 3, none⟩ v3).setCell ⟨g, 4, none⟩ v4).setCell ⟨g, 5, none⟩ v5).setCell ⟨g, 6, none⟩ v6) :=
  ((((((h.setCell hg _).setCell hg _).setCell hg _).setCell hg _).setCell hg _).setCell hg _).setCell hg _
set_option maxHeartbeats 8000000 in
set_option maxRecDepth 100000 in
theorem impl_DownGet.calls (k : Nat) (a0 : ByteArray) (r1 : Int) (r2 : Int) (r3 : Int) (r4 : Int) (r5 : Int) (r6 : ByteArray) (r7 : ByteArray) (r8 : Bool) (w : World) (h : impl_DownGet.f k a0 = some (r1, r2, r3, r4, r5, r6, r7, r8)) :
  Calls Try.prog 7 #[.string a0] w fun e w' => e = .returned (.tuple #[.agg #[.int .i64 r1, .int .i64 r2, .int .i64 r3, .int .i64 r4, .int .i64 r5, .string r6, .string r7], .bool r8]) ∧ Below w.heap.size w w' := by
  unfold impl_DownGet.f at h
  by_cases hs : (a0.size : Int) = 40
  · rw [if_pos hs] at h
    obtain ⟨⟨h1, x1, p1, b1⟩, A1, h⟩ := Option.bind_eq_some_iff.mp h
    obtain ⟨⟨h2, x2, p2, b2⟩, A2, h⟩ := Option.bind_eq_some_iff.mp h
    obtain ⟨⟨h3, x3, p3, b3⟩, A3, h⟩ := Option.bind_eq_some_iff.mp h
    obtain ⟨⟨h4, x4, p4, b4⟩, A4, h⟩ := Option.bind_eq_some_iff.mp h
    obtain ⟨⟨h5, x5, p5, b5⟩, A5, h⟩ := Option.bind_eq_some_iff.mp h
    obtain ⟨⟨h6, x6, p6, b6⟩, A6, h⟩ := Option.bind_eq_some_iff.mp h
    replace A1 := Aside0.mk A1
    replace A2 := Aside0.mk A2
    replace A3 := Aside0.mk A3
    replace A4 := Aside0.mk A4
    replace A5 := Aside0.mk A5
    replace A6 := Aside0.mk A6
    split at h
    case isFalse => cases h
    rename_i hh
    obtain ⟨q0, q1, q2, q3⟩ : 0 ≤ h1 ∧ h1 ≤ 16777216 ∧ 0 ≤ h4 ∧ h4 ≤ 16777216 := hh
    have HH := Aside0.mk h
    clear h
    have s0 : ((a0.size : Int) == 40) = true := beq_iff_eq.mpr hs
    have s1 : ((a0.size : Int) != 40) = false := bne_eq_false_iff_eq.mpr hs
    clear hs
    go_enter Try.func7, Try.ntmps7
    go_wp2_with fail
    have I0 : IsS40 w ((w.alloc (.cells #[.int .i64 0, .int .i64 0, .int .i64 0, .int .i64 0, .int .i64 0, .string ⟨#[]⟩, .string ⟨#[]⟩] 24)).alloc (.cells #[.string a0, .int .i64 0, .bool false] 40)) (w.heap.size + 1) a0 0 false := ⟨heap_alloc2_new _ _ _, by omega⟩
    have B0 : Below w.heap.size w ((w.alloc (.cells #[.int .i64 0, .int .i64 0, .int .i64 0, .int .i64 0, .int .i64 0, .string ⟨#[]⟩, .string ⟨#[]⟩] 24)).alloc (.cells #[.string a0, .int .i64 0, .bool false] 40)) := ((Below.refl _ _).alloc (Nat.le_refl _) _).alloc (by simp) _
    have R0 : ((w.alloc (.cells #[.int .i64 0, .int .i64 0, .int .i64 0, .int .i64 0, .int .i64 0, .string ⟨#[]⟩, .string ⟨#[]⟩] 24)).alloc (.cells #[.string a0, .int .i64 0, .bool false] 40)).heap[w.heap.size]? = some (.cells #[.int .i64 0, .int .i64 0, .int .i64 0, .int .i64 0, .int .i64 0, .string ⟨#[]⟩, .string ⟨#[]⟩] 24 (0, 0)) := heap_alloc2_old _ _ _
    refine (impl_cursor_number.calls k _ _ _ _ _ _ _ _ _ w _ I0 B0 A1.out).mono ?_
    rintro e w1 ⟨rfl, I1, B1, K1⟩
    have R1 := Aside0.mk (K1.blk R0 (by simp) (by simp))
    replace I1 := Aside0.mk I1
    replace B1 := Aside0.mk B1
    clear I0 B0 R0 K1
    go_wp2_with fail
    refine (impl_cursor_number.calls k _ _ _ _ _ _ _ _ _ w _ I1.out B1.out A2.out).mono ?_
    rintro e w2 ⟨rfl, I2, B2, K2⟩
    have R2 := Aside0.mk (K2.blk R1.out (by simp) (by simp))
    replace I2 := Aside0.mk I2
    replace B2 := Aside0.mk B2
    clear I1 B1 R1 K2
    go_wp2_with fail
    refine (impl_cursor_number.calls k _ _ _ _ _ _ _ _ _ w _ I2.out B2.out A3.out).mono ?_
    rintro e w3 ⟨rfl, I3, B3, K3⟩
    have R3 := Aside0.mk (K3.blk R2.out (by simp) (by simp))
    replace I3 := Aside0.mk I3
    replace B3 := Aside0.mk B3
    clear I2 B2 R2 K3
    go_wp2_with fail
    refine (impl_cursor_number.calls k _ _ _ _ _ _ _ _ _ w _ I3.out B3.out A4.out).mono ?_
    rintro e w4 ⟨rfl, I4, B4, K4⟩
    have R4 := Aside0.mk (K4.blk R3.out (by simp) (by simp))
    replace I4 := Aside0.mk I4
    replace B4 := Aside0.mk B4
    clear I3 B3 R3 K4
    go_wp2_with fail
    refine (impl_cursor_take.calls _ _ _ _ _ _ _ _ _ w _ I4.out B4.out A5.out).mono ?_
    rintro e w5 ⟨rfl, I5, B5, K5⟩
    have R5 := Aside0.mk (K5.blk R4.out (by simp) (by simp))
    replace I5 := Aside0.mk I5
    replace B5 := Aside0.mk B5
    clear I4 B4 R4 K5
    go_wp2_with fail
    refine (impl_cursor_take.calls _ _ _ _ _ _ _ _ _ w _ I5.out B5.out A6.out).mono ?_
    rintro e w6 ⟨rfl, I6, B6, K6⟩
    have R6 := Aside0.mk (K6.blk R5.out (by simp) (by simp))
    replace I6 := Aside0.mk I6
    replace B6 := Aside0.mk B6
    clear I5 B5 R5 K6
    have hz := I6.out.lt
    have hz0 : w.heap.size < w6.heap.size := by omega
    have hz1 : ¬ (w6.heap.size = w.heap.size) := by omega
    have hz2 : ¬ (w.heap.size = w6.heap.size) := by omega
    have hz3 : ¬ (w6.heap.size = w.heap.size + 1) := by omega
    have hz4 : ¬ (w.heap.size + 1 = w6.heap.size) := by omega
    have c2 : w6.cell? ⟨w.heap.size + 1, 2, none⟩ = some (.bool b6) := (cell_of_row _ _ _ _ _ _ I6.out.1).trans rfl
    obtain ⟨⟨c0, c1, c3, c4, c5, c6, c7⟩, f0, f1, f3, f4, f5, f6, f7⟩ := down_row R6.out
    cases b6 with
    | true =>
      have HH := HH.out
      rw [if_pos rfl] at HH
      unfold noDown at HH
      simp only [Option.some.injEq, Prod.mk.injEq] at HH
      obtain ⟨rfl, rfl, rfl, rfl, rfl, rfl, rfl, rfl⟩ := HH
      go_wp2_with fail
      refine bodyPost_ret (results_ct rfl _ _ w.heap.size 24 #[.int .i64 0, .int .i64 0, .int .i64 0, .int .i64 0, .int .i64 0, .string ⟨#[]⟩, .string ⟨#[]⟩] (0, 0) _ rfl (blk_alloc (down_set R6.out _ _ _ _ _ _ _) _) Try.underlying24 rfl (by kernel_rfl)) rfl ?_
      exact ⟨rfl, (down_set_below B6.out (Nat.le_refl _) _ _ _ _ _ _ _).alloc (by simpa using Nat.le_of_lt hz0) _⟩
    | false =>
      have HH := HH.out
      rw [if_neg (by simp)] at HH
      unfold impl_DownGet.g at HH
      obtain ⟨s, A7, HH⟩ := Option.bind_eq_some_iff.mp HH
      replace A7 := Aside0.mk A7
      by_cases hq : s.toList = a0.toList
      · rw [if_pos hq] at HH
        simp only [Option.some.injEq, Prod.mk.injEq] at HH
        obtain ⟨rfl, rfl, rfl, rfl, rfl, rfl, rfl, rfl⟩ := HH
        have t0 : (s.toList == a0.toList) = true := beq_iff_eq.mpr hq
        have t1 : (s.toList != a0.toList) = false := bne_eq_false_iff_eq.mpr hq
        clear hq
        go_wp2_with fail
        refine (impl_DownPut.calls k _ _ _ _ _ _ _ _ _ A7.out).mono ?_
        rintro e w7 ⟨rfl, B7⟩
        have R7 := Aside0.mk (blk_below (blk_alloc R6.out _) B7)
        have D7 := Aside0.mk (blk_below (heap_alloc_new _ _) B7)
        have BB := Aside0.mk (below_then (B6.out.alloc B6.out.size _) (Nat.le_trans B6.out.size (by simp)) B7)
        have zz : w6.heap.size < w7.heap.size := by have := B7.size; simp at this; omega
        clear B7 c0 c1 c2 c3 c4 c5 c6 c7 f0 f1 f3 f4 f5 f6 f7 R6 B6
        obtain ⟨⟨c0, c1, c3, c4, c5, c6, c7⟩, f0, f1, f2, f3, f4, f5, f6⟩ := down_row R7.out
        obtain ⟨⟨d0, d1, d3, d4, d5, d6, d7⟩, _⟩ := down_row D7.out
        go_wp2_with fail
        refine bodyPost_ret (results_ct rfl _ _ w.heap.size 24 #[.int .i64 (h1 / 16), .int .i64 (h1 / 2 % 8), .int .i64 h2, .int .i64 h3, .int .i64 (h4 - 6144), .string h5, .string h6] (0, 0) _ rfl (down_set R7.out _ _ _ _ _ _ _) Try.underlying24 rfl (by kernel_rfl)) rfl ?_
        exact ⟨rfl, down_set_below BB.out (Nat.le_refl _) _ _ _ _ _ _ _⟩
      · rw [if_neg hq] at HH
        unfold noDown at HH
        simp only [Option.some.injEq, Prod.mk.injEq] at HH
        obtain ⟨rfl, rfl, rfl, rfl, rfl, rfl, rfl, rfl⟩ := HH
        have t0 : (s.toList == a0.toList) = false := beq_eq_false_iff_ne.mpr hq
        have t1 : (s.toList != a0.toList) = true := bne_iff_ne.mpr hq
        clear hq
        go_wp2_with fail
        refine (impl_DownPut.calls k _ _ _ _ _ _ _ _ _ A7.out).mono ?_
        rintro e w7 ⟨rfl, B7⟩
        have R7 := Aside0.mk (blk_below (blk_alloc R6.out _) B7)
        have BB := Aside0.mk (below_then (B6.out.alloc B6.out.size _) (Nat.le_trans B6.out.size (by simp)) B7)
        clear B7 c0 c1 c3 c4 c5 c6 c7 f0 f1 f3 f4 f5 f6 f7 R6 B6
        obtain ⟨⟨c0, c1, c3, c4, c5, c6, c7⟩, f0, f1, f2, f3, f4, f5, f6⟩ := down_row R7.out
        go_wp2_with fail
        refine bodyPost_ret (results_ct rfl _ _ w.heap.size 24 #[.int .i64 0, .int .i64 0, .int .i64 0, .int .i64 0, .int .i64 0, .string ⟨#[]⟩, .string ⟨#[]⟩] (0, 0) _ rfl (down_set R7.out _ _ _ _ _ _ _) Try.underlying24 rfl (by kernel_rfl)) rfl ?_
        exact ⟨rfl, down_set_below BB.out (Nat.le_refl _) _ _ _ _ _ _ _⟩
  · rw [if_neg hs] at h
    unfold noDown at h
    simp only [Option.some.injEq, Prod.mk.injEq] at h
    obtain ⟨rfl, rfl, rfl, rfl, rfl, rfl, rfl, rfl⟩ := h
    have s0 : ((a0.size : Int) == 40) = false := beq_eq_false_iff_ne.mpr hs
    have s1 : ((a0.size : Int) != 40) = true := bne_iff_ne.mpr hs
    clear hs
    go_enter Try.func7, Try.ntmps7
    go_wp2_with fail
    refine bodyPost_ret (results_ct rfl _ _ w.heap.size 24 #[.int .i64 0, .int .i64 0, .int .i64 0, .int .i64 0, .int .i64 0, .string ⟨#[]⟩, .string ⟨#[]⟩] (0, 0) _ rfl (heap_alloc_new _ _) Try.underlying24 rfl (by kernel_rfl)) rfl ?_
    exact ⟨rfl, (Below.refl _ _).alloc (Nat.le_refl _) _⟩

/-! ### laws_FnDownByte: function 3 -/
/-- '[]byte(s)': a new row, of which nothing else is. -/
theorem bytes_made {P : Program} (W0 : World) (src dst e : TypeId) (s : ByteArray) {u : TypeDesc} (hl : s.size ≤ 9223372036854775807) (hs : P.underlying src = some u) (hd : P.underlying dst = some (.slice e)) (he : P.underlying e = some (.int .u8)) :
    ∃ W c, (convert src dst (.string s)).run P W0 = .ok (.slice (some ⟨W0.heap.size, 0, none⟩) s.size c) W ∧ Aside0 (Below W0.heap.size W0 W) ∧ Aside0 (ReadsInt W .u8 (some ⟨W0.heap.size, 0, none⟩) s.size (bytesOf s)) ∧
      Aside0 (∀ j, j < s.size → W.frozen? ⟨W0.heap.size, j, none⟩ = false) := by
  refine ⟨_, _, Lib.run_convert_string_bytes W0 src dst e s hs hd he, ⟨bytes_below (Below.refl _ _) (Nat.le_refl _) e s⟩, ⟨bytes_reads W0 e s hl⟩, ⟨fun j hj => ?_⟩⟩
  have hz : s.size ≤ (Lib.bytesCells W0 e s).size := by simp [Lib.bytesCells]
  simp only [World.frozen?, Lib.bytesWorld_at_new, Bool.and_eq_false_iff, decide_eq_false_iff_not]
  left
  omega
theorem bytes_range (s : ByteArray) (k : Nat) : 0 ≤ (bytesOf s).getD k 0 ∧ (bytesOf s).getD k 0 ≤ 255 := by
  rw [List.getD_eq_getElem?_getD]
  cases e : (bytesOf s)[k]? with
  | none => simp
  | some x =>
    have := List.mem_of_getElem? e
    simp only [bytesOf, List.mem_map] at this
    obtain ⟨b, _, rfl⟩ := this
    have := b.toNat_lt
    simp
    omega
/-- A byte of a row that is read is written. -/
theorem reads_set {W : World} {g n k : Nat} {xs : List Int} {v : Int} (h : ReadsInt W .u8 (some ⟨g, 0, none⟩) n xs) (hk : k < n) : ReadsInt (W.setCell ⟨g, k, none⟩ (.int .u8 v)) .u8 (some ⟨g, 0, none⟩) n (xs.set k v) := by
  obtain ⟨h0, h1, h2⟩ := h
  refine ⟨by simpa using h0, h1, fun hn => ⟨_, rfl, fun j hj => ?_⟩⟩
  obtain ⟨ad, e, hc⟩ := h2 hn
  cases e
  have hj' := hc j hj
  have hk' := hc k hk
  rw [add_plain] at hj' hk' ⊢
  by_cases e : j = k
  · subst e
    rw [World.cell?_setCell_same _ _ _ hk']
    have : j < xs.length := by omega
    simp [List.getD_eq_getElem?_getD, this]
  · rw [World.cell?_setCell_other _ _ _ _ (by first | (simp; done) | (simp; exact fun h => e (Eq.symm h))), hj']
    have e2 : ¬ k = j := fun h => e (Eq.symm h)
    simp [List.getD_eq_getElem?_getD, e2]
def turnK (s : ByteArray) (m : Nat) : Nat := m % s.size
def turnV (s : ByteArray) (n m : Nat) : Int := Go.bits .xor .u8 ((bytesOf s).getD (turnK s m) 0) (1 + (n : Int) % 255)
def turnS (s : ByteArray) (n m : Nat) : ByteArray := strOfNums ((bytesOf s).set (turnK s m) (turnV s n m))
def laws_FnDownByte.f (k : Nat) (l0 : List Int) (l1 : List Int) : Option (Bool) :=
  if (l0.length : Int) > 1048576 then some true else if (l1.length : Int) > 1048576 then some true else
  (spec_DrawDownPut.f k l0).bind fun d => (impl_DownPut.f k d.1 d.2.1 d.2.2.1 d.2.2.2.1 d.2.2.2.2.1 d.2.2.2.2.2.1 d.2.2.2.2.2.2).bind fun s => (spec_DownPut.f k d.1 d.2.1 d.2.2.1 d.2.2.2.1 d.2.2.2.2.1 d.2.2.2.2.2.1 d.2.2.2.2.2.2).bind fun s2 =>
    if s = s2 then (if s.size = 0 then some true else if s.size ≤ 4611686018427387904 then ((impl_DownGet.f k (turnS s l0.length l1.length)).bind fun x => if x.2.2.2.2.2.2.2 = false ∧ x.1 = 0 ∧ x.2.1 = 0 ∧ x.2.2.1 = 0 ∧ x.2.2.2.1 = 0 ∧ x.2.2.2.2.1 = 0 ∧ x.2.2.2.2.2.1 = ⟨#[]⟩ ∧ x.2.2.2.2.2.2.1 = ⟨#[]⟩ then some true else none) else none) else none
theorem string_nil (s : ByteArray) : (s.toList == ([] : List UInt8)) = decide (s.size = 0) := by
  have e : s.toList = s.data.toList := ByteArray.toList_eq s
  rw [e, Bool.eq_iff_iff, beq_iff_eq, decide_eq_true_iff]
  constructor
  · intro h
    rw [← data_length, h]
    rfl
  · intro h
    exact List.eq_nil_of_length_eq_zero (by rw [data_length]; exact h)
set_option maxHeartbeats 8000000 in
set_option maxRecDepth 100000 in
theorem laws_FnDownByte.calls (k : Nat) (A0 : Option Addr) (c0 : Nat) (l0 : List Int) (A1 : Option Addr) (c1 : Nat) (l1 : List Int) (r : Bool) (w : World) (hr0 : Kd.C (Kd.int .u8) w A0 l0.length l0) (hc0 : l0.length ≤ c0) (hr1 : Kd.C (Kd.int .u8) w A1 l1.length l1) (hc1 : l1.length ≤ c1) (h : laws_FnDownByte.f k l0 l1 = some r) :
  Calls Try.prog 3 #[.slice A0 l0.length c0, .slice A1 l1.length c1] w fun e w' => e = .returned (.bool r) ∧ Below w.heap.size w w' := by
  unfold laws_FnDownByte.f at h
  replace hr0 := Aside0.mk hr0
  replace hc0 := Aside0.mk hc0
  clear hr1 hc1
  by_cases d0 : (l0.length : Int) > 1048576
  · rw [if_pos d0] at h
    obtain rfl := Option.some.inj h
    have d0b : decide (1048576 < (l0.length : Int)) = true := decide_eq_true d0
    clear h d0
    go_enter Try.func3, Try.ntmps3
    go_wp2
    go_ret
    exact ⟨rfl, Below.refl _ _⟩
  rw [if_neg d0] at h
  have d0b : decide (1048576 < (l0.length : Int)) = false := decide_eq_false d0
  clear d0
  by_cases d1 : (l1.length : Int) > 1048576
  · rw [if_pos d1] at h
    obtain rfl := Option.some.inj h
    have d1b : decide (1048576 < (l1.length : Int)) = true := decide_eq_true d1
    clear h d1
    go_enter Try.func3, Try.ntmps3
    go_wp2
    go_ret
    exact ⟨rfl, Below.refl _ _⟩
  rw [if_neg d1] at h
  have d1b : decide (1048576 < (l1.length : Int)) = false := decide_eq_false d1
  clear d1
  obtain ⟨⟨t0, t1, t2, t3, t4, t5, t6⟩, A1', h1⟩ := Option.bind_eq_some_iff.mp h
  clear h
  obtain ⟨s, A2', h2⟩ := Option.bind_eq_some_iff.mp h1
  clear h1
  obtain ⟨s2, A3', h3⟩ := Option.bind_eq_some_iff.mp h2
  clear h2
  replace A1' := Aside0.mk A1'
  replace A2' := Aside0.mk A2'
  by_cases es : s = s2
  case neg => rw [if_neg es] at h3; cases h3
  subst es
  rw [if_pos rfl] at h3
  replace A3' := Aside0.mk A3'
  replace h3 := Aside0.mk h3
  go_enter Try.func3, Try.ntmps3
  go_wp2_with fail
  refine (spec_DrawDownPut.calls k A0 c0 l0 t0 t1 t2 t3 t4 t5 t6 w hr0.out hc0.out A1'.out).mono ?_
  rintro e w1 ⟨rfl, B1⟩
  replace B1 := Aside0.mk B1
  clear hr0 hc0 A1'
  go_wp2_with fail
  refine (impl_DownPut.calls k t0 t1 t2 t3 t4 t5 t6 s _ A2'.out).mono ?_
  rintro e w2 ⟨rfl, B2⟩
  have R2 := Aside0.mk (blk_below (g := w1.heap.size) (o := .cells #[.int .i64 t0, .int .i64 t1, .int .i64 t2, .int .i64 t3, .int .i64 t4, .string t5, .string t6] 24 (0, 0)) (blk_new w1 _) B2)
  have G2 := Aside0.mk (below_then (B1.out.alloc B1.out.size _) ((B1.out.alloc B1.out.size _).size) B2)
  have hne : w1.heap.size < w2.heap.size := by have := B2.size; simp at this; omega
  clear B1 B2 A2'
  generalize w1.heap.size = g at R2 hne ⊢
  obtain ⟨⟨e0, e1, e2, e3, e4, e5, e6⟩, f0, f1, f2, f3, f4, f5, f6⟩ := down_row R2.out
  go_wp2_with fail
  refine (spec_DownPut.calls k t0 t1 t2 t3 t4 t5 t6 s _ A3'.out).mono ?_
  rintro e w3 ⟨rfl, B3⟩
  have R3 := Aside0.mk (blk_below R2.out B3)
  have G3 := Aside0.mk (below_then G2.out G2.out.size B3)
  clear e0 e1 e2 e3 e4 e5 e6 f0 f1 f2 f3 f4 f5 f6 R2 G2 B3 hne
  obtain ⟨⟨e0, e1, e2, e3, e4, e5, e6⟩, f0, f1, f2, f3, f4, f5, f6⟩ := down_row R3.out
  by_cases hz : s.size = 0
  · have q0 : (s.toList == ([] : List UInt8)) = true := by rw [string_nil, decide_eq_true hz]
    have h4 := h3.out
    rw [if_pos hz] at h4
    obtain rfl := Option.some.inj h4
    clear h3 h4
    go_wp2_with fail
    refine (spec_DownPut.calls k t0 t1 t2 t3 t4 t5 t6 s _ A3'.out).mono ?_
    rintro e w4 ⟨rfl, B4⟩
    have G4 := Aside0.mk (below_then G3.out G3.out.size B4)
    clear B4 G3
    go_wp2
    go_ret
    exact ⟨by simp, G4.out⟩
  have q0 : (s.toList == ([] : List UInt8)) = false := by rw [string_nil, decide_eq_false hz]
  have h4 := h3.out
  clear h3
  rw [if_neg hz] at h4
  by_cases hl : s.size ≤ 4611686018427387904
  case neg => rw [if_neg hl] at h4; cases h4
  rw [if_pos hl] at h4
  obtain ⟨⟨r1, r2, r3, r4, r5, r6, r7, r8⟩, A4', h5⟩ := Option.bind_eq_some_iff.mp h4
  clear h4
  replace A4' := Aside0.mk A4'
  split at h5
  case isFalse => cases h5
  rename_i hx
  obtain ⟨x8, x1, x2, x3, x4, x5, x6, x7⟩ := hx
  dsimp only at x8 x1 x2 x3 x4 x5 x6 x7
  subst x8 x1 x2 x3 x4 x5 x6 x7
  obtain rfl := Option.some.inj h5
  clear h5
  have hp : 0 < s.size := Nat.pos_of_ne_zero hz
  obtain ⟨W, c, hrun, HB, HR, HF⟩ := bytes_made (P := Try.prog) w3 9 22 5 s (by omega) Try.underlying9 Try.underlying22 Try.underlying5
  have hX : (l1.length : Int) % (s.size : Int) = (turnK s l1.length : Int) := (Int.natCast_emod _ _).symm
  have hk : turnK s l1.length < s.size := Nat.mod_lt _ hp
  obtain ⟨b0, b1⟩ := bytes_range s (turnK s l1.length)
  have hcell : W.cell? ⟨w3.heap.size, turnK s l1.length, none⟩ = some (.int .u8 ((bytesOf s).getD (turnK s l1.length) 0)) := by
    obtain ⟨ad, e, hc⟩ := HR.out.2.2 hp
    cases e
    have := hc _ hk
    rw [add_plain] at this
    simpa using this
  have hfz : W.frozen? ⟨w3.heap.size, turnK s l1.length, none⟩ = false := by simpa using HF.out _ hk
  have hcv : ∀ v : Int, (convert 22 9 (.slice (some ⟨w3.heap.size, 0, none⟩) s.size c)).run Try.prog (W.setCell ⟨w3.heap.size, turnK s l1.length, none⟩ (.int .u8 v)) = .ok (.string (strOfNums ((bytesOf s).set (turnK s l1.length) v))) (W.setCell ⟨w3.heap.size, turnK s l1.length, none⟩ (.int .u8 v)) := fun v =>
    string_of_reads Try.underlying22 Try.underlying5 Try.underlying9 (reads_set (by simpa using HR.out) hk)
  unfold turnS turnV at A4'
  generalize turnK s l1.length = kk at hX hk hcell hfz hcv b0 b1 A4' ⊢
  generalize (bytesOf s).getD kk 0 = b at hcell b0 b1 A4' ⊢
  go_wp2_with fail
  refine (impl_DownGet.calls k _ _ _ _ _ _ _ _ _ _ A4'.out).mono ?_
  rintro e w5 ⟨rfl, B5⟩
  have G4 : Below w.heap.size w (W.setCell ⟨w3.heap.size, kk, none⟩ (.int .u8 (Go.bits .xor .u8 b (1 + (l0.length : Int) % 255)))) := (G3.out.trans (HB.out.mono G3.out.size)).setCell G3.out.size _
  have G5 := Aside0.mk (below_then G4 G4.size B5)
  clear B5 G4 G3 HB HR HF hcell hfz hcv hrun e0 e1 e2 e3 e4 e5 e6 f0 f1 f2 f3 f4 f5 f6 R3
  go_wp2_with fail
  go_ret
  exact ⟨by simp, by first | exact G5.out | exact (G5.out.alloc G5.out.size _)⟩

end Go.Proofs.Ytaolcmhgbanacaa.P
