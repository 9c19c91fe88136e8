/- The machine side of these statements, function by function: what each Go function answers (as a Lean function), and that it does. Written by a program (mp.py) for this claim. -/
import Derived.Test.YtmhdphohhheoaaaPx0
import Derived.Test.YtmhdphohhheoaaaPx2
import Derived.Test.YtmhdphohhheoaaaPx13
import Derived.Test.YtmhdphohhheoaaaPx14
namespace Go.Proofs.Ytmhdphohhheoaaa.P
open Go.RowKit Go.Proofs.YtmhdphohhheoaaaW.PrintWords Go.Proofs.YtmhdphohhheoaaaW.PrintLast Go.Proofs.YtmhdphohhheoaaaW.PrintMore
attribute [local go_sem] max2_int min2_int max_two min_two max_three min_three max_four min_four   -- for this text's walks alone
set_option linter.unusedVariables false
set_option linter.unusedSimpArgs false

/-! ### spec_DrawProgOk: function 35 -/
def spec_DrawProgOk.l0 : Nat → List (S53) → Option ((List (S53)))
 | 0, _ => none
 | k + 1, x4 => if (x4.length : Int) ≤ 16 then (if x4.length < 5864062014805 then (spec_DrawProgOk.l0 k (x4 ++ [(⟨11, 0, 0⟩ : S53)])) else (none)) else (some x4)
def spec_DrawProgOk.f (k : Nat) (l0 : List Int) : Option ((List (S53))) := (spec_l1Open.f l0).bind fun bt200 => ((spec_l15Prog.f k bt200.1 bt200.2).bind fun bt203 => ((spec_l1Rd_pick.f k bt200.1 bt203.2 (bt203.1.length : Int)).bind fun bt207 => ((spec_l1Rd_pick.f k bt200.1 bt207.2 10).bind fun bt209 => (if bt209.1 = 0 then ((spec_l1Rd_one.f k bt200.1 bt209.2 (([0, 14] : List Int))).bind fun bt214 => (if 0 ≤ bt207.1 then (if bt207.1 < (bt203.1.length : Int) then (some (bt203.1.set (bt207.1 : Int).toNat (⟨bt214.1, (rd_T53 bt203.1 bt207.1).f1, (rd_T53 bt203.1 bt207.1).f2⟩ : S53))) else (none)) else (none))) else (if bt209.1 = 1 then ((spec_l1Rd_one.f k bt200.1 bt209.2 (([(-1), 8] : List Int))).bind fun bt220 => (if 0 ≤ bt207.1 then (if bt207.1 < (bt203.1.length : Int) then (some (bt203.1.set (bt207.1 : Int).toNat (⟨(rd_T53 bt203.1 bt207.1).f0, bt220.1, (rd_T53 bt203.1 bt207.1).f2⟩ : S53))) else (none)) else (none))) else (if bt209.1 = 2 then ((spec_l1Rd_one.f k bt200.1 bt209.2 (([(-1), 10000, 9] : List Int))).bind fun bt226 => (if 0 ≤ bt207.1 then (if bt207.1 < (bt203.1.length : Int) then (some (bt203.1.set (bt207.1 : Int).toNat (⟨(rd_T53 bt203.1 bt207.1).f0, (rd_T53 bt203.1 bt207.1).f1, bt226.1⟩ : S53))) else (none)) else (none))) else (if bt209.1 = 3 then (spec_DrawProgOk.l0 k bt203.1) else (if bt209.1 = 4 then (some (([] : List (S53)))) else (some bt203.1)))))))))
theorem spec_DrawProgOk.mono_l : ∀ k, (∀ y0, LeO (spec_DrawProgOk.l0 k y0) (spec_DrawProgOk.l0 (k + 1) y0))
 | 0 => fun _ r h => by simp [spec_DrawProgOk.l0] at h
 | k + 1 => by
  have ih0 := spec_DrawProgOk.mono_l k
  ·intro y0
   unfold spec_DrawProgOk.l0
   repeat' first
   | (with_reducible exact ih0 _)
   | (with_reducible exact spec_l15Prog.mono _ _ _)
   | (with_reducible exact spec_l1Rd_one.mono _ _ _ _)
   | (with_reducible exact spec_l1Rd_pick.mono _ _ _ _)
   | (with_reducible exact LeO.refl _)
   | (with_reducible exact LeO.none _)
   | (with_reducible refine LeO.ite ?_ ?_)
   | (with_reducible refine LeO.bind ?_ (fun _ => ?_))
   | exact ih0 _
   | exact spec_l15Prog.mono _ _ _
   | exact spec_l1Rd_one.mono _ _ _ _
   | exact spec_l1Rd_pick.mono _ _ _ _
   | exact LeO.none _
   | refine LeO.ite ?_ ?_
   | refine LeO.bind ?_ (fun _ => ?_)
theorem spec_DrawProgOk.mono : ∀ a0 k, LeO (spec_DrawProgOk.f k a0) (spec_DrawProgOk.f (k + 1) a0) := by
 intro a0 k
 have ih0 := spec_DrawProgOk.mono_l k
 unfold spec_DrawProgOk.f
 repeat' first
   | (with_reducible exact ih0 _)
   | (with_reducible exact spec_l15Prog.mono _ _ _)
   | (with_reducible exact spec_l1Rd_one.mono _ _ _ _)
   | (with_reducible exact spec_l1Rd_pick.mono _ _ _ _)
   | (with_reducible exact LeO.refl _)
   | (with_reducible exact LeO.none _)
   | (with_reducible refine LeO.ite ?_ ?_)
   | (with_reducible refine LeO.bind ?_ (fun _ => ?_))
   | exact ih0 _
   | exact spec_l15Prog.mono _ _ _
   | exact spec_l1Rd_one.mono _ _ _ _
   | exact spec_l1Rd_pick.mono _ _ _ _
   | exact LeO.none _
   | refine LeO.ite ?_ ?_
   | refine LeO.bind ?_ (fun _ => ?_)
set_option maxHeartbeats 8000000 in
set_option maxRecDepth 100000 in
theorem spec_DrawProgOk.calls (k : Nat) (A0 : Option Addr) (c0 : Nat) (l0 : List Int) (r : List (S53)) (w : World) (hr0 : Kd.C (Kd.int .u8) w A0 l0.length l0) (hc0 : l0.length ≤ c0) (h : spec_DrawProgOk.f k l0 = some r) :
  Calls Try.prog 35 #[.slice A0 l0.length c0] w fun e w' => ∃ v0_ : Value, e = .returned (v0_) ∧ Kd.R k53 53 w' w.heap.size (fun _ => True) v0_ r ∧ Below w.heap.size w w' := by
 have hu53 := Try.underlying53
 have HR0 := Aside0.mk hr0
 have HC0 := Aside0.mk hc0
 clear hr0 hc0
 have HB := m_ (Below.refl w.heap.size w)
 have H : ((spec_l1Open.f l0).bind fun bt200 => ((spec_l15Prog.f k bt200.1 bt200.2).bind fun bt203 => ((spec_l1Rd_pick.f k bt200.1 bt203.2 (bt203.1.length : Int)).bind fun bt207 => ((spec_l1Rd_pick.f k bt200.1 bt207.2 10).bind fun bt209 => (if bt209.1 = 0 then ((spec_l1Rd_one.f k bt200.1 bt209.2 (([0, 14] : List Int))).bind fun bt214 => (if 0 ≤ bt207.1 then (if bt207.1 < (bt203.1.length : Int) then (some (bt203.1.set (bt207.1 : Int).toNat (⟨bt214.1, (rd_T53 bt203.1 bt207.1).f1, (rd_T53 bt203.1 bt207.1).f2⟩ : S53))) else (none)) else (none))) else (if bt209.1 = 1 then ((spec_l1Rd_one.f k bt200.1 bt209.2 (([(-1), 8] : List Int))).bind fun bt220 => (if 0 ≤ bt207.1 then (if bt207.1 < (bt203.1.length : Int) then (some (bt203.1.set (bt207.1 : Int).toNat (⟨(rd_T53 bt203.1 bt207.1).f0, bt220.1, (rd_T53 bt203.1 bt207.1).f2⟩ : S53))) else (none)) else (none))) else (if bt209.1 = 2 then ((spec_l1Rd_one.f k bt200.1 bt209.2 (([(-1), 10000, 9] : List Int))).bind fun bt226 => (if 0 ≤ bt207.1 then (if bt207.1 < (bt203.1.length : Int) then (some (bt203.1.set (bt207.1 : Int).toNat (⟨(rd_T53 bt203.1 bt207.1).f0, (rd_T53 bt203.1 bt207.1).f1, bt226.1⟩ : S53))) else (none)) else (none))) else (if bt209.1 = 3 then (spec_DrawProgOk.l0 k bt203.1) else (if bt209.1 = 4 then (some (([] : List (S53)))) else (some bt203.1)))))))))) = some r := h
 clear h
 replace H := Option.bind_eq_some_iff.mp H
 obtain ⟨⟨t200, t201⟩, A20, H⟩ := H
 replace H : ((spec_l15Prog.f k t200 t201).bind fun bt203 => ((spec_l1Rd_pick.f k t200 bt203.2 (bt203.1.length : Int)).bind fun bt207 => ((spec_l1Rd_pick.f k t200 bt207.2 10).bind fun bt209 => (if bt209.1 = 0 then ((spec_l1Rd_one.f k t200 bt209.2 (([0, 14] : List Int))).bind fun bt214 => (if 0 ≤ bt207.1 then (if bt207.1 < (bt203.1.length : Int) then (some (bt203.1.set (bt207.1 : Int).toNat (⟨bt214.1, (rd_T53 bt203.1 bt207.1).f1, (rd_T53 bt203.1 bt207.1).f2⟩ : S53))) else (none)) else (none))) else (if bt209.1 = 1 then ((spec_l1Rd_one.f k t200 bt209.2 (([(-1), 8] : List Int))).bind fun bt220 => (if 0 ≤ bt207.1 then (if bt207.1 < (bt203.1.length : Int) then (some (bt203.1.set (bt207.1 : Int).toNat (⟨(rd_T53 bt203.1 bt207.1).f0, bt220.1, (rd_T53 bt203.1 bt207.1).f2⟩ : S53))) else (none)) else (none))) else (if bt209.1 = 2 then ((spec_l1Rd_one.f k t200 bt209.2 (([(-1), 10000, 9] : List Int))).bind fun bt226 => (if 0 ≤ bt207.1 then (if bt207.1 < (bt203.1.length : Int) then (some (bt203.1.set (bt207.1 : Int).toNat (⟨(rd_T53 bt203.1 bt207.1).f0, (rd_T53 bt203.1 bt207.1).f1, bt226.1⟩ : S53))) else (none)) else (none))) else (if bt209.1 = 3 then (spec_DrawProgOk.l0 k bt203.1) else (if bt209.1 = 4 then (some (([] : List (S53)))) else (some bt203.1))))))))) = some r := H
 have A2 := Aside0.mk A20
 clear A20
 replace H := Option.bind_eq_some_iff.mp H
 obtain ⟨⟨t203, t206⟩, A30, H⟩ := H
 replace H : ((spec_l1Rd_pick.f k t200 t206 (t203.length : Int)).bind fun bt207 => ((spec_l1Rd_pick.f k t200 bt207.2 10).bind fun bt209 => (if bt209.1 = 0 then ((spec_l1Rd_one.f k t200 bt209.2 (([0, 14] : List Int))).bind fun bt214 => (if 0 ≤ bt207.1 then (if bt207.1 < (t203.length : Int) then (some (t203.set (bt207.1 : Int).toNat (⟨bt214.1, (rd_T53 t203 bt207.1).f1, (rd_T53 t203 bt207.1).f2⟩ : S53))) else (none)) else (none))) else (if bt209.1 = 1 then ((spec_l1Rd_one.f k t200 bt209.2 (([(-1), 8] : List Int))).bind fun bt220 => (if 0 ≤ bt207.1 then (if bt207.1 < (t203.length : Int) then (some (t203.set (bt207.1 : Int).toNat (⟨(rd_T53 t203 bt207.1).f0, bt220.1, (rd_T53 t203 bt207.1).f2⟩ : S53))) else (none)) else (none))) else (if bt209.1 = 2 then ((spec_l1Rd_one.f k t200 bt209.2 (([(-1), 10000, 9] : List Int))).bind fun bt226 => (if 0 ≤ bt207.1 then (if bt207.1 < (t203.length : Int) then (some (t203.set (bt207.1 : Int).toNat (⟨(rd_T53 t203 bt207.1).f0, (rd_T53 t203 bt207.1).f1, bt226.1⟩ : S53))) else (none)) else (none))) else (if bt209.1 = 3 then (spec_DrawProgOk.l0 k t203) else (if bt209.1 = 4 then (some (([] : List (S53)))) else (some t203)))))))) = some r := H
 have A3 := Aside0.mk A30
 clear A30
 replace H := Option.bind_eq_some_iff.mp H
 obtain ⟨⟨t207, t208⟩, A40, H⟩ := H
 replace H : ((spec_l1Rd_pick.f k t200 t208 10).bind fun bt209 => (if bt209.1 = 0 then ((spec_l1Rd_one.f k t200 bt209.2 (([0, 14] : List Int))).bind fun bt214 => (if 0 ≤ t207 then (if t207 < (t203.length : Int) then (some (t203.set (t207 : Int).toNat (⟨bt214.1, (rd_T53 t203 t207).f1, (rd_T53 t203 t207).f2⟩ : S53))) else (none)) else (none))) else (if bt209.1 = 1 then ((spec_l1Rd_one.f k t200 bt209.2 (([(-1), 8] : List Int))).bind fun bt220 => (if 0 ≤ t207 then (if t207 < (t203.length : Int) then (some (t203.set (t207 : Int).toNat (⟨(rd_T53 t203 t207).f0, bt220.1, (rd_T53 t203 t207).f2⟩ : S53))) else (none)) else (none))) else (if bt209.1 = 2 then ((spec_l1Rd_one.f k t200 bt209.2 (([(-1), 10000, 9] : List Int))).bind fun bt226 => (if 0 ≤ t207 then (if t207 < (t203.length : Int) then (some (t203.set (t207 : Int).toNat (⟨(rd_T53 t203 t207).f0, (rd_T53 t203 t207).f1, bt226.1⟩ : S53))) else (none)) else (none))) else (if bt209.1 = 3 then (spec_DrawProgOk.l0 k t203) else (if bt209.1 = 4 then (some (([] : List (S53)))) else (some t203))))))) = some r := H
 have A4 := Aside0.mk A40
 clear A40
 replace H := Option.bind_eq_some_iff.mp H
 obtain ⟨⟨t209, t210⟩, A50, H⟩ := H
 replace H : (if t209 = 0 then ((spec_l1Rd_one.f k t200 t210 (([0, 14] : List Int))).bind fun bt214 => (if 0 ≤ t207 then (if t207 < (t203.length : Int) then (some (t203.set (t207 : Int).toNat (⟨bt214.1, (rd_T53 t203 t207).f1, (rd_T53 t203 t207).f2⟩ : S53))) else (none)) else (none))) else (if t209 = 1 then ((spec_l1Rd_one.f k t200 t210 (([(-1), 8] : List Int))).bind fun bt220 => (if 0 ≤ t207 then (if t207 < (t203.length : Int) then (some (t203.set (t207 : Int).toNat (⟨(rd_T53 t203 t207).f0, bt220.1, (rd_T53 t203 t207).f2⟩ : S53))) else (none)) else (none))) else (if t209 = 2 then ((spec_l1Rd_one.f k t200 t210 (([(-1), 10000, 9] : List Int))).bind fun bt226 => (if 0 ≤ t207 then (if t207 < (t203.length : Int) then (some (t203.set (t207 : Int).toNat (⟨(rd_T53 t203 t207).f0, (rd_T53 t203 t207).f1, bt226.1⟩ : S53))) else (none)) else (none))) else (if t209 = 3 then (spec_DrawProgOk.l0 k t203) else (if t209 = 4 then (some (([] : List (S53)))) else (some t203)))))) = some r := H
 have A5 := Aside0.mk A50
 clear A50
 by_cases c6 : t209 = 0
 ·rw [if_pos c6] at H
  have c6b0 : (t209 == 0) = true := beq_iff_eq.mpr c6
  have c6b1 : (t209 != 0) = false := bne_eq_false_iff_eq.mpr c6
  clear c6
  obtain ⟨y211, hy211⟩ : ∃ y_ : List Int, y_ = (([0, 14] : List Int)) := ⟨_, rfl⟩
  replace H : ((spec_l1Rd_one.f k t200 t210 y211).bind fun bt214 => (if 0 ≤ t207 then (if t207 < (t203.length : Int) then (some (t203.set (t207 : Int).toNat (⟨bt214.1, (rd_T53 t203 t207).f1, (rd_T53 t203 t207).f2⟩ : S53))) else (none)) else (none))) = some r := by first | (rw [hy211]; with_reducible exact H) | (have H2_ := (Option.bind_some _ _).symm.trans H; rw [hy211]; with_reducible exact H2_) | (have H2_ := (Option.bind_some _ _).symm.trans H; with_reducible exact H2_) | with_reducible exact H | (rw [hy211]; exact H) | exact H
  have Ny211 := Aside0.mk hy211
  clear hy211
  replace H := Option.bind_eq_some_iff.mp H
  obtain ⟨⟨t214, t215⟩, A70, H⟩ := H
  replace H : (if 0 ≤ t207 then (if t207 < (t203.length : Int) then (some (t203.set (t207 : Int).toNat (⟨t214, (rd_T53 t203 t207).f1, (rd_T53 t203 t207).f2⟩ : S53))) else (none)) else (none)) = some r := H
  have A7 := Aside0.mk A70
  clear A70
  by_cases c8 : 0 ≤ t207
  ·rw [if_pos c8] at H
   have c8b0 : decide (0 ≤ t207) = true := decide_eq_true c8
   clear c8
   by_cases c9 : t207 < (t203.length : Int)
   ·rw [if_pos c9] at H
    have c9b0 : decide (t207 < (t203.length : Int)) = true := decide_eq_true c9
    clear c9
    obtain ⟨y216, hy216⟩ : ∃ y_ : List (S53), y_ = (t203.set (t207 : Int).toNat (⟨t214, (rd_T53 t203 t207).f1, (rd_T53 t203 t207).f2⟩ : S53)) := ⟨_, rfl⟩
    replace H : (some y216) = some r := by first | (rw [hy216]; with_reducible exact H) | (have H2_ := (Option.bind_some _ _).symm.trans H; rw [hy216]; with_reducible exact H2_) | (have H2_ := (Option.bind_some _ _).symm.trans H; with_reducible exact H2_) | with_reducible exact H | (rw [hy216]; exact H) | exact H
    have Ny216 := Aside0.mk hy216
    clear hy216
    obtain rfl := Option.some.inj H
    go_enter Try.func35, Try.ntmps35
    go_wp2_with (first | ((with_reducible refine gate_callee (f := 47) rfl ?_); refine goesL_ (some 7) rfl rfl Try.func47 (by kernel_rfl) rfl #[.slice A0 l0.length c0] rfl gl_ ?_; (with_reducible refine (spec_l1Open.calls _ _ l0 t200 t201 w _ ?side1 ?side2 ?side3 A2.out).mono ?_); (case side1 => repeat (first | (with_reducible first | exact HB.out | apply below_alloc | apply pw_below_drewN | apply below_drew1) | exact HB.out)); (case side2 => exact HR0.out); (case side3 => exact HC0.out); rintro e w11 ⟨g202, rfl, hi, hb, hb2⟩; refine ⟨_, rfl, ?_⟩; have n0_ := m_ (hb); have n1_ := m_ (hi); clear HB; have HB := n0_; have HI202 := n1_; clear n0_ n1_; (try clear hb); (try clear hb2); (try clear hk); (try clear hi)) | ((with_reducible refine gate_callee (f := 54) rfl ?_); refine goesL_ (some 9) rfl rfl Try.func54 (by kernel_rfl) rfl #[.pointer (some ⟨g202, 0, none⟩)] rfl gl_ ?_; (with_reducible refine (spec_l15Prog.calls k g202 t200 t201 t203 t206 w _ ?side1 ?side2 A3.out).mono ?_); (case side1 => repeat (first | (with_reducible first | exact HI202.out | apply IsS72.alloc | apply IsS72.drewN | apply IsS72.drew | apply IsS72.set_1) | exact HI202.out)); (case side2 => repeat (first | (with_reducible first | exact HB.out | apply below_alloc | apply pw_below_drewN | apply below_drew1 | refine below_set ?_ (IsS72.ge HI202.out)) | exact HB.out)); rintro e w12 ⟨v204, rfl, ho0, hi, hb, hk⟩; refine ⟨_, rfl, ?_⟩; have n0_ := m_ (Kd.R_lower ho0 (below_size (by repeat (first | (with_reducible first | exact HB.out | apply below_alloc | apply pw_below_drewN | apply below_drew1 | refine below_set ?_ (IsS72.ge HI202.out)) | exact HB.out)))); have n1_ := m_ (hb); have n2_ := m_ (hi); clear HB; clear HI202; have HO205 := n0_; have HB := n1_; have HI202 := n2_; clear n0_ n1_ n2_; (try clear hb); (try clear hb2); (try clear hk); (try clear hi); (try clear ho0); obtain ⟨Ao13, co13, eo13⟩ := Kd.R_slice HO205.out; subst eo13) | ((with_reducible refine gate_callee (f := 50) rfl ?_); refine goesL_ (some 13) rfl rfl Try.func50 (by kernel_rfl) rfl #[.pointer (some ⟨g202, 0, none⟩), .int .i64 (t203.length : Int)] rfl gl_ ?_; (with_reducible refine (spec_l1Rd_pick.calls k g202 t200 t206 (t203.length : Int) t207 t208 w _ ?side1 ?side2 A4.out).mono ?_); (case side1 => repeat (first | (with_reducible first | exact HI202.out | apply IsS72.alloc | apply IsS72.drewN | apply IsS72.drew | apply IsS72.set_1) | exact HI202.out)); (case side2 => repeat (first | (with_reducible first | exact HB.out | apply below_alloc | apply pw_below_drewN | apply below_drew1 | refine below_set ?_ (IsS72.ge HI202.out)) | exact HB.out)); rintro e w14 ⟨rfl, hi, hb, hk⟩; refine ⟨_, rfl, ?_⟩; have n0_ := m_ (Kd.R_mono (Kd.R_keep (IsS72.apart (show IsS72 w _ g202 t200 t206 from by repeat (first | (with_reducible first | exact HI202.out | apply IsS72.alloc | apply IsS72.drewN | apply IsS72.drew | apply IsS72.set_1) | exact HI202.out)) (rN HO205.out) (by decide)) hk (fun _ h => h.2)) (fun _ h => h.1)); have n1_ := m_ (hb); have n2_ := m_ (hi); clear HO205; clear HB; clear HI202; have HO205 := n0_; have HB := n1_; have HI202 := n2_; clear n0_ n1_ n2_; (try clear hb); (try clear hb2); (try clear hk); (try clear hi)) | ((with_reducible refine gate_callee (f := 50) rfl ?_); refine goesL_ (some 15) rfl rfl Try.func50 (by kernel_rfl) rfl #[.pointer (some ⟨g202, 0, none⟩), .int .i64 10] rfl gl_ ?_; (with_reducible refine (spec_l1Rd_pick.calls k g202 t200 t208 10 t209 t210 w _ ?side1 ?side2 A5.out).mono ?_); (case side1 => repeat (first | (with_reducible first | exact HI202.out | apply IsS72.alloc | apply IsS72.drewN | apply IsS72.drew | apply IsS72.set_1) | exact HI202.out)); (case side2 => repeat (first | (with_reducible first | exact HB.out | apply below_alloc | apply pw_below_drewN | apply below_drew1 | refine below_set ?_ (IsS72.ge HI202.out)) | exact HB.out)); rintro e w15 ⟨rfl, hi, hb, hk⟩; refine ⟨_, rfl, ?_⟩; have n0_ := m_ (Kd.R_mono (Kd.R_keep (IsS72.apart (show IsS72 w _ g202 t200 t208 from by repeat (first | (with_reducible first | exact HI202.out | apply IsS72.alloc | apply IsS72.drewN | apply IsS72.drew | apply IsS72.set_1) | exact HI202.out)) (rN HO205.out) (by decide)) hk (fun _ h => h.2)) (fun _ h => h.1)); have n1_ := m_ (hb); have n2_ := m_ (hi); clear HO205; clear HB; clear HI202; have HO205 := n0_; have HB := n1_; have HI202 := n2_; clear n0_ n1_ n2_; (try clear hb); (try clear hb2); (try clear hk); (try clear hi)) | ((with_reducible refine gate_dst (N := 21) rfl ?_); refine Kd.R_lit (Kd.int .i64) _ 3 ?hg (N := 21) ?hd (xs := ([0, 14] : List Int)) (inner := [.int .i64 0, .int .i64 14]) (ok := fun _ => True) (okp := fun _ => True) ?hr ?hp (fun _ hk => hk) trivial (Below.refl _ _) (Nat.le_refl _) (by simp) ?_; (case hd => rfl); (case hg => rfl); (case hr => first | (go_simp; done) | (go_simp; rfl)); (case hp => exact (Reps.one (show Kd.M (Kd.int .i64) _ _ _ 0 [.int .i64 0] from rfl) (Reps.one (show Kd.M (Kd.int .i64) _ _ _ 14 [.int .i64 14] from rfl) (Reps.none _ _)))); intro v212 w16 ho17 hb hg_ hnew_; clear hg_ hnew_; (first | rw [← Ny211.out] at ho17 | (simp only [Int.reduceToNat] at ho17; rw [← Ny211.out] at ho17)); have n0_ := m_ (Kd.R_below (rN HO205.out) hb); have n1_ := m_ (Kd.R_lower ho17 (below_size (by repeat (first | (with_reducible first | exact HB.out | apply below_alloc | apply pw_below_drewN | apply below_drew1 | refine below_set ?_ (IsS72.ge HI202.out)) | exact HB.out)))); have n2_ := m_ (IsS72.below (by repeat (first | (with_reducible first | exact HI202.out | apply IsS72.alloc | apply IsS72.drewN | apply IsS72.drew | apply IsS72.set_1) | exact HI202.out)) hb); have n3_ := m_ (below_step (by repeat (first | (with_reducible first | exact HB.out | apply below_alloc | apply pw_below_drewN | apply below_drew1 | refine below_set ?_ (IsS72.ge HI202.out)) | exact HB.out)) hb); clear HO205; clear HI202; clear HB; have HO205 := n0_; have HO213 := n1_; have HI202 := n2_; have HB := n3_; clear n0_ n1_ n2_ n3_; clear hb ho17; obtain ⟨Ao18, co18, eo18⟩ := Kd.R_slice HO213.out; subst eo18) | ((with_reducible refine gate_callee (f := 49) rfl ?_); refine goesL_ (some 22) rfl rfl Try.func49 (by kernel_rfl) rfl #[.pointer (some ⟨g202, 0, none⟩), .slice Ao18 y211.length co18] rfl gl_ ?_; (with_reducible refine (spec_l1Rd_one.calls k g202 t200 t210 _ _ y211 t214 t215 w _ ?side1 ?side2 ?side3 ?side4 ?side5 A7.out).mono ?_); (case side1 => repeat (first | (with_reducible first | exact HI202.out | apply IsS72.alloc | apply IsS72.drewN | apply IsS72.drew | apply IsS72.set_1) | exact HI202.out)); (case side2 => repeat (first | (with_reducible first | exact HB.out | apply below_alloc | apply pw_below_drewN | apply below_drew1 | refine below_set ?_ (IsS72.ge HI202.out)) | exact HB.out)); (case side3 => exact cN (Kd.R_reads' HO213.out).2.2); (case side4 => exact (Kd.R_reads' HO213.out).2.1); (case side5 => exact far_slice (IsS72.own_ne HI202.out HO213.out (by decide))); rintro e w19 ⟨rfl, hi, hb, hk⟩; refine ⟨_, rfl, ?_⟩; have n0_ := m_ (Kd.R_mono (Kd.R_keep (IsS72.apart (show IsS72 w _ g202 t200 t210 from by repeat (first | (with_reducible first | exact HI202.out | apply IsS72.alloc | apply IsS72.drewN | apply IsS72.drew | apply IsS72.set_1) | exact HI202.out)) (rN HO205.out) (by decide)) hk (fun _ h => h.2)) (fun _ h => h.1)); have n1_ := m_ (Kd.R_mono (Kd.R_keep (IsS72.apart (show IsS72 w _ g202 t200 t210 from by repeat (first | (with_reducible first | exact HI202.out | apply IsS72.alloc | apply IsS72.drewN | apply IsS72.drew | apply IsS72.set_1) | exact HI202.out)) (rN HO213.out) (by decide)) hk (fun _ h => h.2)) (fun _ h => h.1)); have n2_ := m_ (hb); have n3_ := m_ (hi); clear HO205; clear HO213; clear HB; clear HI202; have HO205 := n0_; have HO213 := n1_; have HB := n2_; have HI202 := n3_; clear n0_ n1_ n2_ n3_; (try clear hb); (try clear hb2); (try clear hk); (try clear hi); have p10 : 0 ≤ (t207 : Int) := of_decide_eq_true (by first | (with_reducible assumption) | assumption); have q10 : (t207 : Int) < ((t203.length : Int) : Int) := of_decide_eq_true (by first | (with_reducible assumption) | assumption); obtain ⟨go10, co10, eo10, gb10, gl10, cl10, HG10⟩ := Kd.R_form HO205.out (by omega); (first | cases eo10 | (injection eo10 with ea_ en_ ec_; (first | subst ea_ | (injection ea_ with ea_; subst ea_)); subst ec_; clear en_)); have GB10 := Aside0.mk gb10; have GG10 := Aside0.mk HG10; clear gb10 gl10 HG10; obtain ⟨ce10, hcl10, hM10, hcc10, hfr10⟩ := Kd.R_elem HO205.out z53 (t207 : Int) p10 q10; obtain rfl := k53_openM hM10; have hx10_0 : w19.cell? ⟨go10, (t207 : Int).toNat * 3, none⟩ = some (.int .i64 ((rd_T53 t203 t207).f0)) := hcc10 0 _ rfl; have hx10_1 : w19.cell? ⟨go10, (t207 : Int).toNat * 3 + 1, none⟩ = some (.int .i64 ((rd_T53 t203 t207).f1)) := hcc10 1 _ rfl; have hx10_2 : w19.cell? ⟨go10, (t207 : Int).toNat * 3 + 2, none⟩ = some (.int .i64 ((rd_T53 t203 t207).f2)) := hcc10 2 _ rfl; have hf10_0 : w19.frozen? ⟨go10, (t207 : Int).toNat * 3, none⟩ = false := hfr10 0; have hf10_1 : w19.frozen? ⟨go10, (t207 : Int).toNat * 3 + 1, none⟩ = false := hfr10 1; have hf10_2 : w19.frozen? ⟨go10, (t207 : Int).toNat * 3 + 2, none⟩ = false := hfr10 2; clear hcl10 hcc10 hfr10 hM10; replace p10 := eq_true p10; replace q10 := eq_true q10; have HX20 := m_ (show Kd.R k53 53 w19 w.heap.size (fun _ => True) (.slice (some ⟨go10, 0, none⟩) t203.length co13) t203 from (rN HO205.out)); obtain ⟨ce20, hcl20, hM20, hcc20, hfr20⟩ := Kd.R_elem HX20.out z53 (t207 : Int) (of_decide_eq_true (by first | (with_reducible assumption) | assumption)) (by have h_ : (t207 : Int) < ((t203.length : Int) : Int) := of_decide_eq_true (by first | (with_reducible assumption) | assumption); first | exact h_ | (have e_ := (Kd.R_reads' HO205.out).1; omega) | simpa using h_); obtain rfl := k53_openM hM20; have HP20 := Kd.R_seg HX20.out (t207 : Int) (of_decide_eq_true (by first | (with_reducible assumption) | assumption)) (by have h_ : (t207 : Int) < ((t203.length : Int) : Int) := of_decide_eq_true (by first | (with_reducible assumption) | assumption); first | exact h_ | (have e_ := (Kd.R_reads' HO205.out).1; omega) | simpa using h_) (seg := [.int .i64 t214]) (j := 0) hcl20 hcc20 (show 1 ≤ 3 from by decide) (x' := (⟨t214, (rd_T53 t203 t207).f1, (rd_T53 t203 t207).f2⟩ : S53)) (k53_mkM _ _ _ (⟨t214, (rd_T53 t203 t207).f1, (rd_T53 t203 t207).f2⟩ : S53) ) (fun _ hk => hk); have hx20_0 := hcc20 0 _ rfl; (try simp only [show (k53).sz = 3 from rfl, Nat.mul_one, Nat.add_zero] at hx20_0); have hf20_0 := hfr20 0; (try simp only [show (k53).sz = 3 from rfl, Nat.mul_one, Nat.add_zero] at hf20_0); clear hcl20 hcc20 hfr20 hM20) | ((with_reducible refine gate_store (t := 3) (p := 24) rfl ?_); refine store_event (t := 3) (p := 24) (v := ?vo_w21) (w1 := (w19.setCell ⟨go10, (t207 : Int).toNat * 3, none⟩ (.int .i64 t214))) ?hg ?ho ?hn ?hr ?_; (case ho => rfl); (case hg => rfl); (case hn => rfl); (case hr => first | (go_simp; done) | (go_simp; rfl)); intro w21 hw; have hg : w19.grownBy w21 (some go10) := (by rw [hw]; exact HP20.2); have hp_ : Kd.R k53 53 w21 w.heap.size (fun _ => True) (.slice (some ⟨go10, 0, none⟩) t203.length co13) y216 := (by rw [hw, Ny216.out]; exact HP20.1); clear HP20; have n0_ := m_ (IsS72.grown (by repeat (first | (with_reducible first | exact HI202.out | apply IsS72.alloc | apply IsS72.drewN | apply IsS72.drew | apply IsS72.set_1) | exact HI202.out)) hg (IsS72.own_ne HI202.out HO205.out (by decide))); have n1_ := m_ (hp_); have n2_ := m_ (Kd.R_over' (v := (.slice (some ⟨go10, 0, none⟩) t203.length co13)) (rN HO213.out) (Kd.R_typed HO205.out) (by decide) hg); have n3_ := m_ ((by rw [hw]; exact below_set (HB.out) GB10.out : Below w.heap.size w w21)); clear HI202; clear HO205; clear HO213; clear HB; have HI202 := n0_; have HO205 := n1_; have HO213 := n2_; have HB := n3_; clear n0_ n1_ n2_ n3_; clear hg hw hp_))
    go_ret
    exact ⟨_, by first | rfl | (simp [errW_none, errW_some] <;> rfl) | (simp [*, errW_none, errW_some] <;> rfl), by (with_reducible repeat (first | apply Kd.R_alloc | apply Kd.R_drewN | apply Kd.R_drew)); exact HO205.out, by repeat (first | (with_reducible first | exact HB.out | apply below_alloc | apply pw_below_drewN | apply below_drew1 | refine below_set ?_ (IsS72.ge HI202.out)) | exact HB.out)⟩
   ·rw [if_neg c9] at H
    exact absurd H (by simp)
  ·rw [if_neg c8] at H
   exact absurd H (by simp)
 ·rw [if_neg c6] at H
  have c6b0 : (t209 == 0) = false := beq_eq_false_iff_ne.mpr c6
  have c6b1 : (t209 != 0) = true := bne_iff_ne.mpr c6
  by_cases c22 : t209 = 1
  ·rw [if_pos c22] at H
   have c22b0 : (t209 == 1) = true := beq_iff_eq.mpr c22
   have c22b1 : (t209 != 1) = false := bne_eq_false_iff_eq.mpr c22
   clear c22
   obtain ⟨y217, hy217⟩ : ∃ y_ : List Int, y_ = (([(-1), 8] : List Int)) := ⟨_, rfl⟩
   replace H : ((spec_l1Rd_one.f k t200 t210 y217).bind fun bt220 => (if 0 ≤ t207 then (if t207 < (t203.length : Int) then (some (t203.set (t207 : Int).toNat (⟨(rd_T53 t203 t207).f0, bt220.1, (rd_T53 t203 t207).f2⟩ : S53))) else (none)) else (none))) = some r := by first | (rw [hy217]; with_reducible exact H) | (have H2_ := (Option.bind_some _ _).symm.trans H; rw [hy217]; with_reducible exact H2_) | (have H2_ := (Option.bind_some _ _).symm.trans H; with_reducible exact H2_) | with_reducible exact H | (rw [hy217]; exact H) | exact H
   have Ny217 := Aside0.mk hy217
   clear hy217
   replace H := Option.bind_eq_some_iff.mp H
   obtain ⟨⟨t220, t221⟩, A230, H⟩ := H
   replace H : (if 0 ≤ t207 then (if t207 < (t203.length : Int) then (some (t203.set (t207 : Int).toNat (⟨(rd_T53 t203 t207).f0, t220, (rd_T53 t203 t207).f2⟩ : S53))) else (none)) else (none)) = some r := H
   have A23 := Aside0.mk A230
   clear A230
   by_cases c24 : 0 ≤ t207
   ·rw [if_pos c24] at H
    have c24b0 : decide (0 ≤ t207) = true := decide_eq_true c24
    clear c24
    by_cases c25 : t207 < (t203.length : Int)
    ·rw [if_pos c25] at H
     have c25b0 : decide (t207 < (t203.length : Int)) = true := decide_eq_true c25
     clear c25
     obtain ⟨y222, hy222⟩ : ∃ y_ : List (S53), y_ = (t203.set (t207 : Int).toNat (⟨(rd_T53 t203 t207).f0, t220, (rd_T53 t203 t207).f2⟩ : S53)) := ⟨_, rfl⟩
     replace H : (some y222) = some r := by first | (rw [hy222]; with_reducible exact H) | (have H2_ := (Option.bind_some _ _).symm.trans H; rw [hy222]; with_reducible exact H2_) | (have H2_ := (Option.bind_some _ _).symm.trans H; with_reducible exact H2_) | with_reducible exact H | (rw [hy222]; exact H) | exact H
     have Ny222 := Aside0.mk hy222
     clear hy222
     obtain rfl := Option.some.inj H
     go_enter Try.func35, Try.ntmps35
     go_wp2_with (first | ((with_reducible refine gate_callee (f := 47) rfl ?_); refine goesL_ (some 7) rfl rfl Try.func47 (by kernel_rfl) rfl #[.slice A0 l0.length c0] rfl gl_ ?_; (with_reducible refine (spec_l1Open.calls _ _ l0 t200 t201 w _ ?side1 ?side2 ?side3 A2.out).mono ?_); (case side1 => repeat (first | (with_reducible first | exact HB.out | apply below_alloc | apply pw_below_drewN | apply below_drew1) | exact HB.out)); (case side2 => exact HR0.out); (case side3 => exact HC0.out); rintro e w27 ⟨g202, rfl, hi, hb, hb2⟩; refine ⟨_, rfl, ?_⟩; have n0_ := m_ (hb); have n1_ := m_ (hi); clear HB; have HB := n0_; have HI202 := n1_; clear n0_ n1_; (try clear hb); (try clear hb2); (try clear hk); (try clear hi)) | ((with_reducible refine gate_callee (f := 54) rfl ?_); refine goesL_ (some 9) rfl rfl Try.func54 (by kernel_rfl) rfl #[.pointer (some ⟨g202, 0, none⟩)] rfl gl_ ?_; (with_reducible refine (spec_l15Prog.calls k g202 t200 t201 t203 t206 w _ ?side1 ?side2 A3.out).mono ?_); (case side1 => repeat (first | (with_reducible first | exact HI202.out | apply IsS72.alloc | apply IsS72.drewN | apply IsS72.drew | apply IsS72.set_1) | exact HI202.out)); (case side2 => repeat (first | (with_reducible first | exact HB.out | apply below_alloc | apply pw_below_drewN | apply below_drew1 | refine below_set ?_ (IsS72.ge HI202.out)) | exact HB.out)); rintro e w28 ⟨v204, rfl, ho0, hi, hb, hk⟩; refine ⟨_, rfl, ?_⟩; have n0_ := m_ (Kd.R_lower ho0 (below_size (by repeat (first | (with_reducible first | exact HB.out | apply below_alloc | apply pw_below_drewN | apply below_drew1 | refine below_set ?_ (IsS72.ge HI202.out)) | exact HB.out)))); have n1_ := m_ (hb); have n2_ := m_ (hi); clear HB; clear HI202; have HO205 := n0_; have HB := n1_; have HI202 := n2_; clear n0_ n1_ n2_; (try clear hb); (try clear hb2); (try clear hk); (try clear hi); (try clear ho0); obtain ⟨Ao29, co29, eo29⟩ := Kd.R_slice HO205.out; subst eo29) | ((with_reducible refine gate_callee (f := 50) rfl ?_); refine goesL_ (some 13) rfl rfl Try.func50 (by kernel_rfl) rfl #[.pointer (some ⟨g202, 0, none⟩), .int .i64 (t203.length : Int)] rfl gl_ ?_; (with_reducible refine (spec_l1Rd_pick.calls k g202 t200 t206 (t203.length : Int) t207 t208 w _ ?side1 ?side2 A4.out).mono ?_); (case side1 => repeat (first | (with_reducible first | exact HI202.out | apply IsS72.alloc | apply IsS72.drewN | apply IsS72.drew | apply IsS72.set_1) | exact HI202.out)); (case side2 => repeat (first | (with_reducible first | exact HB.out | apply below_alloc | apply pw_below_drewN | apply below_drew1 | refine below_set ?_ (IsS72.ge HI202.out)) | exact HB.out)); rintro e w30 ⟨rfl, hi, hb, hk⟩; refine ⟨_, rfl, ?_⟩; have n0_ := m_ (Kd.R_mono (Kd.R_keep (IsS72.apart (show IsS72 w _ g202 t200 t206 from by repeat (first | (with_reducible first | exact HI202.out | apply IsS72.alloc | apply IsS72.drewN | apply IsS72.drew | apply IsS72.set_1) | exact HI202.out)) (rN HO205.out) (by decide)) hk (fun _ h => h.2)) (fun _ h => h.1)); have n1_ := m_ (hb); have n2_ := m_ (hi); clear HO205; clear HB; clear HI202; have HO205 := n0_; have HB := n1_; have HI202 := n2_; clear n0_ n1_ n2_; (try clear hb); (try clear hb2); (try clear hk); (try clear hi)) | ((with_reducible refine gate_callee (f := 50) rfl ?_); refine goesL_ (some 15) rfl rfl Try.func50 (by kernel_rfl) rfl #[.pointer (some ⟨g202, 0, none⟩), .int .i64 10] rfl gl_ ?_; (with_reducible refine (spec_l1Rd_pick.calls k g202 t200 t208 10 t209 t210 w _ ?side1 ?side2 A5.out).mono ?_); (case side1 => repeat (first | (with_reducible first | exact HI202.out | apply IsS72.alloc | apply IsS72.drewN | apply IsS72.drew | apply IsS72.set_1) | exact HI202.out)); (case side2 => repeat (first | (with_reducible first | exact HB.out | apply below_alloc | apply pw_below_drewN | apply below_drew1 | refine below_set ?_ (IsS72.ge HI202.out)) | exact HB.out)); rintro e w31 ⟨rfl, hi, hb, hk⟩; refine ⟨_, rfl, ?_⟩; have n0_ := m_ (Kd.R_mono (Kd.R_keep (IsS72.apart (show IsS72 w _ g202 t200 t208 from by repeat (first | (with_reducible first | exact HI202.out | apply IsS72.alloc | apply IsS72.drewN | apply IsS72.drew | apply IsS72.set_1) | exact HI202.out)) (rN HO205.out) (by decide)) hk (fun _ h => h.2)) (fun _ h => h.1)); have n1_ := m_ (hb); have n2_ := m_ (hi); clear HO205; clear HB; clear HI202; have HO205 := n0_; have HB := n1_; have HI202 := n2_; clear n0_ n1_ n2_; (try clear hb); (try clear hb2); (try clear hk); (try clear hi)) | ((with_reducible refine gate_dst (N := 30) rfl ?_); refine Kd.R_lit (Kd.int .i64) _ 3 ?hg (N := 30) ?hd (xs := ([(-1), 8] : List Int)) (inner := [.int .i64 (-1), .int .i64 8]) (ok := fun _ => True) (okp := fun _ => True) ?hr ?hp (fun _ hk => hk) trivial (Below.refl _ _) (Nat.le_refl _) (by simp) ?_; (case hd => rfl); (case hg => rfl); (case hr => first | (go_simp; done) | (go_simp; rfl)); (case hp => exact (Reps.one (show Kd.M (Kd.int .i64) _ _ _ (-1) [.int .i64 (-1)] from rfl) (Reps.one (show Kd.M (Kd.int .i64) _ _ _ 8 [.int .i64 8] from rfl) (Reps.none _ _)))); intro v218 w32 ho33 hb hg_ hnew_; clear hg_ hnew_; (first | rw [← Ny217.out] at ho33 | (simp only [Int.reduceToNat] at ho33; rw [← Ny217.out] at ho33)); have n0_ := m_ (Kd.R_below (rN HO205.out) hb); have n1_ := m_ (Kd.R_lower ho33 (below_size (by repeat (first | (with_reducible first | exact HB.out | apply below_alloc | apply pw_below_drewN | apply below_drew1 | refine below_set ?_ (IsS72.ge HI202.out)) | exact HB.out)))); have n2_ := m_ (IsS72.below (by repeat (first | (with_reducible first | exact HI202.out | apply IsS72.alloc | apply IsS72.drewN | apply IsS72.drew | apply IsS72.set_1) | exact HI202.out)) hb); have n3_ := m_ (below_step (by repeat (first | (with_reducible first | exact HB.out | apply below_alloc | apply pw_below_drewN | apply below_drew1 | refine below_set ?_ (IsS72.ge HI202.out)) | exact HB.out)) hb); clear HO205; clear HI202; clear HB; have HO205 := n0_; have HO219 := n1_; have HI202 := n2_; have HB := n3_; clear n0_ n1_ n2_ n3_; clear hb ho33; obtain ⟨Ao34, co34, eo34⟩ := Kd.R_slice HO219.out; subst eo34) | ((with_reducible refine gate_callee (f := 49) rfl ?_); refine goesL_ (some 31) rfl rfl Try.func49 (by kernel_rfl) rfl #[.pointer (some ⟨g202, 0, none⟩), .slice Ao34 y217.length co34] rfl gl_ ?_; (with_reducible refine (spec_l1Rd_one.calls k g202 t200 t210 _ _ y217 t220 t221 w _ ?side1 ?side2 ?side3 ?side4 ?side5 A23.out).mono ?_); (case side1 => repeat (first | (with_reducible first | exact HI202.out | apply IsS72.alloc | apply IsS72.drewN | apply IsS72.drew | apply IsS72.set_1) | exact HI202.out)); (case side2 => repeat (first | (with_reducible first | exact HB.out | apply below_alloc | apply pw_below_drewN | apply below_drew1 | refine below_set ?_ (IsS72.ge HI202.out)) | exact HB.out)); (case side3 => exact cN (Kd.R_reads' HO219.out).2.2); (case side4 => exact (Kd.R_reads' HO219.out).2.1); (case side5 => exact far_slice (IsS72.own_ne HI202.out HO219.out (by decide))); rintro e w35 ⟨rfl, hi, hb, hk⟩; refine ⟨_, rfl, ?_⟩; have n0_ := m_ (Kd.R_mono (Kd.R_keep (IsS72.apart (show IsS72 w _ g202 t200 t210 from by repeat (first | (with_reducible first | exact HI202.out | apply IsS72.alloc | apply IsS72.drewN | apply IsS72.drew | apply IsS72.set_1) | exact HI202.out)) (rN HO205.out) (by decide)) hk (fun _ h => h.2)) (fun _ h => h.1)); have n1_ := m_ (Kd.R_mono (Kd.R_keep (IsS72.apart (show IsS72 w _ g202 t200 t210 from by repeat (first | (with_reducible first | exact HI202.out | apply IsS72.alloc | apply IsS72.drewN | apply IsS72.drew | apply IsS72.set_1) | exact HI202.out)) (rN HO219.out) (by decide)) hk (fun _ h => h.2)) (fun _ h => h.1)); have n2_ := m_ (hb); have n3_ := m_ (hi); clear HO205; clear HO219; clear HB; clear HI202; have HO205 := n0_; have HO219 := n1_; have HB := n2_; have HI202 := n3_; clear n0_ n1_ n2_ n3_; (try clear hb); (try clear hb2); (try clear hk); (try clear hi); have p26 : 0 ≤ (t207 : Int) := of_decide_eq_true (by first | (with_reducible assumption) | assumption); have q26 : (t207 : Int) < ((t203.length : Int) : Int) := of_decide_eq_true (by first | (with_reducible assumption) | assumption); obtain ⟨go26, co26, eo26, gb26, gl26, cl26, HG26⟩ := Kd.R_form HO205.out (by omega); (first | cases eo26 | (injection eo26 with ea_ en_ ec_; (first | subst ea_ | (injection ea_ with ea_; subst ea_)); subst ec_; clear en_)); have GB26 := Aside0.mk gb26; have GG26 := Aside0.mk HG26; clear gb26 gl26 HG26; obtain ⟨ce26, hcl26, hM26, hcc26, hfr26⟩ := Kd.R_elem HO205.out z53 (t207 : Int) p26 q26; obtain rfl := k53_openM hM26; have hx26_0 : w35.cell? ⟨go26, (t207 : Int).toNat * 3, none⟩ = some (.int .i64 ((rd_T53 t203 t207).f0)) := hcc26 0 _ rfl; have hx26_1 : w35.cell? ⟨go26, (t207 : Int).toNat * 3 + 1, none⟩ = some (.int .i64 ((rd_T53 t203 t207).f1)) := hcc26 1 _ rfl; have hx26_2 : w35.cell? ⟨go26, (t207 : Int).toNat * 3 + 2, none⟩ = some (.int .i64 ((rd_T53 t203 t207).f2)) := hcc26 2 _ rfl; have hf26_0 : w35.frozen? ⟨go26, (t207 : Int).toNat * 3, none⟩ = false := hfr26 0; have hf26_1 : w35.frozen? ⟨go26, (t207 : Int).toNat * 3 + 1, none⟩ = false := hfr26 1; have hf26_2 : w35.frozen? ⟨go26, (t207 : Int).toNat * 3 + 2, none⟩ = false := hfr26 2; clear hcl26 hcc26 hfr26 hM26; replace p26 := eq_true p26; replace q26 := eq_true q26; have HX36 := m_ (show Kd.R k53 53 w35 w.heap.size (fun _ => True) (.slice (some ⟨go26, 0, none⟩) t203.length co29) t203 from (rN HO205.out)); obtain ⟨ce36, hcl36, hM36, hcc36, hfr36⟩ := Kd.R_elem HX36.out z53 (t207 : Int) (of_decide_eq_true (by first | (with_reducible assumption) | assumption)) (by have h_ : (t207 : Int) < ((t203.length : Int) : Int) := of_decide_eq_true (by first | (with_reducible assumption) | assumption); first | exact h_ | (have e_ := (Kd.R_reads' HO205.out).1; omega) | simpa using h_); obtain rfl := k53_openM hM36; have HP36 := Kd.R_seg HX36.out (t207 : Int) (of_decide_eq_true (by first | (with_reducible assumption) | assumption)) (by have h_ : (t207 : Int) < ((t203.length : Int) : Int) := of_decide_eq_true (by first | (with_reducible assumption) | assumption); first | exact h_ | (have e_ := (Kd.R_reads' HO205.out).1; omega) | simpa using h_) (seg := [.int .i64 t220]) (j := 1) hcl36 hcc36 (show 2 ≤ 3 from by decide) (x' := (⟨(rd_T53 t203 t207).f0, t220, (rd_T53 t203 t207).f2⟩ : S53)) (k53_mkM _ _ _ (⟨(rd_T53 t203 t207).f0, t220, (rd_T53 t203 t207).f2⟩ : S53) ) (fun _ hk => hk); have hx36_1 := hcc36 1 _ rfl; (try simp only [show (k53).sz = 3 from rfl, Nat.mul_one, Nat.add_zero] at hx36_1); have hf36_1 := hfr36 1; (try simp only [show (k53).sz = 3 from rfl, Nat.mul_one, Nat.add_zero] at hf36_1); clear hcl36 hcc36 hfr36 hM36) | ((with_reducible refine gate_store (t := 3) (p := 33) rfl ?_); refine store_event (t := 3) (p := 33) (v := ?vo_w37) (w1 := (w35.setCell ⟨go26, (t207 : Int).toNat * 3 + 1, none⟩ (.int .i64 t220))) ?hg ?ho ?hn ?hr ?_; (case ho => rfl); (case hg => rfl); (case hn => rfl); (case hr => first | (go_simp; done) | (go_simp; rfl)); intro w37 hw; have hg : w35.grownBy w37 (some go26) := (by rw [hw]; exact HP36.2); have hp_ : Kd.R k53 53 w37 w.heap.size (fun _ => True) (.slice (some ⟨go26, 0, none⟩) t203.length co29) y222 := (by rw [hw, Ny222.out]; exact HP36.1); clear HP36; have n0_ := m_ (IsS72.grown (by repeat (first | (with_reducible first | exact HI202.out | apply IsS72.alloc | apply IsS72.drewN | apply IsS72.drew | apply IsS72.set_1) | exact HI202.out)) hg (IsS72.own_ne HI202.out HO205.out (by decide))); have n1_ := m_ (hp_); have n2_ := m_ (Kd.R_over' (v := (.slice (some ⟨go26, 0, none⟩) t203.length co29)) (rN HO219.out) (Kd.R_typed HO205.out) (by decide) hg); have n3_ := m_ ((by rw [hw]; exact below_set (HB.out) GB26.out : Below w.heap.size w w37)); clear HI202; clear HO205; clear HO219; clear HB; have HI202 := n0_; have HO205 := n1_; have HO219 := n2_; have HB := n3_; clear n0_ n1_ n2_ n3_; clear hg hw hp_))
     go_ret
     exact ⟨_, by first | rfl | (simp [errW_none, errW_some] <;> rfl) | (simp [*, errW_none, errW_some] <;> rfl), by (with_reducible repeat (first | apply Kd.R_alloc | apply Kd.R_drewN | apply Kd.R_drew)); exact HO205.out, by repeat (first | (with_reducible first | exact HB.out | apply below_alloc | apply pw_below_drewN | apply below_drew1 | refine below_set ?_ (IsS72.ge HI202.out)) | exact HB.out)⟩
    ·rw [if_neg c25] at H
     exact absurd H (by simp)
   ·rw [if_neg c24] at H
    exact absurd H (by simp)
  ·rw [if_neg c22] at H
   have c22b0 : (t209 == 1) = false := beq_eq_false_iff_ne.mpr c22
   have c22b1 : (t209 != 1) = true := bne_iff_ne.mpr c22
   by_cases c38 : t209 = 2
   ·rw [if_pos c38] at H
    have c38b0 : (t209 == 2) = true := beq_iff_eq.mpr c38
    have c38b1 : (t209 != 2) = false := bne_eq_false_iff_eq.mpr c38
    clear c38
    obtain ⟨y223, hy223⟩ : ∃ y_ : List Int, y_ = (([(-1), 10000, 9] : List Int)) := ⟨_, rfl⟩
    replace H : ((spec_l1Rd_one.f k t200 t210 y223).bind fun bt226 => (if 0 ≤ t207 then (if t207 < (t203.length : Int) then (some (t203.set (t207 : Int).toNat (⟨(rd_T53 t203 t207).f0, (rd_T53 t203 t207).f1, bt226.1⟩ : S53))) else (none)) else (none))) = some r := by first | (rw [hy223]; with_reducible exact H) | (have H2_ := (Option.bind_some _ _).symm.trans H; rw [hy223]; with_reducible exact H2_) | (have H2_ := (Option.bind_some _ _).symm.trans H; with_reducible exact H2_) | with_reducible exact H | (rw [hy223]; exact H) | exact H
    have Ny223 := Aside0.mk hy223
    clear hy223
    replace H := Option.bind_eq_some_iff.mp H
    obtain ⟨⟨t226, t227⟩, A390, H⟩ := H
    replace H : (if 0 ≤ t207 then (if t207 < (t203.length : Int) then (some (t203.set (t207 : Int).toNat (⟨(rd_T53 t203 t207).f0, (rd_T53 t203 t207).f1, t226⟩ : S53))) else (none)) else (none)) = some r := H
    have A39 := Aside0.mk A390
    clear A390
    by_cases c40 : 0 ≤ t207
    ·rw [if_pos c40] at H
     have c40b0 : decide (0 ≤ t207) = true := decide_eq_true c40
     clear c40
     by_cases c41 : t207 < (t203.length : Int)
     ·rw [if_pos c41] at H
      have c41b0 : decide (t207 < (t203.length : Int)) = true := decide_eq_true c41
      clear c41
      obtain ⟨y228, hy228⟩ : ∃ y_ : List (S53), y_ = (t203.set (t207 : Int).toNat (⟨(rd_T53 t203 t207).f0, (rd_T53 t203 t207).f1, t226⟩ : S53)) := ⟨_, rfl⟩
      replace H : (some y228) = some r := by first | (rw [hy228]; with_reducible exact H) | (have H2_ := (Option.bind_some _ _).symm.trans H; rw [hy228]; with_reducible exact H2_) | (have H2_ := (Option.bind_some _ _).symm.trans H; with_reducible exact H2_) | with_reducible exact H | (rw [hy228]; exact H) | exact H
      have Ny228 := Aside0.mk hy228
      clear hy228
      obtain rfl := Option.some.inj H
      go_enter Try.func35, Try.ntmps35
      go_wp2_with (first | ((with_reducible refine gate_callee (f := 47) rfl ?_); refine goesL_ (some 7) rfl rfl Try.func47 (by kernel_rfl) rfl #[.slice A0 l0.length c0] rfl gl_ ?_; (with_reducible refine (spec_l1Open.calls _ _ l0 t200 t201 w _ ?side1 ?side2 ?side3 A2.out).mono ?_); (case side1 => repeat (first | (with_reducible first | exact HB.out | apply below_alloc | apply pw_below_drewN | apply below_drew1) | exact HB.out)); (case side2 => exact HR0.out); (case side3 => exact HC0.out); rintro e w43 ⟨g202, rfl, hi, hb, hb2⟩; refine ⟨_, rfl, ?_⟩; have n0_ := m_ (hb); have n1_ := m_ (hi); clear HB; have HB := n0_; have HI202 := n1_; clear n0_ n1_; (try clear hb); (try clear hb2); (try clear hk); (try clear hi)) | ((with_reducible refine gate_callee (f := 54) rfl ?_); refine goesL_ (some 9) rfl rfl Try.func54 (by kernel_rfl) rfl #[.pointer (some ⟨g202, 0, none⟩)] rfl gl_ ?_; (with_reducible refine (spec_l15Prog.calls k g202 t200 t201 t203 t206 w _ ?side1 ?side2 A3.out).mono ?_); (case side1 => repeat (first | (with_reducible first | exact HI202.out | apply IsS72.alloc | apply IsS72.drewN | apply IsS72.drew | apply IsS72.set_1) | exact HI202.out)); (case side2 => repeat (first | (with_reducible first | exact HB.out | apply below_alloc | apply pw_below_drewN | apply below_drew1 | refine below_set ?_ (IsS72.ge HI202.out)) | exact HB.out)); rintro e w44 ⟨v204, rfl, ho0, hi, hb, hk⟩; refine ⟨_, rfl, ?_⟩; have n0_ := m_ (Kd.R_lower ho0 (below_size (by repeat (first | (with_reducible first | exact HB.out | apply below_alloc | apply pw_below_drewN | apply below_drew1 | refine below_set ?_ (IsS72.ge HI202.out)) | exact HB.out)))); have n1_ := m_ (hb); have n2_ := m_ (hi); clear HB; clear HI202; have HO205 := n0_; have HB := n1_; have HI202 := n2_; clear n0_ n1_ n2_; (try clear hb); (try clear hb2); (try clear hk); (try clear hi); (try clear ho0); obtain ⟨Ao45, co45, eo45⟩ := Kd.R_slice HO205.out; subst eo45) | ((with_reducible refine gate_callee (f := 50) rfl ?_); refine goesL_ (some 13) rfl rfl Try.func50 (by kernel_rfl) rfl #[.pointer (some ⟨g202, 0, none⟩), .int .i64 (t203.length : Int)] rfl gl_ ?_; (with_reducible refine (spec_l1Rd_pick.calls k g202 t200 t206 (t203.length : Int) t207 t208 w _ ?side1 ?side2 A4.out).mono ?_); (case side1 => repeat (first | (with_reducible first | exact HI202.out | apply IsS72.alloc | apply IsS72.drewN | apply IsS72.drew | apply IsS72.set_1) | exact HI202.out)); (case side2 => repeat (first | (with_reducible first | exact HB.out | apply below_alloc | apply pw_below_drewN | apply below_drew1 | refine below_set ?_ (IsS72.ge HI202.out)) | exact HB.out)); rintro e w46 ⟨rfl, hi, hb, hk⟩; refine ⟨_, rfl, ?_⟩; have n0_ := m_ (Kd.R_mono (Kd.R_keep (IsS72.apart (show IsS72 w _ g202 t200 t206 from by repeat (first | (with_reducible first | exact HI202.out | apply IsS72.alloc | apply IsS72.drewN | apply IsS72.drew | apply IsS72.set_1) | exact HI202.out)) (rN HO205.out) (by decide)) hk (fun _ h => h.2)) (fun _ h => h.1)); have n1_ := m_ (hb); have n2_ := m_ (hi); clear HO205; clear HB; clear HI202; have HO205 := n0_; have HB := n1_; have HI202 := n2_; clear n0_ n1_ n2_; (try clear hb); (try clear hb2); (try clear hk); (try clear hi)) | ((with_reducible refine gate_callee (f := 50) rfl ?_); refine goesL_ (some 15) rfl rfl Try.func50 (by kernel_rfl) rfl #[.pointer (some ⟨g202, 0, none⟩), .int .i64 10] rfl gl_ ?_; (with_reducible refine (spec_l1Rd_pick.calls k g202 t200 t208 10 t209 t210 w _ ?side1 ?side2 A5.out).mono ?_); (case side1 => repeat (first | (with_reducible first | exact HI202.out | apply IsS72.alloc | apply IsS72.drewN | apply IsS72.drew | apply IsS72.set_1) | exact HI202.out)); (case side2 => repeat (first | (with_reducible first | exact HB.out | apply below_alloc | apply pw_below_drewN | apply below_drew1 | refine below_set ?_ (IsS72.ge HI202.out)) | exact HB.out)); rintro e w47 ⟨rfl, hi, hb, hk⟩; refine ⟨_, rfl, ?_⟩; have n0_ := m_ (Kd.R_mono (Kd.R_keep (IsS72.apart (show IsS72 w _ g202 t200 t208 from by repeat (first | (with_reducible first | exact HI202.out | apply IsS72.alloc | apply IsS72.drewN | apply IsS72.drew | apply IsS72.set_1) | exact HI202.out)) (rN HO205.out) (by decide)) hk (fun _ h => h.2)) (fun _ h => h.1)); have n1_ := m_ (hb); have n2_ := m_ (hi); clear HO205; clear HB; clear HI202; have HO205 := n0_; have HB := n1_; have HI202 := n2_; clear n0_ n1_ n2_; (try clear hb); (try clear hb2); (try clear hk); (try clear hi)) | ((with_reducible refine gate_dst (N := 39) rfl ?_); refine Kd.R_lit (Kd.int .i64) _ 3 ?hg (N := 39) ?hd (xs := ([(-1), 10000, 9] : List Int)) (inner := [.int .i64 (-1), .int .i64 10000, .int .i64 9]) (ok := fun _ => True) (okp := fun _ => True) ?hr ?hp (fun _ hk => hk) trivial (Below.refl _ _) (Nat.le_refl _) (by simp) ?_; (case hd => rfl); (case hg => rfl); (case hr => first | (go_simp; done) | (go_simp; rfl)); (case hp => exact (Reps.one (show Kd.M (Kd.int .i64) _ _ _ (-1) [.int .i64 (-1)] from rfl) (Reps.one (show Kd.M (Kd.int .i64) _ _ _ 10000 [.int .i64 10000] from rfl) (Reps.one (show Kd.M (Kd.int .i64) _ _ _ 9 [.int .i64 9] from rfl) (Reps.none _ _))))); intro v224 w48 ho49 hb hg_ hnew_; clear hg_ hnew_; (first | rw [← Ny223.out] at ho49 | (simp only [Int.reduceToNat] at ho49; rw [← Ny223.out] at ho49)); have n0_ := m_ (Kd.R_below (rN HO205.out) hb); have n1_ := m_ (Kd.R_lower ho49 (below_size (by repeat (first | (with_reducible first | exact HB.out | apply below_alloc | apply pw_below_drewN | apply below_drew1 | refine below_set ?_ (IsS72.ge HI202.out)) | exact HB.out)))); have n2_ := m_ (IsS72.below (by repeat (first | (with_reducible first | exact HI202.out | apply IsS72.alloc | apply IsS72.drewN | apply IsS72.drew | apply IsS72.set_1) | exact HI202.out)) hb); have n3_ := m_ (below_step (by repeat (first | (with_reducible first | exact HB.out | apply below_alloc | apply pw_below_drewN | apply below_drew1 | refine below_set ?_ (IsS72.ge HI202.out)) | exact HB.out)) hb); clear HO205; clear HI202; clear HB; have HO205 := n0_; have HO225 := n1_; have HI202 := n2_; have HB := n3_; clear n0_ n1_ n2_ n3_; clear hb ho49; obtain ⟨Ao50, co50, eo50⟩ := Kd.R_slice HO225.out; subst eo50) | ((with_reducible refine gate_callee (f := 49) rfl ?_); refine goesL_ (some 40) rfl rfl Try.func49 (by kernel_rfl) rfl #[.pointer (some ⟨g202, 0, none⟩), .slice Ao50 y223.length co50] rfl gl_ ?_; (with_reducible refine (spec_l1Rd_one.calls k g202 t200 t210 _ _ y223 t226 t227 w _ ?side1 ?side2 ?side3 ?side4 ?side5 A39.out).mono ?_); (case side1 => repeat (first | (with_reducible first | exact HI202.out | apply IsS72.alloc | apply IsS72.drewN | apply IsS72.drew | apply IsS72.set_1) | exact HI202.out)); (case side2 => repeat (first | (with_reducible first | exact HB.out | apply below_alloc | apply pw_below_drewN | apply below_drew1 | refine below_set ?_ (IsS72.ge HI202.out)) | exact HB.out)); (case side3 => exact cN (Kd.R_reads' HO225.out).2.2); (case side4 => exact (Kd.R_reads' HO225.out).2.1); (case side5 => exact far_slice (IsS72.own_ne HI202.out HO225.out (by decide))); rintro e w51 ⟨rfl, hi, hb, hk⟩; refine ⟨_, rfl, ?_⟩; have n0_ := m_ (Kd.R_mono (Kd.R_keep (IsS72.apart (show IsS72 w _ g202 t200 t210 from by repeat (first | (with_reducible first | exact HI202.out | apply IsS72.alloc | apply IsS72.drewN | apply IsS72.drew | apply IsS72.set_1) | exact HI202.out)) (rN HO205.out) (by decide)) hk (fun _ h => h.2)) (fun _ h => h.1)); have n1_ := m_ (Kd.R_mono (Kd.R_keep (IsS72.apart (show IsS72 w _ g202 t200 t210 from by repeat (first | (with_reducible first | exact HI202.out | apply IsS72.alloc | apply IsS72.drewN | apply IsS72.drew | apply IsS72.set_1) | exact HI202.out)) (rN HO225.out) (by decide)) hk (fun _ h => h.2)) (fun _ h => h.1)); have n2_ := m_ (hb); have n3_ := m_ (hi); clear HO205; clear HO225; clear HB; clear HI202; have HO205 := n0_; have HO225 := n1_; have HB := n2_; have HI202 := n3_; clear n0_ n1_ n2_ n3_; (try clear hb); (try clear hb2); (try clear hk); (try clear hi); have p42 : 0 ≤ (t207 : Int) := of_decide_eq_true (by first | (with_reducible assumption) | assumption); have q42 : (t207 : Int) < ((t203.length : Int) : Int) := of_decide_eq_true (by first | (with_reducible assumption) | assumption); obtain ⟨go42, co42, eo42, gb42, gl42, cl42, HG42⟩ := Kd.R_form HO205.out (by omega); (first | cases eo42 | (injection eo42 with ea_ en_ ec_; (first | subst ea_ | (injection ea_ with ea_; subst ea_)); subst ec_; clear en_)); have GB42 := Aside0.mk gb42; have GG42 := Aside0.mk HG42; clear gb42 gl42 HG42; obtain ⟨ce42, hcl42, hM42, hcc42, hfr42⟩ := Kd.R_elem HO205.out z53 (t207 : Int) p42 q42; obtain rfl := k53_openM hM42; have hx42_0 : w51.cell? ⟨go42, (t207 : Int).toNat * 3, none⟩ = some (.int .i64 ((rd_T53 t203 t207).f0)) := hcc42 0 _ rfl; have hx42_1 : w51.cell? ⟨go42, (t207 : Int).toNat * 3 + 1, none⟩ = some (.int .i64 ((rd_T53 t203 t207).f1)) := hcc42 1 _ rfl; have hx42_2 : w51.cell? ⟨go42, (t207 : Int).toNat * 3 + 2, none⟩ = some (.int .i64 ((rd_T53 t203 t207).f2)) := hcc42 2 _ rfl; have hf42_0 : w51.frozen? ⟨go42, (t207 : Int).toNat * 3, none⟩ = false := hfr42 0; have hf42_1 : w51.frozen? ⟨go42, (t207 : Int).toNat * 3 + 1, none⟩ = false := hfr42 1; have hf42_2 : w51.frozen? ⟨go42, (t207 : Int).toNat * 3 + 2, none⟩ = false := hfr42 2; clear hcl42 hcc42 hfr42 hM42; replace p42 := eq_true p42; replace q42 := eq_true q42; have HX52 := m_ (show Kd.R k53 53 w51 w.heap.size (fun _ => True) (.slice (some ⟨go42, 0, none⟩) t203.length co45) t203 from (rN HO205.out)); obtain ⟨ce52, hcl52, hM52, hcc52, hfr52⟩ := Kd.R_elem HX52.out z53 (t207 : Int) (of_decide_eq_true (by first | (with_reducible assumption) | assumption)) (by have h_ : (t207 : Int) < ((t203.length : Int) : Int) := of_decide_eq_true (by first | (with_reducible assumption) | assumption); first | exact h_ | (have e_ := (Kd.R_reads' HO205.out).1; omega) | simpa using h_); obtain rfl := k53_openM hM52; have HP52 := Kd.R_seg HX52.out (t207 : Int) (of_decide_eq_true (by first | (with_reducible assumption) | assumption)) (by have h_ : (t207 : Int) < ((t203.length : Int) : Int) := of_decide_eq_true (by first | (with_reducible assumption) | assumption); first | exact h_ | (have e_ := (Kd.R_reads' HO205.out).1; omega) | simpa using h_) (seg := [.int .i64 t226]) (j := 2) hcl52 hcc52 (show 3 ≤ 3 from by decide) (x' := (⟨(rd_T53 t203 t207).f0, (rd_T53 t203 t207).f1, t226⟩ : S53)) (k53_mkM _ _ _ (⟨(rd_T53 t203 t207).f0, (rd_T53 t203 t207).f1, t226⟩ : S53) ) (fun _ hk => hk); have hx52_2 := hcc52 2 _ rfl; (try simp only [show (k53).sz = 3 from rfl, Nat.mul_one, Nat.add_zero] at hx52_2); have hf52_2 := hfr52 2; (try simp only [show (k53).sz = 3 from rfl, Nat.mul_one, Nat.add_zero] at hf52_2); clear hcl52 hcc52 hfr52 hM52) | ((with_reducible refine gate_store (t := 3) (p := 42) rfl ?_); refine store_event (t := 3) (p := 42) (v := ?vo_w53) (w1 := (w51.setCell ⟨go42, (t207 : Int).toNat * 3 + 2, none⟩ (.int .i64 t226))) ?hg ?ho ?hn ?hr ?_; (case ho => rfl); (case hg => rfl); (case hn => rfl); (case hr => first | (go_simp; done) | (go_simp; rfl)); intro w53 hw; have hg : w51.grownBy w53 (some go42) := (by rw [hw]; exact HP52.2); have hp_ : Kd.R k53 53 w53 w.heap.size (fun _ => True) (.slice (some ⟨go42, 0, none⟩) t203.length co45) y228 := (by rw [hw, Ny228.out]; exact HP52.1); clear HP52; have n0_ := m_ (IsS72.grown (by repeat (first | (with_reducible first | exact HI202.out | apply IsS72.alloc | apply IsS72.drewN | apply IsS72.drew | apply IsS72.set_1) | exact HI202.out)) hg (IsS72.own_ne HI202.out HO205.out (by decide))); have n1_ := m_ (hp_); have n2_ := m_ (Kd.R_over' (v := (.slice (some ⟨go42, 0, none⟩) t203.length co45)) (rN HO225.out) (Kd.R_typed HO205.out) (by decide) hg); have n3_ := m_ ((by rw [hw]; exact below_set (HB.out) GB42.out : Below w.heap.size w w53)); clear HI202; clear HO205; clear HO225; clear HB; have HI202 := n0_; have HO205 := n1_; have HO225 := n2_; have HB := n3_; clear n0_ n1_ n2_ n3_; clear hg hw hp_))
      go_ret
      exact ⟨_, by first | rfl | (simp [errW_none, errW_some] <;> rfl) | (simp [*, errW_none, errW_some] <;> rfl), by (with_reducible repeat (first | apply Kd.R_alloc | apply Kd.R_drewN | apply Kd.R_drew)); exact HO205.out, by repeat (first | (with_reducible first | exact HB.out | apply below_alloc | apply pw_below_drewN | apply below_drew1 | refine below_set ?_ (IsS72.ge HI202.out)) | exact HB.out)⟩
     ·rw [if_neg c41] at H
      exact absurd H (by simp)
    ·rw [if_neg c40] at H
     exact absurd H (by simp)
   ·rw [if_neg c38] at H
    have c38b0 : (t209 == 2) = false := beq_eq_false_iff_ne.mpr c38
    have c38b1 : (t209 != 2) = true := bne_iff_ne.mpr c38
    by_cases c54 : t209 = 3
    ·rw [if_pos c54] at H
     have c54b0 : (t209 == 3) = true := beq_iff_eq.mpr c54
     have c54b1 : (t209 != 3) = false := bne_eq_false_iff_eq.mpr c54
     clear c54
     have H' := Aside0.mk H
     clear H
     go_enter Try.func35, Try.ntmps35
     go_wp2_with (first | ((with_reducible refine gate_callee (f := 47) rfl ?_); refine goesL_ (some 7) rfl rfl Try.func47 (by kernel_rfl) rfl #[.slice A0 l0.length c0] rfl gl_ ?_; (with_reducible refine (spec_l1Open.calls _ _ l0 t200 t201 w _ ?side1 ?side2 ?side3 A2.out).mono ?_); (case side1 => repeat (first | (with_reducible first | exact HB.out | apply below_alloc | apply pw_below_drewN | apply below_drew1) | exact HB.out)); (case side2 => exact HR0.out); (case side3 => exact HC0.out); rintro e w55 ⟨g202, rfl, hi, hb, hb2⟩; refine ⟨_, rfl, ?_⟩; have n0_ := m_ (hb); have n1_ := m_ (hi); clear HB; have HB := n0_; have HI202 := n1_; clear n0_ n1_; (try clear hb); (try clear hb2); (try clear hk); (try clear hi)) | ((with_reducible refine gate_callee (f := 54) rfl ?_); refine goesL_ (some 9) rfl rfl Try.func54 (by kernel_rfl) rfl #[.pointer (some ⟨g202, 0, none⟩)] rfl gl_ ?_; (with_reducible refine (spec_l15Prog.calls k g202 t200 t201 t203 t206 w _ ?side1 ?side2 A3.out).mono ?_); (case side1 => repeat (first | (with_reducible first | exact HI202.out | apply IsS72.alloc | apply IsS72.drewN | apply IsS72.drew | apply IsS72.set_1) | exact HI202.out)); (case side2 => repeat (first | (with_reducible first | exact HB.out | apply below_alloc | apply pw_below_drewN | apply below_drew1 | refine below_set ?_ (IsS72.ge HI202.out)) | exact HB.out)); rintro e w56 ⟨v204, rfl, ho0, hi, hb, hk⟩; refine ⟨_, rfl, ?_⟩; have n0_ := m_ (Kd.R_lower ho0 (below_size (by repeat (first | (with_reducible first | exact HB.out | apply below_alloc | apply pw_below_drewN | apply below_drew1 | refine below_set ?_ (IsS72.ge HI202.out)) | exact HB.out)))); have n1_ := m_ (hb); have n2_ := m_ (hi); clear HB; clear HI202; have HO205 := n0_; have HB := n1_; have HI202 := n2_; clear n0_ n1_ n2_; (try clear hb); (try clear hb2); (try clear hk); (try clear hi); (try clear ho0); obtain ⟨Ao57, co57, eo57⟩ := Kd.R_slice HO205.out; subst eo57) | ((with_reducible refine gate_callee (f := 50) rfl ?_); refine goesL_ (some 13) rfl rfl Try.func50 (by kernel_rfl) rfl #[.pointer (some ⟨g202, 0, none⟩), .int .i64 (t203.length : Int)] rfl gl_ ?_; (with_reducible refine (spec_l1Rd_pick.calls k g202 t200 t206 (t203.length : Int) t207 t208 w _ ?side1 ?side2 A4.out).mono ?_); (case side1 => repeat (first | (with_reducible first | exact HI202.out | apply IsS72.alloc | apply IsS72.drewN | apply IsS72.drew | apply IsS72.set_1) | exact HI202.out)); (case side2 => repeat (first | (with_reducible first | exact HB.out | apply below_alloc | apply pw_below_drewN | apply below_drew1 | refine below_set ?_ (IsS72.ge HI202.out)) | exact HB.out)); rintro e w58 ⟨rfl, hi, hb, hk⟩; refine ⟨_, rfl, ?_⟩; have n0_ := m_ (Kd.R_mono (Kd.R_keep (IsS72.apart (show IsS72 w _ g202 t200 t206 from by repeat (first | (with_reducible first | exact HI202.out | apply IsS72.alloc | apply IsS72.drewN | apply IsS72.drew | apply IsS72.set_1) | exact HI202.out)) (rN HO205.out) (by decide)) hk (fun _ h => h.2)) (fun _ h => h.1)); have n1_ := m_ (hb); have n2_ := m_ (hi); clear HO205; clear HB; clear HI202; have HO205 := n0_; have HB := n1_; have HI202 := n2_; clear n0_ n1_ n2_; (try clear hb); (try clear hb2); (try clear hk); (try clear hi)) | ((with_reducible refine gate_callee (f := 50) rfl ?_); refine goesL_ (some 15) rfl rfl Try.func50 (by kernel_rfl) rfl #[.pointer (some ⟨g202, 0, none⟩), .int .i64 10] rfl gl_ ?_; (with_reducible refine (spec_l1Rd_pick.calls k g202 t200 t208 10 t209 t210 w _ ?side1 ?side2 A5.out).mono ?_); (case side1 => repeat (first | (with_reducible first | exact HI202.out | apply IsS72.alloc | apply IsS72.drewN | apply IsS72.drew | apply IsS72.set_1) | exact HI202.out)); (case side2 => repeat (first | (with_reducible first | exact HB.out | apply below_alloc | apply pw_below_drewN | apply below_drew1 | refine below_set ?_ (IsS72.ge HI202.out)) | exact HB.out)); rintro e w59 ⟨rfl, hi, hb, hk⟩; refine ⟨_, rfl, ?_⟩; have n0_ := m_ (Kd.R_mono (Kd.R_keep (IsS72.apart (show IsS72 w _ g202 t200 t208 from by repeat (first | (with_reducible first | exact HI202.out | apply IsS72.alloc | apply IsS72.drewN | apply IsS72.drew | apply IsS72.set_1) | exact HI202.out)) (rN HO205.out) (by decide)) hk (fun _ h => h.2)) (fun _ h => h.1)); have n1_ := m_ (hb); have n2_ := m_ (hi); clear HO205; clear HB; clear HI202; have HO205 := n0_; have HB := n1_; have HI202 := n2_; clear n0_ n1_ n2_; (try clear hb); (try clear hb2); (try clear hk); (try clear hi)))
     go_loopg [4] k (fun kq v4 w' => ∃ (x4_1 : List (S53)), Aside0 (spec_DrawProgOk.l0 kq x4_1 = some r) ∧ Aside0 (kq ≤ k) ∧ Aside0 (Kd.R k53 53 w' w.heap.size (fun _ => True) v4 x4_1) ∧ Aside0 (Below w.heap.size w w'))
     case atStart => exact ⟨(t203), H', ⟨Nat.le_refl _⟩, ⟨by (with_reducible repeat (first | apply Kd.R_alloc | apply Kd.R_drewN | apply Kd.R_drew)); exact HO205.out⟩, ⟨by repeat (first | (with_reducible first | exact HB.out | apply below_alloc | apply pw_below_drewN | apply below_drew1 | refine below_set ?_ (IsS72.ge HI202.out)) | exact HB.out)⟩⟩
     case round =>
      clear H'
      try clear c1
      try clear p1
      try clear q1
      try clear hx1
      try clear hf1
      try clear c2
      try clear p2
      try clear q2
      try clear hx2
      try clear hf2
      try clear c3
      try clear hx3
      try clear hf3
      try clear c4
      try clear p4
      try clear q4
      try clear hx4
      try clear hf4
      try clear c5
      try clear hx5
      try clear hf5
      try clear c6
      try clear c6b0
      try clear c6b1
      try clear c8
      try clear c8b0
      try clear c9
      try clear c9b0
      try clear c10
      try clear p10
      try clear q10
      try clear hx10
      try clear hf10
      try clear c20
      try clear hx20
      try clear hf20
      try clear c22
      try clear c22b0
      try clear c22b1
      try clear c24
      try clear c24b0
      try clear c25
      try clear c25b0
      try clear c26
      try clear p26
      try clear q26
      try clear hx26
      try clear hf26
      try clear c35
      try clear c36
      try clear hx36
      try clear hf36
      try clear c38
      try clear c38b0
      try clear c38b1
      try clear c40
      try clear c40b0
      try clear c41
      try clear c41b0
      try clear c42
      try clear p42
      try clear q42
      try clear hx42
      try clear hf42
      try clear c47
      try clear c49
      try clear c50
      try clear c52
      try clear hx52
      try clear hf52
      try clear c54
      try clear c54b0
      try clear c54b1
      try clear hx10_0
      try clear hx10_1
      try clear hx10_2
      try clear hx20_0
      try clear hx26_0
      try clear hx26_1
      try clear hx26_2
      try clear hx36_1
      try clear hx42_0
      try clear hx42_1
      try clear hx42_2
      try clear hx52_2
      try clear p10
      try clear p26
      try clear p42
      try clear q10
      try clear q26
      try clear q42
      obtain ⟨x4_1, HA, HK1, HO_4, HB⟩ := hrel
      cases gk with
      | zero => exact absurd HA.out (by simp [spec_DrawProgOk.l0])
      | succ k1 =>
       have H := HA.out
       clear HA
       simp only [spec_DrawProgOk.l0] at H
       by_cases c60 : (x4_1.length : Int) ≤ 16
       ·rw [if_pos c60] at H
        have c60b0 : decide ((x4_1.length : Int) ≤ 16) = true := decide_eq_true c60
        have c60b1 : decide (x4_1.length ≤ 16) = true := decide_eq_true (by omega)
        clear c60
        by_cases c61 : x4_1.length < 5864062014805
        ·rw [if_pos c61] at H
         have LMc61 := Aside0.mk c61
         clear c61
         obtain ⟨y229, hy229⟩ : ∃ y_ : List (S53), y_ = (x4_1 ++ [(⟨11, 0, 0⟩ : S53)]) := ⟨_, rfl⟩
         replace H : (spec_DrawProgOk.l0 k1 y229) = some r := by first | (rw [hy229]; with_reducible exact H) | (have H2_ := (Option.bind_some _ _).symm.trans H; rw [hy229]; with_reducible exact H2_) | (have H2_ := (Option.bind_some _ _).symm.trans H; with_reducible exact H2_) | with_reducible exact H | (rw [hy229]; exact H) | exact H
         have Ny229 := Aside0.mk hy229
         clear hy229
         have H' := Aside0.mk H
         clear H
         obtain ⟨Ao62, co62, eo62⟩ := Kd.R_slice HO_4.out
         subst eo62
         go_wp2_with (first | ((with_reducible refine gate_builtin (b := .append) (xs := #[.tmp 48, .tmp 50]) rfl ?_); at_builtin; refine Kd.R_append k53 (w0 := w) w.heap.size rfl (.tmp 48) (.tmp 50) 25 53 (.agg #[(.int .i64 0), (.int .i64 0), (.int .i64 0)]) 24 rfl Try.underlying25 info53 rfl (by decide) (by omega) (.slice Ao62 x4_1.length co62) x4_1 (⟨11, 0, 0⟩ : S53) [.int .i64 11, .int .i64 0, .int .i64 0] (fun _ => True) (fun _ => False) rfl rfl ?aP (fun _ hk => hk.elim) ?aF ?aO ?aB ?aS ?aL ?_; (case aP => exact k53_mkM _ _ _ (⟨11, 0, 0⟩ : S53)); (case aB => exact (bN HB.out)); (case aF => exact (fun _ _ => trivial)); (case aO => exact (rN HO_4.out)); (case aS => exact (below_size (bN HB.out))); (case aL => have := LMc61.out; omega); intro v230 w63 ho hb hg hat; rw [← Ny229.out] at ho; have n0_ := m_ (hb); have n1_ := m_ (ho); clear HB; clear HO_4; have HB := n0_; have HO231 := n1_; clear n0_ n1_; clear ho hb hg hat))
         go_roundg k1
         case measure => have := HK1.out; omega
         case rel => exact ⟨(y229), H', ⟨by have := HK1.out; omega⟩, ⟨by (with_reducible repeat (first | apply Kd.R_alloc | apply Kd.R_drewN | apply Kd.R_drew)); exact HO231.out⟩, ⟨by repeat (first | (with_reducible first | exact HB.out | apply below_alloc | apply pw_below_drewN | apply below_drew1) | exact HB.out)⟩⟩
        ·rw [if_neg c61] at H
         exact absurd H (by simp)
       ·rw [if_neg c60] at H
        have c60b0 : decide ((x4_1.length : Int) ≤ 16) = false := decide_eq_false c60
        have c60b1 : decide (x4_1.length ≤ 16) = false := decide_eq_false (by omega)
        clear c60
        obtain rfl := Option.some.inj H
        obtain ⟨Ao64, co64, eo64⟩ := Kd.R_slice HO_4.out
        subst eo64
        go_wp2
        go_ret
        exact ⟨_, by first | rfl | (simp [errW_none, errW_some] <;> rfl) | (simp [*, errW_none, errW_some] <;> rfl), by (with_reducible repeat (first | apply Kd.R_alloc | apply Kd.R_drewN | apply Kd.R_drew)); exact HO_4.out, by repeat (first | (with_reducible first | exact HB.out | apply below_alloc | apply pw_below_drewN | apply below_drew1) | exact HB.out)⟩
    ·rw [if_neg c54] at H
     have c54b0 : (t209 == 3) = false := beq_eq_false_iff_ne.mpr c54
     have c54b1 : (t209 != 3) = true := bne_iff_ne.mpr c54
     by_cases c65 : t209 = 4
     ·rw [if_pos c65] at H
      have c65b0 : (t209 == 4) = true := beq_iff_eq.mpr c65
      have c65b1 : (t209 != 4) = false := bne_eq_false_iff_eq.mpr c65
      clear c65
      obtain ⟨y232, hy232⟩ : ∃ y_ : List (S53), y_ = (([] : List (S53))) := ⟨_, rfl⟩
      replace H : (some y232) = some r := by first | (rw [hy232]; with_reducible exact H) | (have H2_ := (Option.bind_some _ _).symm.trans H; rw [hy232]; with_reducible exact H2_) | (have H2_ := (Option.bind_some _ _).symm.trans H; with_reducible exact H2_) | with_reducible exact H | (rw [hy232]; exact H) | exact H
      have Ny232 := Aside0.mk hy232
      clear hy232
      obtain rfl := Option.some.inj H
      go_enter Try.func35, Try.ntmps35
      go_wp2_with (first | ((with_reducible refine gate_callee (f := 47) rfl ?_); refine goesL_ (some 7) rfl rfl Try.func47 (by kernel_rfl) rfl #[.slice A0 l0.length c0] rfl gl_ ?_; (with_reducible refine (spec_l1Open.calls _ _ l0 t200 t201 w _ ?side1 ?side2 ?side3 A2.out).mono ?_); (case side1 => repeat (first | (with_reducible first | exact HB.out | apply below_alloc | apply pw_below_drewN | apply below_drew1) | exact HB.out)); (case side2 => exact HR0.out); (case side3 => exact HC0.out); rintro e w66 ⟨g202, rfl, hi, hb, hb2⟩; refine ⟨_, rfl, ?_⟩; have n0_ := m_ (hb); have n1_ := m_ (hi); clear HB; have HB := n0_; have HI202 := n1_; clear n0_ n1_; (try clear hb); (try clear hb2); (try clear hk); (try clear hi)) | ((with_reducible refine gate_callee (f := 54) rfl ?_); refine goesL_ (some 9) rfl rfl Try.func54 (by kernel_rfl) rfl #[.pointer (some ⟨g202, 0, none⟩)] rfl gl_ ?_; (with_reducible refine (spec_l15Prog.calls k g202 t200 t201 t203 t206 w _ ?side1 ?side2 A3.out).mono ?_); (case side1 => repeat (first | (with_reducible first | exact HI202.out | apply IsS72.alloc | apply IsS72.drewN | apply IsS72.drew | apply IsS72.set_1) | exact HI202.out)); (case side2 => repeat (first | (with_reducible first | exact HB.out | apply below_alloc | apply pw_below_drewN | apply below_drew1 | refine below_set ?_ (IsS72.ge HI202.out)) | exact HB.out)); rintro e w67 ⟨v204, rfl, ho0, hi, hb, hk⟩; refine ⟨_, rfl, ?_⟩; have n0_ := m_ (Kd.R_lower ho0 (below_size (by repeat (first | (with_reducible first | exact HB.out | apply below_alloc | apply pw_below_drewN | apply below_drew1 | refine below_set ?_ (IsS72.ge HI202.out)) | exact HB.out)))); have n1_ := m_ (hb); have n2_ := m_ (hi); clear HB; clear HI202; have HO205 := n0_; have HB := n1_; have HI202 := n2_; clear n0_ n1_ n2_; (try clear hb); (try clear hb2); (try clear hk); (try clear hi); (try clear ho0); obtain ⟨Ao68, co68, eo68⟩ := Kd.R_slice HO205.out; subst eo68) | ((with_reducible refine gate_callee (f := 50) rfl ?_); refine goesL_ (some 13) rfl rfl Try.func50 (by kernel_rfl) rfl #[.pointer (some ⟨g202, 0, none⟩), .int .i64 (t203.length : Int)] rfl gl_ ?_; (with_reducible refine (spec_l1Rd_pick.calls k g202 t200 t206 (t203.length : Int) t207 t208 w _ ?side1 ?side2 A4.out).mono ?_); (case side1 => repeat (first | (with_reducible first | exact HI202.out | apply IsS72.alloc | apply IsS72.drewN | apply IsS72.drew | apply IsS72.set_1) | exact HI202.out)); (case side2 => repeat (first | (with_reducible first | exact HB.out | apply below_alloc | apply pw_below_drewN | apply below_drew1 | refine below_set ?_ (IsS72.ge HI202.out)) | exact HB.out)); rintro e w69 ⟨rfl, hi, hb, hk⟩; refine ⟨_, rfl, ?_⟩; have n0_ := m_ (Kd.R_mono (Kd.R_keep (IsS72.apart (show IsS72 w _ g202 t200 t206 from by repeat (first | (with_reducible first | exact HI202.out | apply IsS72.alloc | apply IsS72.drewN | apply IsS72.drew | apply IsS72.set_1) | exact HI202.out)) (rN HO205.out) (by decide)) hk (fun _ h => h.2)) (fun _ h => h.1)); have n1_ := m_ (hb); have n2_ := m_ (hi); clear HO205; clear HB; clear HI202; have HO205 := n0_; have HB := n1_; have HI202 := n2_; clear n0_ n1_ n2_; (try clear hb); (try clear hb2); (try clear hk); (try clear hi)) | ((with_reducible refine gate_callee (f := 50) rfl ?_); refine goesL_ (some 15) rfl rfl Try.func50 (by kernel_rfl) rfl #[.pointer (some ⟨g202, 0, none⟩), .int .i64 10] rfl gl_ ?_; (with_reducible refine (spec_l1Rd_pick.calls k g202 t200 t208 10 t209 t210 w _ ?side1 ?side2 A5.out).mono ?_); (case side1 => repeat (first | (with_reducible first | exact HI202.out | apply IsS72.alloc | apply IsS72.drewN | apply IsS72.drew | apply IsS72.set_1) | exact HI202.out)); (case side2 => repeat (first | (with_reducible first | exact HB.out | apply below_alloc | apply pw_below_drewN | apply below_drew1 | refine below_set ?_ (IsS72.ge HI202.out)) | exact HB.out)); rintro e w70 ⟨rfl, hi, hb, hk⟩; refine ⟨_, rfl, ?_⟩; have n0_ := m_ (Kd.R_mono (Kd.R_keep (IsS72.apart (show IsS72 w _ g202 t200 t208 from by repeat (first | (with_reducible first | exact HI202.out | apply IsS72.alloc | apply IsS72.drewN | apply IsS72.drew | apply IsS72.set_1) | exact HI202.out)) (rN HO205.out) (by decide)) hk (fun _ h => h.2)) (fun _ h => h.1)); have n1_ := m_ (hb); have n2_ := m_ (hi); clear HO205; clear HB; clear HI202; have HO205 := n0_; have HB := n1_; have HI202 := n2_; clear n0_ n1_ n2_; (try clear hb); (try clear hb2); (try clear hk); (try clear hi)) | ((with_reducible refine gate_dst (N := 54) rfl ?_); refine Kd.R_lit k53 _ 53 ?hg (N := 54) ?hd (xs := ([] : List (S53))) (inner := []) (ok := fun _ => True) (okp := fun _ => True) ?hr ?hp (fun _ hk => hk) trivial (Below.refl _ _) (Nat.le_refl _) (by simp) ?_; (case hd => rfl); (case hg => rfl); (case hr => first | (go_simp; done) | (go_simp; rfl)); (case hp => exact (Reps.none _ _)); intro v233 w71 ho72 hb hg_ hnew_; clear hg_ hnew_; (first | rw [← Ny232.out] at ho72 | (simp only [Int.reduceToNat] at ho72; rw [← Ny232.out] at ho72)); have n0_ := m_ (Kd.R_elder' (rN HO205.out) (Kd.R_base ho72) hb); have n1_ := m_ (Kd.R_lower (Kd.R_new' ho72 (Kd.R_lt (rN HO205.out))) (below_size (by repeat (first | (with_reducible first | exact HB.out | apply below_alloc | apply pw_below_drewN | apply below_drew1 | refine below_set ?_ (IsS72.ge HI202.out)) | exact HB.out)))); have n2_ := m_ (IsS72.below (by repeat (first | (with_reducible first | exact HI202.out | apply IsS72.alloc | apply IsS72.drewN | apply IsS72.drew | apply IsS72.set_1) | exact HI202.out)) hb); have n3_ := m_ (below_step (by repeat (first | (with_reducible first | exact HB.out | apply below_alloc | apply pw_below_drewN | apply below_drew1 | refine below_set ?_ (IsS72.ge HI202.out)) | exact HB.out)) hb); clear HO205; clear HI202; clear HB; have HO205 := n0_; have HO234 := n1_; have HI202 := n2_; have HB := n3_; clear n0_ n1_ n2_ n3_; clear hb ho72))
      go_ret
      exact ⟨_, by first | rfl | (simp [errW_none, errW_some] <;> rfl) | (simp [*, errW_none, errW_some] <;> rfl), by (with_reducible repeat (first | apply Kd.R_alloc | apply Kd.R_drewN | apply Kd.R_drew)); exact Kd.R_mono HO234.out (fun _ hk => trivial), by repeat (first | (with_reducible first | exact HB.out | apply below_alloc | apply pw_below_drewN | apply below_drew1 | refine below_set ?_ (IsS72.ge HI202.out)) | exact HB.out)⟩
     ·rw [if_neg c65] at H
      have c65b0 : (t209 == 4) = false := beq_eq_false_iff_ne.mpr c65
      have c65b1 : (t209 != 4) = true := bne_iff_ne.mpr c65
      obtain rfl := Option.some.inj H
      go_enter Try.func35, Try.ntmps35
      go_wp2_with (first | ((with_reducible refine gate_callee (f := 47) rfl ?_); refine goesL_ (some 7) rfl rfl Try.func47 (by kernel_rfl) rfl #[.slice A0 l0.length c0] rfl gl_ ?_; (with_reducible refine (spec_l1Open.calls _ _ l0 t200 t201 w _ ?side1 ?side2 ?side3 A2.out).mono ?_); (case side1 => repeat (first | (with_reducible first | exact HB.out | apply below_alloc | apply pw_below_drewN | apply below_drew1) | exact HB.out)); (case side2 => exact HR0.out); (case side3 => exact HC0.out); rintro e w73 ⟨g202, rfl, hi, hb, hb2⟩; refine ⟨_, rfl, ?_⟩; have n0_ := m_ (hb); have n1_ := m_ (hi); clear HB; have HB := n0_; have HI202 := n1_; clear n0_ n1_; (try clear hb); (try clear hb2); (try clear hk); (try clear hi)) | ((with_reducible refine gate_callee (f := 54) rfl ?_); refine goesL_ (some 9) rfl rfl Try.func54 (by kernel_rfl) rfl #[.pointer (some ⟨g202, 0, none⟩)] rfl gl_ ?_; (with_reducible refine (spec_l15Prog.calls k g202 t200 t201 t203 t206 w _ ?side1 ?side2 A3.out).mono ?_); (case side1 => repeat (first | (with_reducible first | exact HI202.out | apply IsS72.alloc | apply IsS72.drewN | apply IsS72.drew | apply IsS72.set_1) | exact HI202.out)); (case side2 => repeat (first | (with_reducible first | exact HB.out | apply below_alloc | apply pw_below_drewN | apply below_drew1 | refine below_set ?_ (IsS72.ge HI202.out)) | exact HB.out)); rintro e w74 ⟨v204, rfl, ho0, hi, hb, hk⟩; refine ⟨_, rfl, ?_⟩; have n0_ := m_ (Kd.R_lower ho0 (below_size (by repeat (first | (with_reducible first | exact HB.out | apply below_alloc | apply pw_below_drewN | apply below_drew1 | refine below_set ?_ (IsS72.ge HI202.out)) | exact HB.out)))); have n1_ := m_ (hb); have n2_ := m_ (hi); clear HB; clear HI202; have HO205 := n0_; have HB := n1_; have HI202 := n2_; clear n0_ n1_ n2_; (try clear hb); (try clear hb2); (try clear hk); (try clear hi); (try clear ho0); obtain ⟨Ao75, co75, eo75⟩ := Kd.R_slice HO205.out; subst eo75) | ((with_reducible refine gate_callee (f := 50) rfl ?_); refine goesL_ (some 13) rfl rfl Try.func50 (by kernel_rfl) rfl #[.pointer (some ⟨g202, 0, none⟩), .int .i64 (t203.length : Int)] rfl gl_ ?_; (with_reducible refine (spec_l1Rd_pick.calls k g202 t200 t206 (t203.length : Int) t207 t208 w _ ?side1 ?side2 A4.out).mono ?_); (case side1 => repeat (first | (with_reducible first | exact HI202.out | apply IsS72.alloc | apply IsS72.drewN | apply IsS72.drew | apply IsS72.set_1) | exact HI202.out)); (case side2 => repeat (first | (with_reducible first | exact HB.out | apply below_alloc | apply pw_below_drewN | apply below_drew1 | refine below_set ?_ (IsS72.ge HI202.out)) | exact HB.out)); rintro e w76 ⟨rfl, hi, hb, hk⟩; refine ⟨_, rfl, ?_⟩; have n0_ := m_ (Kd.R_mono (Kd.R_keep (IsS72.apart (show IsS72 w _ g202 t200 t206 from by repeat (first | (with_reducible first | exact HI202.out | apply IsS72.alloc | apply IsS72.drewN | apply IsS72.drew | apply IsS72.set_1) | exact HI202.out)) (rN HO205.out) (by decide)) hk (fun _ h => h.2)) (fun _ h => h.1)); have n1_ := m_ (hb); have n2_ := m_ (hi); clear HO205; clear HB; clear HI202; have HO205 := n0_; have HB := n1_; have HI202 := n2_; clear n0_ n1_ n2_; (try clear hb); (try clear hb2); (try clear hk); (try clear hi)) | ((with_reducible refine gate_callee (f := 50) rfl ?_); refine goesL_ (some 15) rfl rfl Try.func50 (by kernel_rfl) rfl #[.pointer (some ⟨g202, 0, none⟩), .int .i64 10] rfl gl_ ?_; (with_reducible refine (spec_l1Rd_pick.calls k g202 t200 t208 10 t209 t210 w _ ?side1 ?side2 A5.out).mono ?_); (case side1 => repeat (first | (with_reducible first | exact HI202.out | apply IsS72.alloc | apply IsS72.drewN | apply IsS72.drew | apply IsS72.set_1) | exact HI202.out)); (case side2 => repeat (first | (with_reducible first | exact HB.out | apply below_alloc | apply pw_below_drewN | apply below_drew1 | refine below_set ?_ (IsS72.ge HI202.out)) | exact HB.out)); rintro e w77 ⟨rfl, hi, hb, hk⟩; refine ⟨_, rfl, ?_⟩; have n0_ := m_ (Kd.R_mono (Kd.R_keep (IsS72.apart (show IsS72 w _ g202 t200 t208 from by repeat (first | (with_reducible first | exact HI202.out | apply IsS72.alloc | apply IsS72.drewN | apply IsS72.drew | apply IsS72.set_1) | exact HI202.out)) (rN HO205.out) (by decide)) hk (fun _ h => h.2)) (fun _ h => h.1)); have n1_ := m_ (hb); have n2_ := m_ (hi); clear HO205; clear HB; clear HI202; have HO205 := n0_; have HB := n1_; have HI202 := n2_; clear n0_ n1_ n2_; (try clear hb); (try clear hb2); (try clear hk); (try clear hi)))
      go_ret
      exact ⟨_, by first | rfl | (simp [errW_none, errW_some] <;> rfl) | (simp [*, errW_none, errW_some] <;> rfl), by (with_reducible repeat (first | apply Kd.R_alloc | apply Kd.R_drewN | apply Kd.R_drew)); exact HO205.out, by repeat (first | (with_reducible first | exact HB.out | apply below_alloc | apply pw_below_drewN | apply below_drew1 | refine below_set ?_ (IsS72.ge HI202.out)) | exact HB.out)⟩

/-! ### spec_DrawPartNew: function 14 -/
def spec_DrawPartNew.f (k : Nat) (l0 : List Int) : Option ((List (S53))) := (spec_DrawProgOk.f k l0).bind fun t235 => (some t235)
theorem spec_DrawPartNew.mono : ∀ a0 k, LeO (spec_DrawPartNew.f k a0) (spec_DrawPartNew.f (k + 1) a0) := by
 intro a0 k
 unfold spec_DrawPartNew.f
 repeat' first
   | (with_reducible exact spec_DrawProgOk.mono _ _)
   | (with_reducible exact LeO.refl _)
   | (with_reducible exact LeO.none _)
   | (with_reducible refine LeO.ite ?_ ?_)
   | (with_reducible refine LeO.bind ?_ (fun _ => ?_))
   | exact spec_DrawProgOk.mono _ _
   | exact LeO.none _
   | refine LeO.ite ?_ ?_
   | refine LeO.bind ?_ (fun _ => ?_)
set_option maxHeartbeats 8000000 in
set_option maxRecDepth 100000 in
theorem spec_DrawPartNew.calls (k : Nat) (A0 : Option Addr) (c0 : Nat) (l0 : List Int) (r : List (S53)) (w : World) (hr0 : Kd.C (Kd.int .u8) w A0 l0.length l0) (hc0 : l0.length ≤ c0) (h : spec_DrawPartNew.f k l0 = some r) :
  Calls Try.prog 14 #[.slice A0 l0.length c0] w fun e w' => ∃ v0_ : Value, e = .returned (v0_) ∧ Kd.R k53 53 w' w.heap.size (fun _ => True) v0_ r ∧ Below w.heap.size w w' := by
 have HR0 := Aside0.mk hr0
 have HC0 := Aside0.mk hc0
 clear hr0 hc0
 have HB := m_ (Below.refl w.heap.size w)
 have H : ((spec_DrawProgOk.f k l0).bind fun t235 => (some t235)) = some r := h
 clear h
 replace H := Option.bind_eq_some_iff.mp H
 obtain ⟨t235, A20, H⟩ := H
 replace H : (some t235) = some r := H
 have A2 := Aside0.mk A20
 clear A20
 obtain rfl := Option.some.inj H
 go_enter Try.func14, Try.ntmps14
 go_wp2_with (first | ((with_reducible refine gate_callee (f := 35) rfl ?_); refine goesL_ (some 4) rfl rfl Try.func35 (by kernel_rfl) rfl #[.slice A0 l0.length c0] rfl gl_ ?_; (with_reducible refine (spec_DrawProgOk.calls k _ _ l0 t235 _ ?side1 ?side2 A2.out).mono ?_); (case side1 => exact cN HR0.out); (case side2 => exact HC0.out); rintro e w3 ⟨v236, rfl, ho0, hb⟩; refine ⟨_, rfl, ?_⟩; have n0_ := m_ (Kd.R_lower ho0 (below_size (bN HB.out))); have n1_ := m_ (below_step (bN HB.out) hb); clear HB; have HO237 := n0_; have HB := n1_; clear n0_ n1_; (try clear hb); (try clear hb2); (try clear hk); (try clear hi); (try clear ho0)))
 go_ret
 exact ⟨_, by first | rfl | (simp [errW_none, errW_some] <;> rfl) | (simp [*, errW_none, errW_some] <;> rfl), by (with_reducible repeat (first | apply Kd.R_alloc | apply Kd.R_drewN | apply Kd.R_drew)); exact HO237.out, by repeat (first | (with_reducible first | exact HB.out | apply below_alloc | apply pw_below_drewN | apply below_drew1) | exact HB.out)⟩

end Go.Proofs.Ytmhdphohhheoaaa.P
