/- The card of the statement FnExactConfTurn: for every input the law answers true and leaves its arguments as they were; io.EOF begins as the program's text lays it, and that is tied to the text. No other condition. -/
import Derived.Test.YtcenmlpfbpogoaaDoorRows
import Derived.Test.YtcenmlpfbpogoaaDoorQFnExactConfTurn
import Derived.Test.YtcenmlpfbpogoaaDoorPureFnExactConfTurn
import Derived.Test.YtcenmlpfbpogoaaDoorCards
import Derived.Test.YtcenmlpfbpogoaaDoorTie
import Derived.SevenTiedAt
import Derived.Handed
import Derived.ChangeVars
import Derived.JoinedOf
import Derived.LaidLaws
import Derived.LaidHandle
import Derived.RowKitTokens
import Derived.WalkKit
import Derived.ProofKit
import Derived.OpenShut
import Derived.ShutString
import Derived.ChangeOld
import Derived.Below
import Derived.SizedLaws
namespace Go.Proofs.YtcenmlpfbpogoaaDoor.fnExactConfTurn
open Go.ChangeShapes Go.WideShapes Go.ChangeAt Go.RowKit Go.Proofs.YtcenmlpfbpogoaaDoor.Open Go.Proofs.YtcenmlpfbpogoaaDoor.P Go.Proofs.YtcenmlpfbpogoaaDoorW.PrintWords Go.Proofs.YtcenmlpfbpogoaaDoorW.PrintLast
open Go.ChangeMaps (open_string shut_string)
set_option linter.unusedVariables false
theorem own : ownKnob Tryd.prog.godebug = none := by kernel_rfl
theorem laidOut : laidOutB Tryd.prog = true := by kernel_rfl
theorem hl_et : Tryd.prog.globalNamed "errors.errorType" = some 0 := by kernel_rfl
theorem hl_rt : (Tryd.prog.cutTypes.find? (·.1 == "internal/reflectlite.rtype")).map (·.2) = some 114 := by kernel_rfl
theorem hl_row : ((List.range 159).filter fun t => Tryd.prog.rowNamed t [101, 114, 114, 111, 114]) = [64] := by kernel_rfl
theorem hl_size : Tryd.prog.types.size = 159 := by kernel_rfl
theorem handle_of_laid {W : World} (h : laidMetH Tryd.prog [("errors.errorType", Rows.laid_errors_errorType)] W) : GErr W := by
  have h' : laidMet Tryd.prog [] W ∧ handlesMet Tryd.prog [("errors.errorType", Rows.laid_errors_errorType)] W := h
  obtain ⟨name, u, ty, e1, e2, e3, e4, e5⟩ := h'.2 _ (List.mem_singleton.2 rfl)
  have en : name = [101, 114, 114, 111, 114] := (Option.some.inj e1).symm
  subst en
  obtain rfl := Option.some.inj (hl_rt.symm.trans e2)
  have hm : ty ∈ (List.range 159).filter fun t => Tryd.prog.rowNamed t [101, 114, 114, 111, 114] := List.mem_filter.2 ⟨List.mem_range.2 (by rw [← hl_size]; exact e3), e4⟩
  rw [hl_row] at hm
  obtain rfl := List.mem_singleton.1 hm
  have hh : typeHandle Tryd.prog 64 = .pointer (some ⟨1, 64, none⟩) := by kernel_rfl
  rw [hh] at e5
  simpa [GErr] using World.var?_cell hl_et e5 0
/-- A world that meets the row's premise: the settled one, the variable's cell laid. -/
noncomputable def laidWorld (os : Os) : World :=
  let w0 := World.holding Tryd.prog os ⟨#[], #[], []⟩
  { w0 with heap := w0.heap.modify 0 fun
      | .cells _ t frozen => .cells #[.iface 114 (.agg #[.pointer (some ⟨1, 64, none⟩)])] t frozen
      | o => o }
theorem laidWorld_met (os : Os) (args : Array Value) : laidMetH Tryd.prog [("errors.errorType", Rows.laid_errors_errorType)] ((laidWorld os).forCall (fun _ _ => 0) ⟨#[], args, []⟩).memory :=
  laidMetH_of_parts (laidMet_nil _ _) (by kernel_rfl)
set_option maxRecDepth 100000 in
theorem lifted (os : Os) (started : os.Started) (H : Type) (enc : TypeId × Value → H) :
    ReturnsInHanded {} Tryd.checked os 3 .any (fun w args => (Rows.fnExactConfTurnSpec.pre enc Tryd.prog Tryd.f3 Rows.fnExactConfTurnRow.domain false w args ∧ laidMetH Tryd.prog [("errors.errorType", Rows.laid_errors_errorType)] w) ∧ sizedMet enc Tryd.prog Tryd.f3 (OpenSpec.ofChange Rows.fnExactConfTurnSpec) false w args) (Rows.fnExactConfTurnSpec.post enc Tryd.prog Tryd.f3 false true false false) := by
  refine returnsInHanded_of_change_and (C := Tryd.checked) (X := fun w _ => laidMetH Tryd.prog [("errors.errorType", Rows.laid_errors_errorType)] w) (fun _ _ _ hh h => h.of_heap hh) own started (by kernel_rfl) Tryd.func3
    (ChangeSpec.witness_at (enc := enc) (C := Tryd.checked) (os := os) (X := fun w _ => laidMetH Tryd.prog [("errors.errorType", Rows.laid_errors_errorType)] w) false (laidWorld os) #[.agg #[.int .i64 0, .int .i64 0, .slice none 0 0, .slice none 0 0, .slice none 0 0, .slice none 0 0, .slice none 0 0, .slice none 0 0, .slice none 0 0, .int .i64 0], .int .i64 0, .int .i64 0] 8 rfl (by kernel_rfl) (by kernel_rfl) (by kernel_rfl) (by kernel_rfl) (by kernel_rfl) (laidWorld_met os _)) ?_
  intro W base args ds gs before hval0 hW hcnd hsz0 hL _
  have hval : ∀ (j : Nat) t v, Tryd.f3.params[j]? = some t → args[j]? = some v → Value.okWide Tryd.prog W .any base t v := hval0
  have hW' := hW
  obtain ⟨p, q, hA0, hV, rfl, hfz, hnd⟩ := hW
  have hA : DataW.TrodAll enc Tryd.prog W 0 (fun _ => true) true Tryd.f3.params.toList args.toList ds p := hA0
  rw [Tryd.params3] at hA hval
  obtain ⟨v0, vs0, d0, ds0, p0, q0, hargs, rfl, rfl, h0, r0⟩ := trodAll_cons hA
  obtain ⟨v1, vs1, d1, ds1, p1, q1, rfl, rfl, rfl, h1, r1⟩ := trodAll_cons r0
  obtain ⟨v2, vs2, d2, ds2, p2, q2, rfl, rfl, rfl, h2, r2⟩ := trodAll_cons r1
  obtain ⟨rfl, rfl, rfl⟩ := trodAll_nil r2
  obtain rfl : args = #[v0, v1, v2] := by cases args; simp_all
  obtain ⟨rfl, rfl⟩ := trodVars_none hV
  have k0 := h0
  have lt0 : ∀ x ∈ p0, x.block < W.heap.size := by obtain ⟨m, hm⟩ := k0; exact DataW.trod_lt m _ _ _ hm
  obtain ⟨fuel0, e0⟩ := h0
  obtain ⟨cs0, rfl⟩ := agg_of Tryd.underlying26 (hval 0 26 v0 rfl rfl)
  have e0' : DataW.trod enc Tryd.prog W 0 (fun _ => true) true fuel0 26 cs0.toList = some (d0, p0) := by simpa [Value.cells] using e0
  obtain ⟨y0, G0, K0⟩ := (show Opens Tryd.prog 26 (Kd.iso (Kd.pair (Kd.int .i64) (Kd.pair (Kd.int .i64) (Kd.pair (Kd.slice 74 (Kd.slice 109 k109)) (Kd.pair (Kd.slice 3 (Kd.int .i64)) (Kd.pair (Kd.slice 3 (Kd.int .i64)) (Kd.pair (Kd.slice 3 (Kd.int .i64)) (Kd.pair (Kd.slice 3 (Kd.int .i64)) (Kd.pair (Kd.slice 3 (Kd.int .i64)) (Kd.pair (Kd.slice 80 k80) (Kd.int .i64)))))))))) id) _ from opens_struct Tryd.underlying26 (by kernel_rfl) (fields_cons (opens_int Tryd.underlying3 (by kernel_rfl)) rfl (fields_cons (opens_int Tryd.underlying3 (by kernel_rfl)) rfl (fields_cons (opens_slice Tryd.underlying22 (by kernel_rfl) (opens_slice_len Tryd.underlying74 (by kernel_rfl) (show Opens Tryd.prog 109 k109 _ from opens_struct Tryd.underlying109 (by kernel_rfl) (fields_cons (opens_int Tryd.underlying3 (by kernel_rfl)) rfl (fields_cons (opens_int Tryd.underlying3 (by kernel_rfl)) rfl (fields_one (opens_int Tryd.underlying3 (by kernel_rfl)) rfl))) (fun x : S109 => (x.f0, x.f1, x.f2)) (fun p => ⟨p.1, p.2.1, p.2.2⟩) (fun _ => rfl)))) rfl (fields_cons (opens_slice Tryd.underlying23 (by kernel_rfl) (opens_int Tryd.underlying3 (by kernel_rfl))) rfl (fields_cons (opens_slice Tryd.underlying23 (by kernel_rfl) (opens_int Tryd.underlying3 (by kernel_rfl))) rfl (fields_cons (opens_slice Tryd.underlying23 (by kernel_rfl) (opens_int Tryd.underlying3 (by kernel_rfl))) rfl (fields_cons (opens_slice Tryd.underlying23 (by kernel_rfl) (opens_int Tryd.underlying3 (by kernel_rfl))) rfl (fields_cons (opens_slice Tryd.underlying23 (by kernel_rfl) (opens_int Tryd.underlying3 (by kernel_rfl))) rfl (fields_cons (opens_slice Tryd.underlying24 (by kernel_rfl) (show Opens Tryd.prog 80 k80 _ from opens_struct Tryd.underlying80 (by kernel_rfl) (fields_cons (opens_int Tryd.underlying3 (by kernel_rfl)) rfl (fields_cons (opens_int Tryd.underlying3 (by kernel_rfl)) rfl (fields_cons (opens_int Tryd.underlying3 (by kernel_rfl)) rfl (fields_cons (opens_int Tryd.underlying3 (by kernel_rfl)) rfl (fields_cons (opens_bool Tryd.underlying4 (by kernel_rfl)) rfl (fields_one (opens_bool Tryd.underlying4 (by kernel_rfl)) rfl)))))) (fun x : S80 => (x.f0, x.f1, x.f2, x.f3, x.f4, x.f5)) (fun p => ⟨p.1, p.2.1, p.2.2.1, p.2.2.2.1, p.2.2.2.2.1, p.2.2.2.2.2⟩) (fun _ => rfl))) rfl (fields_one (opens_int Tryd.underlying3 (by kernel_rfl)) rfl)))))))))) id id (fun _ => rfl)).2 H enc W 0 (fun _ => true) true fuel0 _ _ e0'
  obtain ⟨y0_0, y0_1, y0_2, y0_3, y0_4, y0_5, y0_6, y0_7, y0_8, y0_9⟩ := y0
  obtain ⟨x0_0, w0_0, q0_0, z0_0, ⟨x0_1, w0_1, q0_1, z0_1, ⟨x0_2, w0_2, q0_2, ⟨A0_2, c0_2, z0_2, hc0_2, hr0_2⟩, ⟨x0_3, w0_3, q0_3, ⟨A0_3, c0_3, z0_3, hc0_3, hr0_3⟩, ⟨x0_4, w0_4, q0_4, ⟨A0_4, c0_4, z0_4, hc0_4, hr0_4⟩, ⟨x0_5, w0_5, q0_5, ⟨A0_5, c0_5, z0_5, hc0_5, hr0_5⟩, ⟨x0_6, w0_6, q0_6, ⟨A0_6, c0_6, z0_6, hc0_6, hr0_6⟩, ⟨x0_7, w0_7, q0_7, ⟨A0_7, c0_7, z0_7, hc0_7, hr0_7⟩, ⟨x0_8, w0_8, q0_8, ⟨A0_8, c0_8, z0_8, hc0_8, hr0_8⟩, z0_9⟩⟩⟩⟩⟩⟩⟩⟩⟩ := K0
  replace z0_0 : x0_0 = [.int .i64 y0_0] := z0_0
  replace z0_1 : x0_1 = [.int .i64 y0_1] := z0_1
  replace z0_2 : x0_2 = [.slice A0_2 y0_2.length c0_2] := z0_2
  replace z0_3 : x0_3 = [.slice A0_3 y0_3.length c0_3] := z0_3
  replace z0_4 : x0_4 = [.slice A0_4 y0_4.length c0_4] := z0_4
  replace z0_5 : x0_5 = [.slice A0_5 y0_5.length c0_5] := z0_5
  replace z0_6 : x0_6 = [.slice A0_6 y0_6.length c0_6] := z0_6
  replace z0_7 : x0_7 = [.slice A0_7 y0_7.length c0_7] := z0_7
  replace z0_8 : x0_8 = [.slice A0_8 y0_8.length c0_8] := z0_8
  replace z0_9 : w0_8 = [.int .i64 y0_9] := z0_9
  obtain rfl : cs0 = #[.int .i64 y0_0, .int .i64 y0_1, .slice A0_2 y0_2.length c0_2, .slice A0_3 y0_3.length c0_3, .slice A0_4 y0_4.length c0_4, .slice A0_5 y0_5.length c0_5, .slice A0_6 y0_6.length c0_6, .slice A0_7 y0_7.length c0_7, .slice A0_8 y0_8.length c0_8, .int .i64 y0_9] := by
    apply Array.ext'
    rw [q0_0, q0_1, q0_2, q0_3, q0_4, q0_5, q0_6, q0_7, q0_8]
    simp only [z0_0, z0_1, z0_2, z0_3, z0_4, z0_5, z0_6, z0_7, z0_8, z0_9]
    rfl
  obtain ⟨g0_0, g0_1, g0_2, g0_3, g0_4, g0_5, g0_6, g0_7, g0_8, g0_9⟩ := G0
  have k1 := h1
  have lt1 : ∀ x ∈ p1, x.block < W.heap.size := by obtain ⟨m, hm⟩ := k1; exact DataW.trod_lt m _ _ _ hm
  obtain ⟨fuel1, e1⟩ := h1
  obtain ⟨y1, rfl, rfl, rfl, G1⟩ := open_int Tryd.underlying3 (hval 1 3 v1 rfl rfl) k1
  have G1' : GInt y1 := gint_of_wf G1
  have k2 := h2
  have lt2 : ∀ x ∈ p2, x.block < W.heap.size := by obtain ⟨m, hm⟩ := k2; exact DataW.trod_lt m _ _ _ hm
  obtain ⟨fuel2, e2⟩ := h2
  obtain ⟨y2, rfl, rfl, rfl, G2⟩ := open_int Tryd.underlying3 (hval 2 3 v2 rfl rfl) k2
  have G2' : GInt y2 := gint_of_wf G2
  obtain ⟨k, hk⟩ := Pure.FnExactConfTurn y0_0 y0_1 y0_2 y0_3 y0_4 y0_5 y0_6 y0_7 y0_8 y0_9 y1 y2 g0_0 g0_1 hr0_2.2.1 g0_2 hr0_3.2.1 g0_3 hr0_4.2.1 g0_4 hr0_5.2.1 g0_5 hr0_6.2.1 g0_6 hr0_7.2.1 g0_7 hr0_8.2.1 g0_9 G1' G2'
  refine (Go.Proofs.YtcenmlpfbpogoaaDoor.P.laws_FnExactConfTurn.calls k y0_0 y0_1 _ _ y0_2 _ _ y0_3 _ _ y0_4 _ _ y0_5 _ _ y0_6 _ _ y0_7 _ _ y0_8 y0_9 y1 y2 true W hr0_2 hc0_2 hr0_3 hc0_3 hr0_4 hc0_4 hr0_5 hc0_5 hr0_6 hc0_6 hr0_7 hc0_7 hr0_8 hc0_8 hk (handle_of_laid hL)).mono fun e W' hpost => ?_
  obtain ⟨he, bel0⟩ := hpost
  have bel : Below W.heap.size W W' := bel0
  subst he
  exact ⟨_, rfl, _, _, _, [], _, [], hW', trodAll_mk1 (shut_bool Tryd.underlying4 _), (trodAll_cons_mk (Below.trod laidOut (by kernel_rfl) (of_decide_eq_true (by kernel_rfl)) k0 bel lt0) (trodAll_cons_mk (shut_int Tryd.underlying3 G1) (trodAll_cons_mk (shut_int Tryd.underlying3 G2) trodAll_mk0))), rfl, bel.frame _, fun h => by cases h⟩
theorem over : Rows.fnExactConfTurnRow.holds Tryd.pinned (OpenSpec.ofChange Rows.fnExactConfTurnSpec) :=
  OpenClaim.holds_of_wide 3 Tryd.f3 rfl rfl rfl rfl rfl rfl rfl ⟨rfl, rfl, rfl, rfl, rfl⟩ rfl rfl rfl rfl rfl (by kernel_rfl) Tryd.func3 (by kernel_rfl)
    (of_decide_eq_true (by kernel_rfl)) (by unfold Func.isWrapper; first | (rw [if_pos (by decide +kernel)]; kernel_rfl) | (rw [if_neg (by decide +kernel)]; exact ⟨rfl, rfl⟩))
    (fun os started H enc _ => lifted os started H enc)
theorem proved : Rows.FnExactConfTurnSaid := over
theorem card : Rows.FnExactConfTurnCardSaid :=
  Claim7.holds_tied_plain_at .later [] [.handle] true (true, "2733a8a50645680700ca6af221c6766ad0ba4057d74fbed21c47065ff8b50bcf") true
    proved (fun _ h => by cases h) (by kernel_rfl) (fun _ h => by cases h) fnExactConfTurn_row_tie rfl ⟨rfl, rfl⟩ (by kernel_rfl) rfl
    (fun f fn hf hfn => by
      obtain rfl : f = 3 := Option.some.inj ((show Tryd.prog.funcNamed "loop.example/skyway/laws.FnExactConfTurn" = some 3 by kernel_rfl).symm.trans hf) |>.symm
      obtain rfl : fn = Tryd.f3 := (Option.some.inj (Tryd.func3.symm.trans hfn)).symm
      exact ⟨by kernel_rfl, fun j t ht => by
        rw [Tryd.params3] at ht
        have h3 : t = 26 ∨ t = 3 ∨ t = 3 := by
          rcases j with _ | j
          · simp at ht; subst ht; simp
          rcases j with _ | j
          · simp at ht; subst ht; simp
          rcases j with _ | j
          · simp at ht; subst ht; simp
          · simp at ht
        rcases h3 with rfl | rfl | rfl
        · exact (show Tryd.prog.wantsStandIn 26 = false by kernel_rfl)
        · exact (show Tryd.prog.wantsStandIn 3 = false by kernel_rfl)
        · exact (show Tryd.prog.wantsStandIn 3 = false by kernel_rfl)⟩)
    (by kernel_rfl)
#print axioms card
end Go.Proofs.YtcenmlpfbpogoaaDoor.fnExactConfTurn
namespace Go.Proofs.YtcenmlpfbpogoaaDoor
/-- The row, under a short name, for the claim. -/
theorem fnExactConfTurn_holds : Rows.FnExactConfTurnCardSaid := fnExactConfTurn.card
end Go.Proofs.YtcenmlpfbpogoaaDoor
