/- The card of the statement FnExactHearsDown: for every input the law answers true and leaves its arguments as they were; io.EOF begins as the program's text lays it, and that is tied to the text. No other condition. -/
import Derived.Test.YtbldbjfmibhffaaDoorRows
import Derived.Test.YtbldbjfmibhffaaDoorQFnExactHearsDown
import Derived.Test.YtbldbjfmibhffaaDoorPureFnExactHearsDown
import Derived.Test.YtbldbjfmibhffaaDoorCards
import Derived.Test.YtbldbjfmibhffaaDoorTie
import Derived.SevenTiedAt
import Derived.Handed
import Derived.ChangeVars
import Derived.JoinedOf
import Derived.LaidLaws
import Derived.WalkKit
import Derived.ProofKit
import Derived.OpenShut
import Derived.ShutString
import Derived.ChangeOld
import Derived.Below
import Derived.SizedLaws
namespace Go.Proofs.YtbldbjfmibhffaaDoor.fnExactHearsDown
open Go.ChangeShapes Go.WideShapes Go.ChangeAt Go.RowKit Go.Proofs.YtbldbjfmibhffaaDoor.Open Go.Proofs.YtbldbjfmibhffaaDoor.P Go.Proofs.YtbldbjfmibhffaaDoorW.PrintWords Go.Proofs.YtbldbjfmibhffaaDoorW.PrintLast
open Go.ChangeMaps (open_string shut_string)
set_option linter.unusedVariables false
theorem own : ownKnob Tryd.prog.godebug = none := by kernel_rfl
theorem laidOut : laidOutB Tryd.prog = true := by kernel_rfl
noncomputable def low : Nat := (World.holding Tryd.prog default ⟨#[], #[], []⟩).heap.size
/-- A world that meets the row's premise: the settled one, the variable's cell laid. -/
noncomputable def laidWorld (os : Os) : World :=
  let w0 := World.holding Tryd.prog os ⟨#[.cells #[.string ⟨#[69, 79, 70]⟩] 105], #[], []⟩
  { w0 with heap := (w0.heap.modify 0 fun
      | .cells _ t frozen => .cells #[.iface 87 (.pointer (some ⟨low, 0, none⟩))] t frozen
      | o => o) }
theorem laidWorld_met (os : Os) (args : Array Value) : laidMet Tryd.prog [("io.EOF", Rows.laid_io_EOF)] ((laidWorld os).forCall (fun _ _ => 0) ⟨#[], args, []⟩).memory :=
  laidMet_of_run (ps := [.cell 0 0, .cell low 0]) 8 (by kernel_rfl) (by kernel_rfl) (by kernel_rfl)
set_option maxRecDepth 100000 in
theorem lifted (os : Os) (started : os.Started) (H : Type) (enc : TypeId × Value → H) :
    ReturnsInHanded {} Tryd.checked os 3 .any (fun w args => (Rows.fnExactHearsDownSpec.pre enc Tryd.prog Tryd.f3 Rows.fnExactHearsDownRow.domain false w args ∧ laidMet Tryd.prog [("io.EOF", Rows.laid_io_EOF)] w) ∧ sizedMet enc Tryd.prog Tryd.f3 (OpenSpec.ofChange Rows.fnExactHearsDownSpec) false w args) (Rows.fnExactHearsDownSpec.post enc Tryd.prog Tryd.f3 false true false false) := by
  refine returnsInHanded_of_change_and (C := Tryd.checked) (X := fun w _ => laidMet Tryd.prog [("io.EOF", Rows.laid_io_EOF)] w) (fun _ _ _ hh h => h.of_heap hh) own started (by kernel_rfl) Tryd.func3
    (ChangeSpec.witness_at (enc := enc) (C := Tryd.checked) (os := os) (X := fun w _ => laidMet Tryd.prog [("io.EOF", Rows.laid_io_EOF)] w) false (laidWorld os) #[.agg #[.int .i64 0, .bool false, .string ByteArray.empty], .agg #[.int .i64 0, .int .i64 0, .int .i64 0, .int .i64 0, .int .i64 0, .string ByteArray.empty, .string ByteArray.empty]] 8 rfl (by kernel_rfl) (by kernel_rfl) (by kernel_rfl) (by kernel_rfl) (by kernel_rfl) (laidWorld_met os _)) ?_
  intro W base args ds gs before hval0 hW hcnd hsz0 _ _
  have hval : ∀ (j : Nat) t v, Tryd.f3.params[j]? = some t → args[j]? = some v → Value.okWide Tryd.prog W .any base t v := hval0
  have hW' := hW
  obtain ⟨p, q, hA0, hV, rfl, hfz, hnd⟩ := hW
  have hA : DataW.TrodAll enc Tryd.prog W 0 (fun _ => true) true Tryd.f3.params.toList args.toList ds p := hA0
  rw [Tryd.params3] at hA hval
  obtain ⟨v0, vs0, d0, ds0, p0, q0, hargs, rfl, rfl, h0, r0⟩ := trodAll_cons hA
  obtain ⟨v1, vs1, d1, ds1, p1, q1, rfl, rfl, rfl, h1, r1⟩ := trodAll_cons r0
  obtain ⟨rfl, rfl, rfl⟩ := trodAll_nil r1
  obtain rfl : args = #[v0, v1] := by cases args; simp_all
  obtain ⟨rfl, rfl⟩ := trodVars_none hV
  have k0 := h0
  have lt0 : ∀ x ∈ p0, x.block < W.heap.size := by obtain ⟨m, hm⟩ := k0; exact DataW.trod_lt m _ _ _ hm
  obtain ⟨fuel0, e0⟩ := h0
  obtain ⟨cs0, rfl⟩ := agg_of Tryd.underlying23 (hval 0 23 v0 rfl rfl)
  have e0' : DataW.trod enc Tryd.prog W 0 (fun _ => true) true fuel0 23 cs0.toList = some (d0, p0) := by simpa [Value.cells] using e0
  obtain ⟨y0, G0, K0⟩ := (show Opens Tryd.prog 23 (Kd.iso (Kd.pair (Kd.int .i64) (Kd.pair Kd.bool Kd.string)) id) _ from opens_struct Tryd.underlying23 (by kernel_rfl) (fields_cons (opens_int Tryd.underlying3 (by kernel_rfl)) rfl (fields_cons (opens_bool Tryd.underlying4 (by kernel_rfl)) rfl (fields_one (opens_string Tryd.underlying9 (by kernel_rfl)) rfl))) id id (fun _ => rfl)).2 H enc W 0 (fun _ => true) true fuel0 _ _ e0'
  obtain ⟨y0_0, y0_1, y0_2⟩ := y0
  obtain ⟨x0_0, w0_0, q0_0, z0_0, ⟨x0_1, w0_1, q0_1, z0_1, z0_2⟩⟩ := K0
  replace z0_0 : x0_0 = [.int .i64 y0_0] := z0_0
  replace z0_1 : x0_1 = [.bool y0_1] := z0_1
  replace z0_2 : w0_1 = [.string y0_2] := z0_2
  obtain rfl : cs0 = #[.int .i64 y0_0, .bool y0_1, .string y0_2] := by
    apply Array.ext'
    rw [q0_0, q0_1]
    simp only [z0_0, z0_1, z0_2]
    rfl
  obtain ⟨g0_0, g0_1, g0_2⟩ := G0
  have k1 := h1
  have lt1 : ∀ x ∈ p1, x.block < W.heap.size := by obtain ⟨m, hm⟩ := k1; exact DataW.trod_lt m _ _ _ hm
  obtain ⟨fuel1, e1⟩ := h1
  obtain ⟨cs1, rfl⟩ := agg_of Tryd.underlying25 (hval 1 25 v1 rfl rfl)
  have e1' : DataW.trod enc Tryd.prog W 0 (fun _ => true) true fuel1 25 cs1.toList = some (d1, p1) := by simpa [Value.cells] using e1
  obtain ⟨y1, G1, K1⟩ := (show Opens Tryd.prog 25 (Kd.iso (Kd.pair (Kd.int .i64) (Kd.pair (Kd.int .i64) (Kd.pair (Kd.int .i64) (Kd.pair (Kd.int .i64) (Kd.pair (Kd.int .i64) (Kd.pair Kd.string Kd.string)))))) id) _ from opens_struct Tryd.underlying25 (by kernel_rfl) (fields_cons (opens_int Tryd.underlying3 (by kernel_rfl)) rfl (fields_cons (opens_int Tryd.underlying3 (by kernel_rfl)) rfl (fields_cons (opens_int Tryd.underlying3 (by kernel_rfl)) rfl (fields_cons (opens_int Tryd.underlying3 (by kernel_rfl)) rfl (fields_cons (opens_int Tryd.underlying3 (by kernel_rfl)) rfl (fields_cons (opens_string Tryd.underlying9 (by kernel_rfl)) rfl (fields_one (opens_string Tryd.underlying9 (by kernel_rfl)) rfl))))))) id id (fun _ => rfl)).2 H enc W 0 (fun _ => true) true fuel1 _ _ e1'
  obtain ⟨y1_0, y1_1, y1_2, y1_3, y1_4, y1_5, y1_6⟩ := y1
  obtain ⟨x1_0, w1_0, q1_0, z1_0, ⟨x1_1, w1_1, q1_1, z1_1, ⟨x1_2, w1_2, q1_2, z1_2, ⟨x1_3, w1_3, q1_3, z1_3, ⟨x1_4, w1_4, q1_4, z1_4, ⟨x1_5, w1_5, q1_5, z1_5, z1_6⟩⟩⟩⟩⟩⟩ := K1
  replace z1_0 : x1_0 = [.int .i64 y1_0] := z1_0
  replace z1_1 : x1_1 = [.int .i64 y1_1] := z1_1
  replace z1_2 : x1_2 = [.int .i64 y1_2] := z1_2
  replace z1_3 : x1_3 = [.int .i64 y1_3] := z1_3
  replace z1_4 : x1_4 = [.int .i64 y1_4] := z1_4
  replace z1_5 : x1_5 = [.string y1_5] := z1_5
  replace z1_6 : w1_5 = [.string y1_6] := z1_6
  obtain rfl : cs1 = #[.int .i64 y1_0, .int .i64 y1_1, .int .i64 y1_2, .int .i64 y1_3, .int .i64 y1_4, .string y1_5, .string y1_6] := by
    apply Array.ext'
    rw [q1_0, q1_1, q1_2, q1_3, q1_4, q1_5]
    simp only [z1_0, z1_1, z1_2, z1_3, z1_4, z1_5, z1_6]
    rfl
  obtain ⟨g1_0, g1_1, g1_2, g1_3, g1_4, g1_5, g1_6⟩ := G1
  obtain ⟨k, hk⟩ := Pure.FnExactHearsDown y0_0 y0_1 y0_2 y1_0 y1_1 y1_2 y1_3 y1_4 y1_5 y1_6 g0_0 g0_2 g1_0 g1_1 g1_2 g1_3 g1_4 g1_5 g1_6
  refine (Go.Proofs.YtbldbjfmibhffaaDoor.P.laws_FnExactHearsDown.calls k y0_0 y0_1 y0_2 y1_0 y1_1 y1_2 y1_3 y1_4 y1_5 y1_6 true W  hk).mono fun e W' hpost => ?_
  obtain ⟨he, bel0⟩ := hpost
  have bel : Below W.heap.size W W' := bel0
  subst he
  exact ⟨_, rfl, _, _, _, [], _, [], hW', trodAll_mk1 (shut_bool Tryd.underlying4 _), (trodAll_cons_mk (Below.trod laidOut (by kernel_rfl) (of_decide_eq_true (by kernel_rfl)) k0 bel lt0) (trodAll_cons_mk (Below.trod laidOut (by kernel_rfl) (of_decide_eq_true (by kernel_rfl)) k1 bel lt1) trodAll_mk0)), rfl, bel.frame _, fun h => by cases h⟩
theorem over : Rows.fnExactHearsDownRow.holds Tryd.pinned (OpenSpec.ofChange Rows.fnExactHearsDownSpec) :=
  OpenClaim.holds_of_wide 3 Tryd.f3 rfl rfl rfl rfl rfl rfl rfl ⟨rfl, rfl, rfl, rfl, rfl⟩ rfl rfl rfl rfl rfl (by kernel_rfl) Tryd.func3 (by kernel_rfl)
    (of_decide_eq_true (by kernel_rfl)) (by unfold Func.isWrapper; first | (rw [if_pos (by decide +kernel)]; kernel_rfl) | (rw [if_neg (by decide +kernel)]; exact ⟨rfl, rfl⟩))
    (fun os started H enc _ => lifted os started H enc)
theorem proved : Rows.FnExactHearsDownSaid := over
theorem card : Rows.FnExactHearsDownCardSaid :=
  Claim7.holds_tied_plain_at .later [] [.sentinel] true (true, "967716d183ede0579992dbe99159dca435614f6d94c598193e8400f16f9e6013") false
    proved (fun _ h => by cases h) (by kernel_rfl) (fun _ h => by cases h) fnExactHearsDown_row_tie rfl ⟨rfl, rfl⟩ (by kernel_rfl) rfl
    (fun f fn hf hfn => by
      obtain rfl : f = 3 := Option.some.inj ((show Tryd.prog.funcNamed "loop.example/skyway/laws.FnExactHearsDown" = some 3 by kernel_rfl).symm.trans hf) |>.symm
      obtain rfl : fn = Tryd.f3 := (Option.some.inj (Tryd.func3.symm.trans hfn)).symm
      exact ⟨by kernel_rfl, fun j t ht => by
        rw [Tryd.params3] at ht
        have h3 : t = 23 ∨ t = 25 := by
          rcases j with _ | j
          · simp at ht; subst ht; simp
          rcases j with _ | j
          · simp at ht; subst ht; simp
          · simp at ht
        rcases h3 with rfl | rfl
        · exact (show Tryd.prog.wantsStandIn 23 = false by kernel_rfl)
        · exact (show Tryd.prog.wantsStandIn 25 = false by kernel_rfl)⟩)
    (by kernel_rfl)
#print axioms card
end Go.Proofs.YtbldbjfmibhffaaDoor.fnExactHearsDown
namespace Go.Proofs.YtbldbjfmibhffaaDoor
/-- The row, under a short name, for the claim. -/
theorem fnExactHearsDown_holds : Rows.FnExactHearsDownCardSaid := fnExactHearsDown.card
end Go.Proofs.YtbldbjfmibhffaaDoor
