/- The card of the statement FnExactQueuePut: for every input the law answers true and leaves its arguments as they were; io.EOF begins as the program's text lays it, and that is tied to the text. No other condition. -/
import Derived.Test.YtokpagopokkjfaaDoorRows
import Derived.Test.YtokpagopokkjfaaDoorQFnExactQueuePut
import Derived.Test.YtokpagopokkjfaaDoorPureFnExactQueuePut
import Derived.Test.YtokpagopokkjfaaDoorCards
import Derived.Test.YtokpagopokkjfaaDoorTie
import Derived.SevenTiedAt
import Derived.Handed
import Derived.ChangeVars
import Derived.JoinedOf
import Derived.LaidLaws
import Derived.WalkKit
import Derived.ProofKit
import Derived.OpenShut
import Derived.ShutString
import Derived.ChangeOld
import Derived.Below
import Derived.SizedLaws
namespace Go.Proofs.YtokpagopokkjfaaDoor.fnExactQueuePut
open Go.ChangeShapes Go.WideShapes Go.ChangeAt Go.RowKit Go.Proofs.YtokpagopokkjfaaDoor.Open Go.Proofs.YtokpagopokkjfaaDoor.P Go.Proofs.YtokpagopokkjfaaDoorW.PrintWords Go.Proofs.YtokpagopokkjfaaDoorW.PrintLast
open Go.ChangeMaps (open_string shut_string)
set_option linter.unusedVariables false
theorem own : ownKnob Tryd.prog.godebug = none := by kernel_rfl
theorem laidOut : laidOutB Tryd.prog = true := by kernel_rfl
noncomputable def low : Nat := (World.holding Tryd.prog default ⟨#[], #[], []⟩).heap.size
/-- A world that meets the row's premise: the settled one, the variable's cell laid. -/
noncomputable def laidWorld (os : Os) : World :=
  let w0 := World.holding Tryd.prog os ⟨#[.cells #[.string ⟨#[69, 79, 70]⟩] 155], #[], []⟩
  { w0 with heap := (w0.heap.modify 0 fun
      | .cells _ t frozen => .cells #[.iface 140 (.pointer (some ⟨low, 0, none⟩))] t frozen
      | o => o) }
theorem laidWorld_met (os : Os) (args : Array Value) : laidMet Tryd.prog [("io.EOF", Rows.laid_io_EOF)] ((laidWorld os).forCall (fun _ _ => 0) ⟨#[], args, []⟩).memory :=
  laidMet_of_run (ps := [.cell 0 0, .cell low 0]) 8 (by kernel_rfl) (by kernel_rfl) (by kernel_rfl)
set_option maxRecDepth 100000 in
theorem lifted (os : Os) (started : os.Started) (H : Type) (enc : TypeId × Value → H) :
    ReturnsInHanded {} Tryd.checked os 4 .any (fun w args => (Rows.fnExactQueuePutSpec.pre enc Tryd.prog Tryd.f4 Rows.fnExactQueuePutRow.domain false w args ∧ laidMet Tryd.prog [("io.EOF", Rows.laid_io_EOF)] w) ∧ sizedMet enc Tryd.prog Tryd.f4 (OpenSpec.ofChange Rows.fnExactQueuePutSpec) false w args) (Rows.fnExactQueuePutSpec.post enc Tryd.prog Tryd.f4 false true false false) := by
  refine returnsInHanded_of_change_and (C := Tryd.checked) (X := fun w _ => laidMet Tryd.prog [("io.EOF", Rows.laid_io_EOF)] w) (fun _ _ _ hh h => h.of_heap hh) own started (by kernel_rfl) Tryd.func4
    (ChangeSpec.witness_at (enc := enc) (C := Tryd.checked) (os := os) (X := fun w _ => laidMet Tryd.prog [("io.EOF", Rows.laid_io_EOF)] w) false (laidWorld os) #[.agg #[.slice none 0 0, .int .i64 0], .string ByteArray.empty] 8 rfl (by kernel_rfl) (by kernel_rfl) (by kernel_rfl) (by kernel_rfl) (by kernel_rfl) (laidWorld_met os _)) ?_
  intro W base args ds gs before hval0 hW hcnd hsz0 _ _
  have hval : ∀ (j : Nat) t v, Tryd.f4.params[j]? = some t → args[j]? = some v → Value.okWide Tryd.prog W .any base t v := hval0
  have hW' := hW
  obtain ⟨p, q, hA0, hV, rfl, hfz, hnd⟩ := hW
  have hA : DataW.TrodAll enc Tryd.prog W 0 (fun _ => true) true Tryd.f4.params.toList args.toList ds p := hA0
  rw [Tryd.params4] at hA hval
  obtain ⟨v0, vs0, d0, ds0, p0, q0, hargs, rfl, rfl, h0, r0⟩ := trodAll_cons hA
  obtain ⟨v1, vs1, d1, ds1, p1, q1, rfl, rfl, rfl, h1, r1⟩ := trodAll_cons r0
  obtain ⟨rfl, rfl, rfl⟩ := trodAll_nil r1
  obtain rfl : args = #[v0, v1] := by cases args; simp_all
  obtain ⟨rfl, rfl⟩ := trodVars_none hV
  have k0 := h0
  have lt0 : ∀ x ∈ p0, x.block < W.heap.size := by obtain ⟨m, hm⟩ := k0; exact DataW.trod_lt m _ _ _ hm
  obtain ⟨fuel0, e0⟩ := h0
  obtain ⟨cs0, rfl⟩ := agg_of Tryd.underlying24 (hval 0 24 v0 rfl rfl)
  have e0' : DataW.trod enc Tryd.prog W 0 (fun _ => true) true fuel0 24 cs0.toList = some (d0, p0) := by simpa [Value.cells] using e0
  obtain ⟨y0, G0, K0⟩ := (show Opens Tryd.prog 24 (Kd.iso (Kd.pair (Kd.slice 9 Kd.string) (Kd.int .i64)) id) _ from opens_struct Tryd.underlying24 (by kernel_rfl) (fields_cons (opens_slice Tryd.underlying22 (by kernel_rfl) (opens_string Tryd.underlying9 (by kernel_rfl))) rfl (fields_one (opens_int Tryd.underlying3 (by kernel_rfl)) rfl)) id id (fun _ => rfl)).2 H enc W 0 (fun _ => true) true fuel0 _ _ e0'
  obtain ⟨y0_0, y0_1⟩ := y0
  obtain ⟨x0_0, w0_0, q0_0, ⟨A0_0, c0_0, z0_0, hc0_0, hr0_0⟩, z0_1⟩ := K0
  replace z0_0 : x0_0 = [.slice A0_0 y0_0.length c0_0] := z0_0
  replace z0_1 : w0_0 = [.int .i64 y0_1] := z0_1
  obtain rfl : cs0 = #[.slice A0_0 y0_0.length c0_0, .int .i64 y0_1] := by
    apply Array.ext'
    rw [q0_0]
    simp only [z0_0, z0_1]
    rfl
  obtain ⟨g0_0, g0_1⟩ := G0
  have k1 := h1
  have lt1 : ∀ x ∈ p1, x.block < W.heap.size := by obtain ⟨m, hm⟩ := k1; exact DataW.trod_lt m _ _ _ hm
  obtain ⟨fuel1, e1⟩ := h1
  obtain ⟨y1, rfl, rfl, rfl, G1⟩ := open_string Tryd.underlying9 (hval 1 9 v1 rfl rfl) k1
  obtain ⟨k, hk⟩ := Pure.FnExactQueuePut y0_0 y0_1 y1 hr0_0.2.1 g0_0 g0_1 (gstr_of_le G1)
  refine (Go.Proofs.YtokpagopokkjfaaDoor.P.laws_FnExactQueuePut.calls k _ _ y0_0 y0_1 y1 true W hr0_0 hc0_0 hk).mono fun e W' hpost => ?_
  obtain ⟨he, bel0⟩ := hpost
  have bel : Below W.heap.size W W' := bel0
  subst he
  exact ⟨_, rfl, _, _, _, [], _, [], hW', trodAll_mk1 (shut_bool Tryd.underlying4 _), (trodAll_cons_mk (Below.trod laidOut (by kernel_rfl) (of_decide_eq_true (by kernel_rfl)) k0 bel lt0) (trodAll_cons_mk (shut_string Tryd.underlying9 G1) trodAll_mk0)), rfl, bel.frame _, fun h => by cases h⟩
theorem over : Rows.fnExactQueuePutRow.holds Tryd.pinned (OpenSpec.ofChange Rows.fnExactQueuePutSpec) :=
  OpenClaim.holds_of_wide 4 Tryd.f4 rfl rfl rfl rfl rfl rfl rfl ⟨rfl, rfl, rfl, rfl, rfl⟩ rfl rfl rfl rfl rfl (by kernel_rfl) Tryd.func4 (by kernel_rfl)
    (of_decide_eq_true (by kernel_rfl)) (by unfold Func.isWrapper; first | (rw [if_pos (by decide +kernel)]; kernel_rfl) | (rw [if_neg (by decide +kernel)]; exact ⟨rfl, rfl⟩))
    (fun os started H enc _ => lifted os started H enc)
theorem proved : Rows.FnExactQueuePutSaid := over
theorem card : Rows.FnExactQueuePutCardSaid :=
  Claim7.holds_tied_plain_at .later [] [.sentinel] true (true, "3e8b0574fe5db15549d8aea0a85f8702fd1afed0771e933f51f11ea3c55ce86c") false
    proved (fun _ h => by cases h) (by kernel_rfl) (fun _ h => by cases h) fnExactQueuePut_row_tie rfl ⟨rfl, rfl⟩ (by kernel_rfl) rfl
    (fun f fn hf hfn => by
      obtain rfl : f = 4 := Option.some.inj ((show Tryd.prog.funcNamed "loop.example/skyway/laws.FnExactQueuePut" = some 4 by kernel_rfl).symm.trans hf) |>.symm
      obtain rfl : fn = Tryd.f4 := (Option.some.inj (Tryd.func4.symm.trans hfn)).symm
      exact ⟨by kernel_rfl, fun j t ht => by
        rw [Tryd.params4] at ht
        have h3 : t = 24 ∨ t = 9 := by
          rcases j with _ | j
          · simp at ht; subst ht; simp
          rcases j with _ | j
          · simp at ht; subst ht; simp
          · simp at ht
        rcases h3 with rfl | rfl
        · exact (show Tryd.prog.wantsStandIn 24 = false by kernel_rfl)
        · exact (show Tryd.prog.wantsStandIn 9 = false by kernel_rfl)⟩)
    (by kernel_rfl)
#print axioms card
end Go.Proofs.YtokpagopokkjfaaDoor.fnExactQueuePut
namespace Go.Proofs.YtokpagopokkjfaaDoor
/-- The row, under a short name, for the claim. -/
theorem fnExactQueuePut_holds : Rows.FnExactQueuePutCardSaid := fnExactQueuePut.card
end Go.Proofs.YtokpagopokkjfaaDoor
