/- The card of the statement FnCmdByte: for every input the law answers true and leaves its arguments as they were; io.EOF begins as the program's text lays it, and that is tied to the text. No other condition. -/
import Derived.Test.YtpehnincnpnggaaDoorRows
import Derived.Test.YtpehnincnpnggaaDoorQFnCmdByte
import Derived.Test.YtpehnincnpnggaaDoorPureFnCmdByte
import Derived.Test.YtpehnincnpnggaaDoorCards
import Derived.Test.YtpehnincnpnggaaDoorTie
import Derived.SevenTiedAt
import Derived.Handed
import Derived.ChangeVars
import Derived.JoinedOf
import Derived.LaidLaws
import Derived.WalkKit
import Derived.ProofKit
import Derived.OpenShut
import Derived.ShutString
import Derived.ChangeOld
import Derived.Below
import Derived.SizedLaws
namespace Go.Proofs.YtpehnincnpnggaaDoor.fnCmdByte
open Go.ChangeShapes Go.WideShapes Go.ChangeAt Go.RowKit Go.Proofs.YtpehnincnpnggaaDoor.Open Go.Proofs.YtpehnincnpnggaaDoor.P Go.Proofs.YtpehnincnpnggaaDoorW.PrintWords Go.Proofs.YtpehnincnpnggaaDoorW.PrintLast
open Go.ChangeMaps (open_string shut_string)
set_option linter.unusedVariables false
theorem own : ownKnob Tryd.prog.godebug = none := by kernel_rfl
theorem laidOut : laidOutB Tryd.prog = true := by kernel_rfl
noncomputable def low : Nat := (World.holding Tryd.prog default ⟨#[], #[], []⟩).heap.size
/-- A world that meets the row's premise: the settled one, the variable's cell laid. -/
noncomputable def laidWorld (os : Os) : World :=
  let w0 := World.holding Tryd.prog os ⟨#[.cells #[.string ⟨#[69, 79, 70]⟩] 101], #[], []⟩
  { w0 with heap := (w0.heap.modify 0 fun
      | .cells _ t frozen => .cells #[.iface 84 (.pointer (some ⟨low, 0, none⟩))] t frozen
      | o => o) }
theorem laidWorld_met (os : Os) (args : Array Value) : laidMet Tryd.prog [("io.EOF", Rows.laid_io_EOF)] ((laidWorld os).forCall (fun _ _ => 0) ⟨#[], args, []⟩).memory :=
  laidMet_of_run (ps := [.cell 0 0, .cell low 0]) 8 (by kernel_rfl) (by kernel_rfl) (by kernel_rfl)
set_option maxRecDepth 100000 in
theorem lifted (os : Os) (started : os.Started) (H : Type) (enc : TypeId × Value → H) :
    ReturnsInHanded {} Tryd.checked os 3 .any (fun w args => (Rows.fnCmdByteSpec.pre enc Tryd.prog Tryd.f3 Rows.fnCmdByteRow.domain false w args ∧ laidMet Tryd.prog [("io.EOF", Rows.laid_io_EOF)] w) ∧ sizedMet enc Tryd.prog Tryd.f3 (OpenSpec.ofChange Rows.fnCmdByteSpec) false w args) (Rows.fnCmdByteSpec.post enc Tryd.prog Tryd.f3 false true false false) := by
  refine returnsInHanded_of_change_and (C := Tryd.checked) (X := fun w _ => laidMet Tryd.prog [("io.EOF", Rows.laid_io_EOF)] w) (fun _ _ _ hh h => h.of_heap hh) own started (by kernel_rfl) Tryd.func3
    (ChangeSpec.witness_at (enc := enc) (C := Tryd.checked) (os := os) (X := fun w _ => laidMet Tryd.prog [("io.EOF", Rows.laid_io_EOF)] w) false (laidWorld os) #[.slice none 0 0, .slice none 0 0] 8 rfl (by kernel_rfl) (by kernel_rfl) (by kernel_rfl) (by kernel_rfl) (by kernel_rfl) (laidWorld_met os _)) ?_
  intro W base args ds gs before hval0 hW hcnd hsz0 _ _
  have hval : ∀ (j : Nat) t v, Tryd.f3.params[j]? = some t → args[j]? = some v → Value.okWide Tryd.prog W .any base t v := hval0
  have hW' := hW
  obtain ⟨p, q, hA0, hV, rfl, hfz, hnd⟩ := hW
  have hA : DataW.TrodAll enc Tryd.prog W 0 (fun _ => true) true Tryd.f3.params.toList args.toList ds p := hA0
  rw [Tryd.params3] at hA hval
  obtain ⟨v0, vs0, d0, ds0, p0, q0, hargs, rfl, rfl, h0, r0⟩ := trodAll_cons hA
  obtain ⟨v1, vs1, d1, ds1, p1, q1, rfl, rfl, rfl, h1, r1⟩ := trodAll_cons r0
  obtain ⟨rfl, rfl, rfl⟩ := trodAll_nil r1
  obtain rfl : args = #[v0, v1] := by cases args; simp_all
  obtain ⟨rfl, rfl⟩ := trodVars_none hV
  have k0 := h0
  have lt0 : ∀ x ∈ p0, x.block < W.heap.size := by obtain ⟨m, hm⟩ := k0; exact DataW.trod_lt m _ _ _ hm
  obtain ⟨fuel0, e0⟩ := h0
  obtain ⟨a0, len0, cap0, rfl⟩ := okWide_slice Tryd.underlying22 (hval 0 22 v0 rfl rfl)
  obtain ⟨y0, G0, A0, c0, z0, hc0, hr0⟩ := (opens_slice Tryd.underlying22 (by kernel_rfl) (opens_u8 Tryd.underlying5 (by kernel_rfl))).2 H enc W 0 (fun _ => true) true fuel0 _ _ e0
  simp only [Value.cells, List.cons.injEq, Value.slice.injEq, and_true] at z0
  obtain ⟨rfl, rfl, rfl⟩ := z0
  have k1 := h1
  have lt1 : ∀ x ∈ p1, x.block < W.heap.size := by obtain ⟨m, hm⟩ := k1; exact DataW.trod_lt m _ _ _ hm
  obtain ⟨fuel1, e1⟩ := h1
  obtain ⟨a1, len1, cap1, rfl⟩ := okWide_slice Tryd.underlying22 (hval 1 22 v1 rfl rfl)
  obtain ⟨y1, G1, A1, c1, z1, hc1, hr1⟩ := (opens_slice Tryd.underlying22 (by kernel_rfl) (opens_u8 Tryd.underlying5 (by kernel_rfl))).2 H enc W 0 (fun _ => true) true fuel1 _ _ e1
  simp only [Value.cells, List.cons.injEq, Value.slice.injEq, and_true] at z1
  obtain ⟨rfl, rfl, rfl⟩ := z1
  obtain ⟨k, hk⟩ := Pure.FnCmdByte y0 y1 hr0.2.1 G0 hr1.2.1 G1
  refine (Go.Proofs.YtpehnincnpnggaaDoor.P.laws_FnCmdByte.calls k _ _ y0 _ _ y1 true W hr0 hc0 hr1 hc1 hk).mono fun e W' hpost => ?_
  obtain ⟨he, bel0⟩ := hpost
  have bel : Below W.heap.size W W' := bel0
  subst he
  exact ⟨_, rfl, _, _, _, [], _, [], hW', trodAll_mk1 (shut_bool Tryd.underlying4 _), (trodAll_cons_mk (Below.trod laidOut (by kernel_rfl) (of_decide_eq_true (by kernel_rfl)) k0 bel lt0) (trodAll_cons_mk (Below.trod laidOut (by kernel_rfl) (of_decide_eq_true (by kernel_rfl)) k1 bel lt1) trodAll_mk0)), rfl, bel.frame _, fun h => by cases h⟩
theorem over : Rows.fnCmdByteRow.holds Tryd.pinned (OpenSpec.ofChange Rows.fnCmdByteSpec) :=
  OpenClaim.holds_of_wide 3 Tryd.f3 rfl rfl rfl rfl rfl rfl rfl ⟨rfl, rfl, rfl, rfl, rfl⟩ rfl rfl rfl rfl rfl (by kernel_rfl) Tryd.func3 (by kernel_rfl)
    (of_decide_eq_true (by kernel_rfl)) (by unfold Func.isWrapper; first | (rw [if_pos (by decide +kernel)]; kernel_rfl) | (rw [if_neg (by decide +kernel)]; exact ⟨rfl, rfl⟩))
    (fun os started H enc _ => lifted os started H enc)
theorem proved : Rows.FnCmdByteSaid := over
theorem card : Rows.FnCmdByteCardSaid :=
  Claim7.holds_tied_plain_at .later [] [.sentinel] true (true, "83974a92cb05dd2f549781d8682e54f5ec079c651e064049089120c26ef529d7") false
    proved (fun _ h => by cases h) (by kernel_rfl) (fun _ h => by cases h) fnCmdByte_row_tie rfl ⟨rfl, rfl⟩ (by kernel_rfl) rfl
    (fun f fn hf hfn => by
      obtain rfl : f = 3 := Option.some.inj ((show Tryd.prog.funcNamed "loop.example/skyway/laws.FnCmdByte" = some 3 by kernel_rfl).symm.trans hf) |>.symm
      obtain rfl : fn = Tryd.f3 := (Option.some.inj (Tryd.func3.symm.trans hfn)).symm
      exact ⟨by kernel_rfl, fun j t ht => by
        rw [Tryd.params3] at ht
        have h3 : t = 22 ∨ t = 22 := by
          rcases j with _ | j
          · simp at ht; subst ht; simp
          rcases j with _ | j
          · simp at ht; subst ht; simp
          · simp at ht
        rcases h3 with rfl | rfl
        · exact (show Tryd.prog.wantsStandIn 22 = false by kernel_rfl)
        · exact (show Tryd.prog.wantsStandIn 22 = false by kernel_rfl)⟩)
    (by kernel_rfl)
#print axioms card
end Go.Proofs.YtpehnincnpnggaaDoor.fnCmdByte
namespace Go.Proofs.YtpehnincnpnggaaDoor
/-- The row, under a short name, for the claim. -/
theorem fnCmdByte_holds : Rows.FnCmdByteCardSaid := fnCmdByte.card
end Go.Proofs.YtpehnincnpnggaaDoor
