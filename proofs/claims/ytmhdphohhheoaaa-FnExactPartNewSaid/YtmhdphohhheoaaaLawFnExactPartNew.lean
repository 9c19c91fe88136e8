/- The statement FnExactPartNew: for every input the law answers true and leaves its arguments as they were. No condition beyond the given statement's own. -/
import Derived.Test.YtmhdphohhheoaaaRows
import Derived.Test.YtmhdphohhheoaaaQFnExactPartNew
import Derived.Test.YtmhdphohhheoaaaPureFnExactPartNew
import Derived.WalkKit
import Derived.ProofKit
import Derived.OpenShut
import Derived.ShutString
import Derived.ChangeOld
import Derived.Below
import Derived.SizedLaws
namespace Go.Proofs.Ytmhdphohhheoaaa.fnExactPartNew
open Go.ChangeShapes Go.WideShapes Go.ChangeAt Go.RowKit Go.Proofs.Ytmhdphohhheoaaa.Open Go.Proofs.Ytmhdphohhheoaaa.P Go.Proofs.YtmhdphohhheoaaaW.PrintWords Go.Proofs.YtmhdphohhheoaaaW.PrintLast
open Go.ChangeMaps (open_string shut_string)
set_option linter.unusedVariables false
theorem own : ownKnob Try.prog.godebug = none := by kernel_rfl
theorem laidOut : laidOutB Try.prog = true := by kernel_rfl
set_option maxRecDepth 100000 in
theorem lifted (os : Os) (started : os.Started) (H : Type) (enc : TypeId × Value → H) :
    ReturnsInHanded {} Try.checked os 6 .any (Rows.fnExactPartNewSpec.pre6 enc Try.prog Try.f6 Rows.fnExactPartNewRow.domain false) (Rows.fnExactPartNewSpec.post enc Try.prog Try.f6 false true false false) := by
  refine returnsInHanded_of_change_sized (C := Try.checked) own started (by kernel_rfl) Try.func6
    (ChangeSpec.witness6 (enc := enc) (C := Try.checked) false ⟨#[], #[.slice none 0 0], []⟩ 8 (by kernel_rfl) (by kernel_rfl) (by kernel_rfl) (by kernel_rfl)) ?_
  intro W base args ds gs before hval0 hW hcnd hsz0 _
  have hval : ∀ (j : Nat) t v, Try.f6.params[j]? = some t → args[j]? = some v → Value.okWide Try.prog W .any base t v := hval0
  have hW' := hW
  obtain ⟨p, q, hA0, hV, rfl, hfz, hnd⟩ := hW
  have hA : DataW.TrodAll enc Try.prog W 0 (fun _ => true) true Try.f6.params.toList args.toList ds p := hA0
  rw [Try.params6] at hA hval
  obtain ⟨v0, vs0, d0, ds0, p0, q0, hargs, rfl, rfl, h0, r0⟩ := trodAll_cons hA
  obtain ⟨rfl, rfl, rfl⟩ := trodAll_nil r0
  obtain rfl : args = #[v0] := by cases args; simp_all
  obtain ⟨rfl, rfl⟩ := trodVars_none hV
  have k0 := h0
  have lt0 : ∀ x ∈ p0, x.block < W.heap.size := by obtain ⟨m, hm⟩ := k0; exact DataW.trod_lt m _ _ _ hm
  obtain ⟨fuel0, e0⟩ := h0
  obtain ⟨a0, len0, cap0, rfl⟩ := okWide_slice Try.underlying22 (hval 0 22 v0 rfl rfl)
  obtain ⟨y0, G0, A0, c0, z0, hc0, hr0⟩ := (opens_slice Try.underlying22 (by kernel_rfl) (show Opens Try.prog 56 k56 _ from opens_struct Try.underlying56 (by kernel_rfl) (fields_cons (opens_int Try.underlying3 (by kernel_rfl)) rfl (fields_cons (opens_int Try.underlying3 (by kernel_rfl)) rfl (fields_one (opens_int Try.underlying3 (by kernel_rfl)) rfl))) (fun x : S56 => (x.f0, x.f1, x.f2)) (fun p => ⟨p.1, p.2.1, p.2.2⟩) (fun _ => rfl))).2 H enc W 0 (fun _ => true) true fuel0 _ _ e0
  simp only [Value.cells, List.cons.injEq, Value.slice.injEq, and_true] at z0
  obtain ⟨rfl, rfl, rfl⟩ := z0
  obtain ⟨k, hk⟩ := Pure.FnExactPartNew y0 hr0.2.1
  refine (Go.Proofs.Ytmhdphohhheoaaa.P.laws_FnExactPartNew.calls k _ _ y0 true W hr0 hc0 hk).mono fun e W' hpost => ?_
  obtain ⟨he, bel0⟩ := hpost
  have bel : Below W.heap.size W W' := bel0
  subst he
  exact ⟨_, rfl, _, _, _, [], _, [], hW', trodAll_mk1 (shut_bool Try.underlying4 _), (trodAll_cons_mk (Below.trod laidOut (by kernel_rfl) (of_decide_eq_true (by kernel_rfl)) k0 bel lt0) trodAll_mk0), rfl, bel.frame _, fun h => by cases h⟩
theorem over : Rows.fnExactPartNewRow.holds Try.pinned (OpenSpec.ofChange Rows.fnExactPartNewSpec) :=
  OpenClaim.holds_of_wide 6 Try.f6 rfl rfl rfl rfl rfl rfl rfl ⟨rfl, rfl, rfl, rfl, rfl⟩ rfl rfl rfl rfl rfl (by kernel_rfl) Try.func6 (by kernel_rfl)
    (of_decide_eq_true (by kernel_rfl)) (by unfold Func.isWrapper; first | (rw [if_pos (by decide +kernel)]; kernel_rfl) | (rw [if_neg (by decide +kernel)]; exact ⟨rfl, rfl⟩))
    (fun os started H enc _ => lifted os started H enc)
theorem proved : Rows.FnExactPartNewSaid := over
#print axioms proved
end Go.Proofs.Ytmhdphohhheoaaa.fnExactPartNew
namespace Go.Proofs.Ytmhdphohhheoaaa
/-- The row, under a short name, for the claim. -/
theorem fnExactPartNew_holds : Rows.FnExactPartNewSaid := fnExactPartNew.proved
end Go.Proofs.Ytmhdphohhheoaaa
