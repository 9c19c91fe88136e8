/- The statement FnExactPartSend: for every input the law answers true and leaves its arguments as they were. No condition beyond the given statement's own. -/
import Derived.Test.YtmhdphohhheoaaaRows
import Derived.Test.YtmhdphohhheoaaaQFnExactPartSend
import Derived.Test.YtmhdphohhheoaaaPureFnExactPartSend
import Derived.WalkKit
import Derived.ProofKit
import Derived.OpenShut
import Derived.ShutString
import Derived.ChangeOld
import Derived.Below
import Derived.SizedLaws
namespace Go.Proofs.Ytmhdphohhheoaaa.fnExactPartSend
open Go.ChangeShapes Go.WideShapes Go.ChangeAt Go.RowKit Go.Proofs.Ytmhdphohhheoaaa.Open Go.Proofs.Ytmhdphohhheoaaa.P Go.Proofs.YtmhdphohhheoaaaW.PrintWords Go.Proofs.YtmhdphohhheoaaaW.PrintLast
open Go.ChangeMaps (open_string shut_string)
set_option linter.unusedVariables false
theorem own : ownKnob Try.prog.godebug = none := by kernel_rfl
theorem laidOut : laidOutB Try.prog = true := by kernel_rfl
set_option maxRecDepth 100000 in
theorem lifted (os : Os) (started : os.Started) (H : Type) (enc : TypeId × Value → H) :
    ReturnsInHanded {} Try.checked os 8 .any (Rows.fnExactPartSendSpec.pre6 enc Try.prog Try.f8 Rows.fnExactPartSendRow.domain false) (Rows.fnExactPartSendSpec.post enc Try.prog Try.f8 false true false false) := by
  refine returnsInHanded_of_change_sized (C := Try.checked) own started (by kernel_rfl) Try.func8
    (ChangeSpec.witness6 (enc := enc) (C := Try.checked) false ⟨#[], #[.agg #[.slice none 0 0, .slice none 0 0, .int .i64 0, .bool false, .slice none 0 0], .int .i64 0], []⟩ 8 (by kernel_rfl) (by kernel_rfl) (by kernel_rfl) (by kernel_rfl)) ?_
  intro W base args ds gs before hval0 hW hcnd hsz0 _
  have hval : ∀ (j : Nat) t v, Try.f8.params[j]? = some t → args[j]? = some v → Value.okWide Try.prog W .any base t v := hval0
  have hW' := hW
  obtain ⟨p, q, hA0, hV, rfl, hfz, hnd⟩ := hW
  have hA : DataW.TrodAll enc Try.prog W 0 (fun _ => true) true Try.f8.params.toList args.toList ds p := hA0
  rw [Try.params8] at hA hval
  obtain ⟨v0, vs0, d0, ds0, p0, q0, hargs, rfl, rfl, h0, r0⟩ := trodAll_cons hA
  obtain ⟨v1, vs1, d1, ds1, p1, q1, rfl, rfl, rfl, h1, r1⟩ := trodAll_cons r0
  obtain ⟨rfl, rfl, rfl⟩ := trodAll_nil r1
  obtain rfl : args = #[v0, v1] := by cases args; simp_all
  obtain ⟨rfl, rfl⟩ := trodVars_none hV
  have k0 := h0
  have lt0 : ∀ x ∈ p0, x.block < W.heap.size := by obtain ⟨m, hm⟩ := k0; exact DataW.trod_lt m _ _ _ hm
  obtain ⟨fuel0, e0⟩ := h0
  obtain ⟨cs0, rfl⟩ := agg_of Try.underlying39 (hval 0 39 v0 rfl rfl)
  have e0' : DataW.trod enc Try.prog W 0 (fun _ => true) true fuel0 39 cs0.toList = some (d0, p0) := by simpa [Value.cells] using e0
  obtain ⟨y0, G0, K0⟩ := (show Opens Try.prog 39 (Kd.iso (Kd.pair (Kd.slice 56 k56) (Kd.pair (Kd.slice 3 (Kd.int .i64)) (Kd.pair (Kd.int .i64) (Kd.pair Kd.bool (Kd.slice 3 (Kd.int .i64)))))) id) _ from opens_struct Try.underlying39 (by kernel_rfl) (fields_cons (opens_slice Try.underlying22 (by kernel_rfl) (show Opens Try.prog 56 k56 _ from opens_struct Try.underlying56 (by kernel_rfl) (fields_cons (opens_int Try.underlying3 (by kernel_rfl)) rfl (fields_cons (opens_int Try.underlying3 (by kernel_rfl)) rfl (fields_one (opens_int Try.underlying3 (by kernel_rfl)) rfl))) (fun x : S56 => (x.f0, x.f1, x.f2)) (fun p => ⟨p.1, p.2.1, p.2.2⟩) (fun _ => rfl))) rfl (fields_cons (opens_slice Try.underlying31 (by kernel_rfl) (opens_int Try.underlying3 (by kernel_rfl))) rfl (fields_cons (opens_int Try.underlying3 (by kernel_rfl)) rfl (fields_cons (opens_bool Try.underlying4 (by kernel_rfl)) rfl (fields_one (opens_slice Try.underlying31 (by kernel_rfl) (opens_int Try.underlying3 (by kernel_rfl))) rfl))))) id id (fun _ => rfl)).2 H enc W 0 (fun _ => true) true fuel0 _ _ e0'
  obtain ⟨y0_0, y0_1, y0_2, y0_3, y0_4⟩ := y0
  obtain ⟨x0_0, w0_0, q0_0, ⟨A0_0, c0_0, z0_0, hc0_0, hr0_0⟩, ⟨x0_1, w0_1, q0_1, ⟨A0_1, c0_1, z0_1, hc0_1, hr0_1⟩, ⟨x0_2, w0_2, q0_2, z0_2, ⟨x0_3, w0_3, q0_3, z0_3, ⟨A0_4, c0_4, z0_4, hc0_4, hr0_4⟩⟩⟩⟩⟩ := K0
  replace z0_0 : x0_0 = [.slice A0_0 y0_0.length c0_0] := z0_0
  replace z0_1 : x0_1 = [.slice A0_1 y0_1.length c0_1] := z0_1
  replace z0_2 : x0_2 = [.int .i64 y0_2] := z0_2
  replace z0_3 : x0_3 = [.bool y0_3] := z0_3
  replace z0_4 : w0_3 = [.slice A0_4 y0_4.length c0_4] := z0_4
  obtain rfl : cs0 = #[.slice A0_0 y0_0.length c0_0, .slice A0_1 y0_1.length c0_1, .int .i64 y0_2, .bool y0_3, .slice A0_4 y0_4.length c0_4] := by
    apply Array.ext'
    rw [q0_0, q0_1, q0_2, q0_3]
    simp only [z0_0, z0_1, z0_2, z0_3, z0_4]
    rfl
  obtain ⟨g0_0, g0_1, g0_2, g0_3, g0_4⟩ := G0
  have k1 := h1
  have lt1 : ∀ x ∈ p1, x.block < W.heap.size := by obtain ⟨m, hm⟩ := k1; exact DataW.trod_lt m _ _ _ hm
  obtain ⟨fuel1, e1⟩ := h1
  obtain ⟨y1, rfl, rfl, rfl, G1⟩ := open_int Try.underlying3 (hval 1 3 v1 rfl rfl) k1
  have G1' : GInt y1 := gint_of_wf G1
  obtain ⟨k, hk⟩ := Pure.FnExactPartSend y0_0 y0_1 y0_2 y0_3 y0_4 y1 hr0_0.2.1 hr0_1.2.1 g0_1 g0_2 hr0_4.2.1 g0_4 G1'
  refine (Go.Proofs.Ytmhdphohhheoaaa.P.laws_FnExactPartSend.calls k _ _ y0_0 _ _ y0_1 y0_2 y0_3 _ _ y0_4 y1 true W hr0_0 hc0_0 hr0_1 hc0_1 hr0_4 hc0_4 hk).mono fun e W' hpost => ?_
  obtain ⟨he, bel0⟩ := hpost
  have bel : Below W.heap.size W W' := bel0
  subst he
  exact ⟨_, rfl, _, _, _, [], _, [], hW', trodAll_mk1 (shut_bool Try.underlying4 _), (trodAll_cons_mk (Below.trod laidOut (by kernel_rfl) (of_decide_eq_true (by kernel_rfl)) k0 bel lt0) (trodAll_cons_mk (shut_int Try.underlying3 G1) trodAll_mk0)), rfl, bel.frame _, fun h => by cases h⟩
theorem over : Rows.fnExactPartSendRow.holds Try.pinned (OpenSpec.ofChange Rows.fnExactPartSendSpec) :=
  OpenClaim.holds_of_wide 8 Try.f8 rfl rfl rfl rfl rfl rfl rfl ⟨rfl, rfl, rfl, rfl, rfl⟩ rfl rfl rfl rfl rfl (by kernel_rfl) Try.func8 (by kernel_rfl)
    (of_decide_eq_true (by kernel_rfl)) (by unfold Func.isWrapper; first | (rw [if_pos (by decide +kernel)]; kernel_rfl) | (rw [if_neg (by decide +kernel)]; exact ⟨rfl, rfl⟩))
    (fun os started H enc _ => lifted os started H enc)
theorem proved : Rows.FnExactPartSendSaid := over
#print axioms proved
end Go.Proofs.Ytmhdphohhheoaaa.fnExactPartSend
namespace Go.Proofs.Ytmhdphohhheoaaa
/-- The row, under a short name, for the claim. -/
theorem fnExactPartSend_holds : Rows.FnExactPartSendSaid := fnExactPartSend.proved
end Go.Proofs.Ytmhdphohhheoaaa
