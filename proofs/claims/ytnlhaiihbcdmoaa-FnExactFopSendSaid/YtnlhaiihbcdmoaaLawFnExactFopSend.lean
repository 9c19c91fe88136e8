/- The statement FnExactFopSend: for every input the law answers true and leaves its arguments as they were. No condition beyond the given statement's own. -/
import Derived.Test.YtnlhaiihbcdmoaaRows
import Derived.Test.YtnlhaiihbcdmoaaQFnExactFopSend
import Derived.Test.YtnlhaiihbcdmoaaPureFnExactFopSend
import Derived.WalkKit
import Derived.ProofKit
import Derived.OpenShut
import Derived.ShutString
import Derived.ChangeOld
import Derived.Below
import Derived.SizedLaws
namespace Go.Proofs.Ytnlhaiihbcdmoaa.fnExactFopSend
open Go.ChangeShapes Go.WideShapes Go.ChangeAt Go.RowKit Go.Proofs.Ytnlhaiihbcdmoaa.Open Go.Proofs.Ytnlhaiihbcdmoaa.P Go.Proofs.YtnlhaiihbcdmoaaW.PrintWords Go.Proofs.YtnlhaiihbcdmoaaW.PrintLast
open Go.ChangeMaps (open_string shut_string)
set_option linter.unusedVariables false
theorem own : ownKnob Try.prog.godebug = none := by kernel_rfl
theorem laidOut : laidOutB Try.prog = true := by kernel_rfl
set_option maxRecDepth 100000 in
theorem lifted (os : Os) (started : os.Started) (H : Type) (enc : TypeId × Value → H) :
    ReturnsInHanded {} Try.checked os 6 .any (Rows.fnExactFopSendSpec.pre6 enc Try.prog Try.f6 Rows.fnExactFopSendRow.domain false) (Rows.fnExactFopSendSpec.post enc Try.prog Try.f6 false true false false) := by
  refine returnsInHanded_of_change_sized (C := Try.checked) own started (by kernel_rfl) Try.func6
    (ChangeSpec.witness6 (enc := enc) (C := Try.checked) false ⟨#[], #[.agg #[.int .i64 0, .int .i64 0, .int .i64 0, .slice none 0 0, .bool false], .string ByteArray.empty], []⟩ 8 (by kernel_rfl) (by kernel_rfl) (by kernel_rfl) (by kernel_rfl)) ?_
  intro W base args ds gs before hval0 hW hcnd hsz0 _
  have hval : ∀ (j : Nat) t v, Try.f6.params[j]? = some t → args[j]? = some v → Value.okWide Try.prog W .any base t v := hval0
  have hW' := hW
  obtain ⟨p, q, hA0, hV, rfl, hfz, hnd⟩ := hW
  have hA : DataW.TrodAll enc Try.prog W 0 (fun _ => true) true Try.f6.params.toList args.toList ds p := hA0
  rw [Try.params6] at hA hval
  obtain ⟨v0, vs0, d0, ds0, p0, q0, hargs, rfl, rfl, h0, r0⟩ := trodAll_cons hA
  obtain ⟨v1, vs1, d1, ds1, p1, q1, rfl, rfl, rfl, h1, r1⟩ := trodAll_cons r0
  obtain ⟨rfl, rfl, rfl⟩ := trodAll_nil r1
  obtain rfl : args = #[v0, v1] := by cases args; simp_all
  obtain ⟨rfl, rfl⟩ := trodVars_none hV
  have k0 := h0
  have lt0 : ∀ x ∈ p0, x.block < W.heap.size := by obtain ⟨m, hm⟩ := k0; exact DataW.trod_lt m _ _ _ hm
  obtain ⟨fuel0, e0⟩ := h0
  obtain ⟨cs0, rfl⟩ := agg_of Try.underlying45 (hval 0 45 v0 rfl rfl)
  have e0' : DataW.trod enc Try.prog W 0 (fun _ => true) true fuel0 45 cs0.toList = some (d0, p0) := by simpa [Value.cells] using e0
  obtain ⟨y0, G0, K0⟩ := (show Opens Try.prog 45 (Kd.iso (Kd.pair (Kd.int .i64) (Kd.pair (Kd.int .i64) (Kd.pair (Kd.int .i64) (Kd.pair (Kd.slice 9 Kd.string) Kd.bool)))) id) _ from opens_struct Try.underlying45 (by kernel_rfl) (fields_cons (opens_int Try.underlying3 (by kernel_rfl)) rfl (fields_cons (opens_int Try.underlying3 (by kernel_rfl)) rfl (fields_cons (opens_int Try.underlying3 (by kernel_rfl)) rfl (fields_cons (opens_slice Try.underlying23 (by kernel_rfl) (opens_string Try.underlying9 (by kernel_rfl))) rfl (fields_one (opens_bool Try.underlying4 (by kernel_rfl)) rfl))))) id id (fun _ => rfl)).2 H enc W 0 (fun _ => true) true fuel0 _ _ e0'
  obtain ⟨y0_0, y0_1, y0_2, y0_3, y0_4⟩ := y0
  obtain ⟨x0_0, w0_0, q0_0, z0_0, ⟨x0_1, w0_1, q0_1, z0_1, ⟨x0_2, w0_2, q0_2, z0_2, ⟨x0_3, w0_3, q0_3, ⟨A0_3, c0_3, z0_3, hc0_3, hr0_3⟩, z0_4⟩⟩⟩⟩ := K0
  replace z0_0 : x0_0 = [.int .i64 y0_0] := z0_0
  replace z0_1 : x0_1 = [.int .i64 y0_1] := z0_1
  replace z0_2 : x0_2 = [.int .i64 y0_2] := z0_2
  replace z0_3 : x0_3 = [.slice A0_3 y0_3.length c0_3] := z0_3
  replace z0_4 : w0_3 = [.bool y0_4] := z0_4
  obtain rfl : cs0 = #[.int .i64 y0_0, .int .i64 y0_1, .int .i64 y0_2, .slice A0_3 y0_3.length c0_3, .bool y0_4] := by
    apply Array.ext'
    rw [q0_0, q0_1, q0_2, q0_3]
    simp only [z0_0, z0_1, z0_2, z0_3, z0_4]
    rfl
  obtain ⟨g0_0, g0_1, g0_2, g0_3, g0_4⟩ := G0
  have k1 := h1
  have lt1 : ∀ x ∈ p1, x.block < W.heap.size := by obtain ⟨m, hm⟩ := k1; exact DataW.trod_lt m _ _ _ hm
  obtain ⟨fuel1, e1⟩ := h1
  obtain ⟨y1, rfl, rfl, rfl, G1⟩ := open_string Try.underlying9 (hval 1 9 v1 rfl rfl) k1
  obtain ⟨k, hk⟩ := Pure.FnExactFopSend y0_0 y0_1 y0_2 y0_3 y0_4 y1 g0_0 g0_1 g0_2 hr0_3.2.1 g0_3 (gstr_of_le G1)
  refine (Go.Proofs.Ytnlhaiihbcdmoaa.P.laws_FnExactFopSend.calls k y0_0 y0_1 y0_2 _ _ y0_3 y0_4 y1 true W hr0_3 hc0_3 hk).mono fun e W' hpost => ?_
  obtain ⟨he, bel0⟩ := hpost
  have bel : Below W.heap.size W W' := bel0
  subst he
  exact ⟨_, rfl, _, _, _, [], _, [], hW', trodAll_mk1 (shut_bool Try.underlying4 _), (trodAll_cons_mk (Below.trod laidOut (by kernel_rfl) (of_decide_eq_true (by kernel_rfl)) k0 bel lt0) (trodAll_cons_mk (shut_string Try.underlying9 G1) trodAll_mk0)), rfl, bel.frame _, fun h => by cases h⟩
theorem over : Rows.fnExactFopSendRow.holds Try.pinned (OpenSpec.ofChange Rows.fnExactFopSendSpec) :=
  OpenClaim.holds_of_wide 6 Try.f6 rfl rfl rfl rfl rfl rfl rfl ⟨rfl, rfl, rfl, rfl, rfl⟩ rfl rfl rfl rfl rfl (by kernel_rfl) Try.func6 (by kernel_rfl)
    (of_decide_eq_true (by kernel_rfl)) (by unfold Func.isWrapper; first | (rw [if_pos (by decide +kernel)]; kernel_rfl) | (rw [if_neg (by decide +kernel)]; exact ⟨rfl, rfl⟩))
    (fun os started H enc _ => lifted os started H enc)
theorem proved : Rows.FnExactFopSendSaid := over
#print axioms proved
end Go.Proofs.Ytnlhaiihbcdmoaa.fnExactFopSend
namespace Go.Proofs.Ytnlhaiihbcdmoaa
/-- The row, under a short name, for the claim. -/
theorem fnExactFopSend_holds : Rows.FnExactFopSendSaid := fnExactFopSend.proved
end Go.Proofs.Ytnlhaiihbcdmoaa
