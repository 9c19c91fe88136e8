/-
  No cell of these rows narrows 'for every input' (looked for: loops, veiled, ifaces, maps, wideKeys, modest, calm, conditions, laid).
  DERIVED. THE GIVEN ROWS OF THIS SEAT. 6 by the template 'for every input the law returns true; each argument reads behind the call as it read before'; 0 by the template 'total and deterministic' (their statements: YtmhdphohhheoaaaTotals.lean).
  GIVEN WITH THE SEED: the statements are not yours to turn. If you find one false, say at which input.
  Laid BY PROGRAM, IN A SANDBOX (cutbox-rows.mjs): the forced cells as the released guide's own fill.sh prints them over the translation b4d2894c13456566… (all of the seat's roots in one cut). By AI agents, Wed Nov 11 2026. No macro, syntax, notation, axiom, sorry.
-/
import Derived.Test.YtmhdphohhheoaaaChecked
import GoSem.Claim
import GoSem.ClaimJoined
import GoSem.ClaimMapViews
import Derived.JoinedTies
import Derived.KernelRfl
namespace Go.Proofs.Ytmhdphohhheoaaa
/- THE CELL 'sum', in the pinned program and in every row, IS THE sha256 OF THE DUMP (.gsa) THAT YtmhdphohhheoaaaProg.lean LOADS. Nothing in Lean hashes anything: it is a label: what it is worth is what the hold of that sum in a sandbox is worth. -/
noncomputable def Try.pinned : Pinned := { name := "ytmhdphohhheoaaa", sum := "b4d2894c13456566c4b9a67834337841eefdd9de636d9f51b99e803a80bcddc1", checked := Try.checked }
namespace Rows
def none {H : Type} : Left H := { results := [], args := [] }

/-- 'laws.FnExactProgOk': WHATEVER THE INPUT: true; the input reads as it did. -/
def fnExactProgOkSpec : ChangeSpec := { name := "fnExactProgOk", fn := fun _ => fun
  | [d] => { results := [.lit (.bool true)], args := [d] }
  | _ => none }
def fnExactProgOkRow : OpenClaim := { program := "ytmhdphohhheoaaa", sum := "b4d2894c13456566c4b9a67834337841eefdd9de636d9f51b99e803a80bcddc1", func := "loop.example/skyway/laws.FnExactProgOk", spec := "fnExactProgOk", apart := false }
def FnExactProgOkSaid : Prop := fnExactProgOkRow.holds Try.pinned (OpenSpec.ofChange fnExactProgOkSpec)

/-- ITS FALSE NEIGHBOUR: 'it returns false'. Refute it at one input. -/
def fnExactProgOkWrong : ChangeSpec := { name := "fnExactProgOk", fn := fun _ => fun
  | [d] => { results := [.lit (.bool false)], args := [d] }
  | _ => none }
def FnExactProgOkWrongFalsely : Prop := fnExactProgOkRow.holds Try.pinned (OpenSpec.ofChange fnExactProgOkWrong)

/-- 'laws.FnPartNew': WHATEVER THE INPUT: true; the input reads as it did. -/
def fnPartNewSpec : ChangeSpec := { name := "fnPartNew", fn := fun _ => fun
  | [d] => { results := [.lit (.bool true)], args := [d] }
  | _ => none }
def fnPartNewRow : OpenClaim := { program := "ytmhdphohhheoaaa", sum := "b4d2894c13456566c4b9a67834337841eefdd9de636d9f51b99e803a80bcddc1", func := "loop.example/skyway/laws.FnPartNew", spec := "fnPartNew", apart := false }
def FnPartNewSaid : Prop := fnPartNewRow.holds Try.pinned (OpenSpec.ofChange fnPartNewSpec)

/-- ITS FALSE NEIGHBOUR: 'it returns false'. Refute it at one input. -/
def fnPartNewWrong : ChangeSpec := { name := "fnPartNew", fn := fun _ => fun
  | [d] => { results := [.lit (.bool false)], args := [d] }
  | _ => none }
def FnPartNewWrongFalsely : Prop := fnPartNewRow.holds Try.pinned (OpenSpec.ofChange fnPartNewWrong)

/-- 'laws.FnExactPartOk': WHATEVER THE INPUT: true; the input reads as it did. -/
def fnExactPartOkSpec : ChangeSpec := { name := "fnExactPartOk", fn := fun _ => fun
  | [d] => { results := [.lit (.bool true)], args := [d] }
  | _ => none }
def fnExactPartOkRow : OpenClaim := { program := "ytmhdphohhheoaaa", sum := "b4d2894c13456566c4b9a67834337841eefdd9de636d9f51b99e803a80bcddc1", func := "loop.example/skyway/laws.FnExactPartOk", spec := "fnExactPartOk", apart := false }
def FnExactPartOkSaid : Prop := fnExactPartOkRow.holds Try.pinned (OpenSpec.ofChange fnExactPartOkSpec)

/-- ITS FALSE NEIGHBOUR: 'it returns false'. Refute it at one input. -/
def fnExactPartOkWrong : ChangeSpec := { name := "fnExactPartOk", fn := fun _ => fun
  | [d] => { results := [.lit (.bool false)], args := [d] }
  | _ => none }
def FnExactPartOkWrongFalsely : Prop := fnExactPartOkRow.holds Try.pinned (OpenSpec.ofChange fnExactPartOkWrong)

/-- 'laws.FnExactPartNew': WHATEVER THE INPUT: true; the input reads as it did. -/
def fnExactPartNewSpec : ChangeSpec := { name := "fnExactPartNew", fn := fun _ => fun
  | [d] => { results := [.lit (.bool true)], args := [d] }
  | _ => none }
def fnExactPartNewRow : OpenClaim := { program := "ytmhdphohhheoaaa", sum := "b4d2894c13456566c4b9a67834337841eefdd9de636d9f51b99e803a80bcddc1", func := "loop.example/skyway/laws.FnExactPartNew", spec := "fnExactPartNew", apart := false }
def FnExactPartNewSaid : Prop := fnExactPartNewRow.holds Try.pinned (OpenSpec.ofChange fnExactPartNewSpec)

/-- ITS FALSE NEIGHBOUR: 'it returns false'. Refute it at one input. -/
def fnExactPartNewWrong : ChangeSpec := { name := "fnExactPartNew", fn := fun _ => fun
  | [d] => { results := [.lit (.bool false)], args := [d] }
  | _ => none }
def FnExactPartNewWrongFalsely : Prop := fnExactPartNewRow.holds Try.pinned (OpenSpec.ofChange fnExactPartNewWrong)

/-- 'laws.FnPartSend': WHATEVER THE INPUT: true; the input reads as it did. -/
def fnPartSendSpec : ChangeSpec := { name := "fnPartSend", fn := fun _ => fun
  | [d] => { results := [.lit (.bool true)], args := [d] }
  | _ => none }
def fnPartSendRow : OpenClaim := { program := "ytmhdphohhheoaaa", sum := "b4d2894c13456566c4b9a67834337841eefdd9de636d9f51b99e803a80bcddc1", func := "loop.example/skyway/laws.FnPartSend", spec := "fnPartSend", apart := false }
def FnPartSendSaid : Prop := fnPartSendRow.holds Try.pinned (OpenSpec.ofChange fnPartSendSpec)

/-- ITS FALSE NEIGHBOUR: 'it returns false'. Refute it at one input. -/
def fnPartSendWrong : ChangeSpec := { name := "fnPartSend", fn := fun _ => fun
  | [d] => { results := [.lit (.bool false)], args := [d] }
  | _ => none }
def FnPartSendWrongFalsely : Prop := fnPartSendRow.holds Try.pinned (OpenSpec.ofChange fnPartSendWrong)

/-- 'laws.FnExactPartSend': WHATEVER THE INPUT: true; the input reads as it did. -/
def fnExactPartSendSpec : ChangeSpec := { name := "fnExactPartSend", fn := fun _ => fun
  | [d1, d2] => { results := [.lit (.bool true)], args := [d1, d2] }
  | _ => none }
def fnExactPartSendRow : OpenClaim := { program := "ytmhdphohhheoaaa", sum := "b4d2894c13456566c4b9a67834337841eefdd9de636d9f51b99e803a80bcddc1", func := "loop.example/skyway/laws.FnExactPartSend", spec := "fnExactPartSend", apart := false }
def FnExactPartSendSaid : Prop := fnExactPartSendRow.holds Try.pinned (OpenSpec.ofChange fnExactPartSendSpec)

/-- ITS FALSE NEIGHBOUR: 'it returns false'. Refute it at one input. -/
def fnExactPartSendWrong : ChangeSpec := { name := "fnExactPartSend", fn := fun _ => fun
  | [d1, d2] => { results := [.lit (.bool false)], args := [d1, d2] }
  | _ => none }
def FnExactPartSendWrongFalsely : Prop := fnExactPartSendRow.holds Try.pinned (OpenSpec.ofChange fnExactPartSendWrong)

/- THE SECOND FORM. 'bulk': how many values and letters a reading holds, each counted each time it is reached (what is shared counts as often as it is met; a slice's spare places count too). A statement '..UptoSaid' is the law's where the arguments, and the package variables that the reading takes, are together of bulk at most 1048576: NARROWER than '..Said'. Prove '..Said' where nothing that the law and all that it calls make is longer than what came in: it says more and counts as full. Else prove '..UptoSaid'. A law counts once. -/
mutual
def uptoBulk {H : Type} : DataW H → Nat
  | .lit (.string bytes) => bytes.length + 1
  | .lit _ => 1
  | .nil => 1
  | .ptr d => uptoBulk d + 1
  | .slice elems spare => uptoBulkAll elems + uptoBulkAll spare + 1
  | .agg parts => uptoBulkAll parts + 1
  | .iface _ d => uptoBulk d + 1
  | .map entries => uptoBulkEntries entries + 1
  | .held _ => 1
def uptoBulkAll {H : Type} : List (DataW H) → Nat
  | [] => 0
  | d :: r => uptoBulk d + uptoBulkAll r
def uptoBulkEntries {H : Type} : List (Lit × DataW H) → Nat
  | [] => 0
  | x :: r => uptoBulkEntry x + uptoBulkEntries r
def uptoBulkEntry {H : Type} : Lit × DataW H → Nat
  | (.string bytes, d) => bytes.length + uptoBulk d + 1
  | (_, d) => uptoBulk d + 1
 end
def uptoSmall : (H : Type) → List (DataW H) → Bool := fun _ ds => decide (uptoBulkAll ds ≤ 1048576)
def OpenSpec.upto (s : _root_.Go.ChangeSpec) : _root_.Go.OpenSpec := { _root_.Go.OpenSpec.ofChange s with cond := some uptoSmall }

/-- 'laws.FnExactProgOk', WHERE WHAT IT READS IS OF BULK AT MOST 1048576: true; the input reads as it did. -/
def fnExactProgOkUptoRow : OpenClaim := { program := "ytmhdphohhheoaaa", sum := "b4d2894c13456566c4b9a67834337841eefdd9de636d9f51b99e803a80bcddc1", func := "loop.example/skyway/laws.FnExactProgOk", spec := "fnExactProgOk", apart := false, narrowed := true }
def FnExactProgOkUptoSaid : Prop := fnExactProgOkUptoRow.holds Try.pinned (OpenSpec.upto fnExactProgOkSpec)

/-- 'laws.FnPartNew', WHERE WHAT IT READS IS OF BULK AT MOST 1048576: true; the input reads as it did. -/
def fnPartNewUptoRow : OpenClaim := { program := "ytmhdphohhheoaaa", sum := "b4d2894c13456566c4b9a67834337841eefdd9de636d9f51b99e803a80bcddc1", func := "loop.example/skyway/laws.FnPartNew", spec := "fnPartNew", apart := false, narrowed := true }
def FnPartNewUptoSaid : Prop := fnPartNewUptoRow.holds Try.pinned (OpenSpec.upto fnPartNewSpec)

/-- 'laws.FnExactPartOk', WHERE WHAT IT READS IS OF BULK AT MOST 1048576: true; the input reads as it did. -/
def fnExactPartOkUptoRow : OpenClaim := { program := "ytmhdphohhheoaaa", sum := "b4d2894c13456566c4b9a67834337841eefdd9de636d9f51b99e803a80bcddc1", func := "loop.example/skyway/laws.FnExactPartOk", spec := "fnExactPartOk", apart := false, narrowed := true }
def FnExactPartOkUptoSaid : Prop := fnExactPartOkUptoRow.holds Try.pinned (OpenSpec.upto fnExactPartOkSpec)

/-- 'laws.FnExactPartNew', WHERE WHAT IT READS IS OF BULK AT MOST 1048576: true; the input reads as it did. -/
def fnExactPartNewUptoRow : OpenClaim := { program := "ytmhdphohhheoaaa", sum := "b4d2894c13456566c4b9a67834337841eefdd9de636d9f51b99e803a80bcddc1", func := "loop.example/skyway/laws.FnExactPartNew", spec := "fnExactPartNew", apart := false, narrowed := true }
def FnExactPartNewUptoSaid : Prop := fnExactPartNewUptoRow.holds Try.pinned (OpenSpec.upto fnExactPartNewSpec)

/-- 'laws.FnPartSend', WHERE WHAT IT READS IS OF BULK AT MOST 1048576: true; the input reads as it did. -/
def fnPartSendUptoRow : OpenClaim := { program := "ytmhdphohhheoaaa", sum := "b4d2894c13456566c4b9a67834337841eefdd9de636d9f51b99e803a80bcddc1", func := "loop.example/skyway/laws.FnPartSend", spec := "fnPartSend", apart := false, narrowed := true }
def FnPartSendUptoSaid : Prop := fnPartSendUptoRow.holds Try.pinned (OpenSpec.upto fnPartSendSpec)

/-- 'laws.FnExactPartSend', WHERE WHAT IT READS IS OF BULK AT MOST 1048576: true; the input reads as it did. -/
def fnExactPartSendUptoRow : OpenClaim := { program := "ytmhdphohhheoaaa", sum := "b4d2894c13456566c4b9a67834337841eefdd9de636d9f51b99e803a80bcddc1", func := "loop.example/skyway/laws.FnExactPartSend", spec := "fnExactPartSend", apart := false, narrowed := true }
def FnExactPartSendUptoSaid : Prop := fnExactPartSendUptoRow.holds Try.pinned (OpenSpec.upto fnExactPartSendSpec)

end Rows
end Go.Proofs.Ytmhdphohhheoaaa
