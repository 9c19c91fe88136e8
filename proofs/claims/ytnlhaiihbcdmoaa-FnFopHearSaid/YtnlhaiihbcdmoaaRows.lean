/-
  No cell of these rows narrows 'for every input' (looked for: loops, veiled, ifaces, maps, wideKeys, modest, calm, conditions, laid).
  DERIVED. THE GIVEN ROWS OF THIS SEAT. 4 by the template 'for every input the law returns true; each argument reads behind the call as it read before'; 0 by the template 'total and deterministic' (their statements: YtnlhaiihbcdmoaaTotals.lean).
  GIVEN WITH THE SEED: the statements are not yours to turn. If you find one false, say at which input.
  Laid BY PROGRAM, IN A SANDBOX (cutbox-rows.mjs): the forced cells as the released guide's own fill.sh prints them over the translation 1a45e307a4786bff… (all of the seat's roots in one cut). By AI agents, Wed Nov 11 2026. No macro, syntax, notation, axiom, sorry.
-/
import Derived.Test.YtnlhaiihbcdmoaaChecked
import GoSem.Claim
import GoSem.ClaimJoined
import GoSem.ClaimMapViews
import Derived.JoinedTies
import Derived.KernelRfl
namespace Go.Proofs.Ytnlhaiihbcdmoaa
/- THE CELL 'sum', in the pinned program and in every row, IS THE sha256 OF THE DUMP (.gsa) THAT YtnlhaiihbcdmoaaProg.lean LOADS. Nothing in Lean hashes anything: it is a label: what it is worth is what the hold of that sum in a sandbox is worth. -/
noncomputable def Try.pinned : Pinned := { name := "ytnlhaiihbcdmoaa", sum := "1a45e307a4786bffd3b42a923656bc967e8d0c6adc0733a048ecaabac36d3466", checked := Try.checked }
namespace Rows
def none {H : Type} : Left H := { results := [], args := [] }

/-- 'laws.FnFopSend': WHATEVER THE INPUT: true; the input reads as it did. -/
def fnFopSendSpec : ChangeSpec := { name := "fnFopSend", fn := fun _ => fun
  | [d] => { results := [.lit (.bool true)], args := [d] }
  | _ => none }
def fnFopSendRow : OpenClaim := { program := "ytnlhaiihbcdmoaa", sum := "1a45e307a4786bffd3b42a923656bc967e8d0c6adc0733a048ecaabac36d3466", func := "loop.example/skyway/laws.FnFopSend", spec := "fnFopSend", apart := false }
def FnFopSendSaid : Prop := fnFopSendRow.holds Try.pinned (OpenSpec.ofChange fnFopSendSpec)

/-- ITS FALSE NEIGHBOUR: 'it returns false'. Refute it at one input. -/
def fnFopSendWrong : ChangeSpec := { name := "fnFopSend", fn := fun _ => fun
  | [d] => { results := [.lit (.bool false)], args := [d] }
  | _ => none }
def FnFopSendWrongFalsely : Prop := fnFopSendRow.holds Try.pinned (OpenSpec.ofChange fnFopSendWrong)

/-- 'laws.FnFopHear': WHATEVER THE INPUT: true; the input reads as it did. -/
def fnFopHearSpec : ChangeSpec := { name := "fnFopHear", fn := fun _ => fun
  | [d] => { results := [.lit (.bool true)], args := [d] }
  | _ => none }
def fnFopHearRow : OpenClaim := { program := "ytnlhaiihbcdmoaa", sum := "1a45e307a4786bffd3b42a923656bc967e8d0c6adc0733a048ecaabac36d3466", func := "loop.example/skyway/laws.FnFopHear", spec := "fnFopHear", apart := false }
def FnFopHearSaid : Prop := fnFopHearRow.holds Try.pinned (OpenSpec.ofChange fnFopHearSpec)

/-- ITS FALSE NEIGHBOUR: 'it returns false'. Refute it at one input. -/
def fnFopHearWrong : ChangeSpec := { name := "fnFopHear", fn := fun _ => fun
  | [d] => { results := [.lit (.bool false)], args := [d] }
  | _ => none }
def FnFopHearWrongFalsely : Prop := fnFopHearRow.holds Try.pinned (OpenSpec.ofChange fnFopHearWrong)

/-- 'laws.FnExactFopHear': WHATEVER THE INPUT: true; the input reads as it did. -/
def fnExactFopHearSpec : ChangeSpec := { name := "fnExactFopHear", fn := fun _ => fun
  | [d1, d2] => { results := [.lit (.bool true)], args := [d1, d2] }
  | _ => none }
def fnExactFopHearRow : OpenClaim := { program := "ytnlhaiihbcdmoaa", sum := "1a45e307a4786bffd3b42a923656bc967e8d0c6adc0733a048ecaabac36d3466", func := "loop.example/skyway/laws.FnExactFopHear", spec := "fnExactFopHear", apart := false }
def FnExactFopHearSaid : Prop := fnExactFopHearRow.holds Try.pinned (OpenSpec.ofChange fnExactFopHearSpec)

/-- ITS FALSE NEIGHBOUR: 'it returns false'. Refute it at one input. -/
def fnExactFopHearWrong : ChangeSpec := { name := "fnExactFopHear", fn := fun _ => fun
  | [d1, d2] => { results := [.lit (.bool false)], args := [d1, d2] }
  | _ => none }
def FnExactFopHearWrongFalsely : Prop := fnExactFopHearRow.holds Try.pinned (OpenSpec.ofChange fnExactFopHearWrong)

/-- 'laws.FnExactFopSend': WHATEVER THE INPUT: true; the input reads as it did. -/
def fnExactFopSendSpec : ChangeSpec := { name := "fnExactFopSend", fn := fun _ => fun
  | [d1, d2] => { results := [.lit (.bool true)], args := [d1, d2] }
  | _ => none }
def fnExactFopSendRow : OpenClaim := { program := "ytnlhaiihbcdmoaa", sum := "1a45e307a4786bffd3b42a923656bc967e8d0c6adc0733a048ecaabac36d3466", func := "loop.example/skyway/laws.FnExactFopSend", spec := "fnExactFopSend", apart := false }
def FnExactFopSendSaid : Prop := fnExactFopSendRow.holds Try.pinned (OpenSpec.ofChange fnExactFopSendSpec)

/-- ITS FALSE NEIGHBOUR: 'it returns false'. Refute it at one input. -/
def fnExactFopSendWrong : ChangeSpec := { name := "fnExactFopSend", fn := fun _ => fun
  | [d1, d2] => { results := [.lit (.bool false)], args := [d1, d2] }
  | _ => none }
def FnExactFopSendWrongFalsely : Prop := fnExactFopSendRow.holds Try.pinned (OpenSpec.ofChange fnExactFopSendWrong)

/- THE SECOND FORM. 'bulk': how many values and letters a reading holds, each counted each time it is reached (what is shared counts as often as it is met; a slice's spare places count too). A statement '..UptoSaid' is the law's where the arguments, and the package variables that the reading takes, are together of bulk at most 1048576: NARROWER than '..Said'. Prove '..Said' where nothing that the law and all that it calls make is longer than what came in: it says more and counts as full. Else prove '..UptoSaid'. A law counts once. -/
mutual
def uptoBulk {H : Type} : DataW H → Nat
  | .lit (.string bytes) => bytes.length + 1
  | .lit _ => 1
  | .nil => 1
  | .ptr d => uptoBulk d + 1
  | .slice elems spare => uptoBulkAll elems + uptoBulkAll spare + 1
  | .agg parts => uptoBulkAll parts + 1
  | .iface _ d => uptoBulk d + 1
  | .map entries => uptoBulkEntries entries + 1
  | .held _ => 1
def uptoBulkAll {H : Type} : List (DataW H) → Nat
  | [] => 0
  | d :: r => uptoBulk d + uptoBulkAll r
def uptoBulkEntries {H : Type} : List (Lit × DataW H) → Nat
  | [] => 0
  | x :: r => uptoBulkEntry x + uptoBulkEntries r
def uptoBulkEntry {H : Type} : Lit × DataW H → Nat
  | (.string bytes, d) => bytes.length + uptoBulk d + 1
  | (_, d) => uptoBulk d + 1
 end
def uptoSmall : (H : Type) → List (DataW H) → Bool := fun _ ds => decide (uptoBulkAll ds ≤ 1048576)
def OpenSpec.upto (s : _root_.Go.ChangeSpec) : _root_.Go.OpenSpec := { _root_.Go.OpenSpec.ofChange s with cond := some uptoSmall }

/-- 'laws.FnFopSend', WHERE WHAT IT READS IS OF BULK AT MOST 1048576: true; the input reads as it did. -/
def fnFopSendUptoRow : OpenClaim := { program := "ytnlhaiihbcdmoaa", sum := "1a45e307a4786bffd3b42a923656bc967e8d0c6adc0733a048ecaabac36d3466", func := "loop.example/skyway/laws.FnFopSend", spec := "fnFopSend", apart := false, narrowed := true }
def FnFopSendUptoSaid : Prop := fnFopSendUptoRow.holds Try.pinned (OpenSpec.upto fnFopSendSpec)

/-- 'laws.FnFopHear', WHERE WHAT IT READS IS OF BULK AT MOST 1048576: true; the input reads as it did. -/
def fnFopHearUptoRow : OpenClaim := { program := "ytnlhaiihbcdmoaa", sum := "1a45e307a4786bffd3b42a923656bc967e8d0c6adc0733a048ecaabac36d3466", func := "loop.example/skyway/laws.FnFopHear", spec := "fnFopHear", apart := false, narrowed := true }
def FnFopHearUptoSaid : Prop := fnFopHearUptoRow.holds Try.pinned (OpenSpec.upto fnFopHearSpec)

/-- 'laws.FnExactFopHear', WHERE WHAT IT READS IS OF BULK AT MOST 1048576: true; the input reads as it did. -/
def fnExactFopHearUptoRow : OpenClaim := { program := "ytnlhaiihbcdmoaa", sum := "1a45e307a4786bffd3b42a923656bc967e8d0c6adc0733a048ecaabac36d3466", func := "loop.example/skyway/laws.FnExactFopHear", spec := "fnExactFopHear", apart := false, narrowed := true }
def FnExactFopHearUptoSaid : Prop := fnExactFopHearUptoRow.holds Try.pinned (OpenSpec.upto fnExactFopHearSpec)

/-- 'laws.FnExactFopSend', WHERE WHAT IT READS IS OF BULK AT MOST 1048576: true; the input reads as it did. -/
def fnExactFopSendUptoRow : OpenClaim := { program := "ytnlhaiihbcdmoaa", sum := "1a45e307a4786bffd3b42a923656bc967e8d0c6adc0733a048ecaabac36d3466", func := "loop.example/skyway/laws.FnExactFopSend", spec := "fnExactFopSend", apart := false, narrowed := true }
def FnExactFopSendUptoSaid : Prop := fnExactFopSendUptoRow.holds Try.pinned (OpenSpec.upto fnExactFopSendSpec)

end Rows
end Go.Proofs.Ytnlhaiihbcdmoaa
