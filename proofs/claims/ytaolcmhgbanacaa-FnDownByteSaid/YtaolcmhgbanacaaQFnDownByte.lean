/- What is left of FnDownByte behind the machine: one statement about numbers and lists. -/
import Derived.Test.YtaolcmhgbanacaaPx9
import Derived.Test.YtaolcmhgbanacaaOpen
namespace Go.Proofs.Ytaolcmhgbanacaa.QFnDownByte
open Go.RowKit Go.Proofs.Ytaolcmhgbanacaa.P Go.Proofs.Ytaolcmhgbanacaa.Open Go.Proofs.YtaolcmhgbanacaaW.PrintWords Go.Proofs.YtaolcmhgbanacaaW.PrintLast
def Pure : Prop := ∀ (l0 : List Int) (l1 : List Int), l0.length ≤ 9223372036854775807 → GList GU8 l0 → l1.length ≤ 9223372036854775807 → GList GU8 l1 → ∃ k, laws_FnDownByte.f k l0 l1 = some true
end Go.Proofs.Ytaolcmhgbanacaa.QFnDownByte
