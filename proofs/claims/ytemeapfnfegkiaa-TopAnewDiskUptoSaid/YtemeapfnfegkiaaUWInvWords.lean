/- Words for contracts: what this claim uses of them. -/
import Derived.Test.YtemeapfnfegkiaaUWInv
import Derived.Test.YtemeapfnfegkiaaUWFootNe
section
namespace Go.Proofs.YtemeapfnfegkiaaW.PrintWords
open Go.RowKit
end Go.Proofs.YtemeapfnfegkiaaW.PrintWords
namespace Go.Proofs.YtemeapfnfegkiaaW.PrintLast
section
variable {ops : Array Oper} {a : Act} {o og : Oper} {g : Nat} {t : Tmp} {u : Bool}
end
end Go.Proofs.YtemeapfnfegkiaaW.PrintLast
end
