/- Words for contracts: what this claim uses of them. -/
import Derived.Test.YtgoidclnccjdeaaVWInv
import Derived.Test.YtgoidclnccjdeaaVWFootNe
section
namespace Go.Proofs.YtgoidclnccjdeaaW.PrintWords
open Go.RowKit
end Go.Proofs.YtgoidclnccjdeaaW.PrintWords
namespace Go.Proofs.YtgoidclnccjdeaaW.PrintLast
section
variable {ops : Array Oper} {a : Act} {o og : Oper} {g : Nat} {t : Tmp} {u : Bool}
end
end Go.Proofs.YtgoidclnccjdeaaW.PrintLast
end
