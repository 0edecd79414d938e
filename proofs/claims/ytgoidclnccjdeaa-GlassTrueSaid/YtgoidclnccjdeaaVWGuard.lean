/- Words for contracts: what this claim uses of them. -/
import Derived.Test.YtgoidclnccjdeaaVWWords
section
namespace Go.Proofs.YtgoidclnccjdeaaW.PrintWords
open Go.RowKit
section
variable {P : Program} {ops : Array Oper} {rest : List Oper} {o : Oper} {a : Act} {Q : Exit → Act → World → Prop} {W : World}
end
end Go.Proofs.YtgoidclnccjdeaaW.PrintWords
end
