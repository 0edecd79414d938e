/- Words for contracts: what this claim uses of them. -/
import Derived.Test.YtemeapfnfegkiaaUWWords
section
namespace Go.Proofs.YtemeapfnfegkiaaW.PrintWords
open Go.RowKit
section
variable {P : Program} {ops : Array Oper} {rest : List Oper} {o : Oper} {a : Act} {Q : Exit → Act → World → Prop} {W : World}
end
end Go.Proofs.YtemeapfnfegkiaaW.PrintWords
end
