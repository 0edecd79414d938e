/- Words for contracts: what this claim uses of them. -/
import Derived.Test.YtgoidclnccjdeaaVWTab
section
namespace Go.Proofs.YtgoidclnccjdeaaW.PrintLast
section
variable {P : Program} {ops : Array Oper} {Q : Exit → Act → World → Prop} {md : Region.Mode} {S : World → Prop} {ds : List Nat} {T : Bool × List (List Nat × List Nat)}
end
end Go.Proofs.YtgoidclnccjdeaaW.PrintLast
end
