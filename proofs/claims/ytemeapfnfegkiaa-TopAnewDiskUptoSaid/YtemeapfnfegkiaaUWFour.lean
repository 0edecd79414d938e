/- Words for contracts: what this claim uses of them. -/
import Derived.Test.YtemeapfnfegkiaaUWTab
section
namespace Go.Proofs.YtemeapfnfegkiaaW.PrintLast
section
variable {P : Program} {ops : Array Oper} {Q : Exit → Act → World → Prop} {md : Region.Mode} {S : World → Prop} {ds : List Nat} {T : Bool × List (List Nat × List Nat)}
end
end Go.Proofs.YtemeapfnfegkiaaW.PrintLast
end
