/- Words for contracts: what this claim uses of them. -/
import Derived.Test.YtgoidclnccjdeaaVWWords
import Derived.Laws.StructEq
section
namespace Go.Proofs.YtgoidclnccjdeaaW.PrintWords
open Go.RowKit
section
variable {P : Program} {d : Nat} {xs ys : Array Value} {f : Field} {fs : List Field} {a b : Value} {r s : Bool} {w : World}
end
end Go.Proofs.YtgoidclnccjdeaaW.PrintWords
end
