/- Words for contracts: what this claim uses of them. -/
import Derived.Test.YtgoidclnccjdeaaVWLast
import Derived.Test.YtgoidclnccjdeaaVWWords
section
namespace Go.Proofs.YtgoidclnccjdeaaW.PrintLast
open Go.Proofs.YtgoidclnccjdeaaW.PrintWords (Aside0)
section
variable {md : Region.Mode} {ops : Array Oper} {T : Bool × List (List Nat × List Nat)} {l l' li lj lk : Array Bool} {ds : List Nat} {i j k : Nat}
end
end Go.Proofs.YtgoidclnccjdeaaW.PrintLast
end
