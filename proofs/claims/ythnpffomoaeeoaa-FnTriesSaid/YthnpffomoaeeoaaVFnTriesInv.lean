/- Words that the law FnTries uses (turned from the printed words WInv). -/
import Derived.Test.YthnpffomoaeeoaaVFnTriesTab
namespace Go.Proofs.YthnpffomoaeeoaaW.PrintLast
section
variable {P : Program} {ops : Array Oper} {Q : Exit → Act → World → Prop} {md : Region.Mode} {T : Bool × List (List Nat × List Nat)} {B : List Nat} {O : List Nat} {b : Nat → Bool} {i j n : Nat}
end
end Go.Proofs.YthnpffomoaeeoaaW.PrintLast
