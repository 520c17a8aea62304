/- Words that the law FnProofs uses (turned from the printed words WFour). -/
import Derived.Test.YthieppjmjgijfaaVFnProofsTab
namespace Go.Proofs.YthieppjmjgijfaaW.PrintLast
section
variable {P : Program} {ops : Array Oper} {Q : Exit → Act → World → Prop} {md : Region.Mode} {S : World → Prop} {ds : List Nat} {T : Bool × List (List Nat × List Nat)}
end
end Go.Proofs.YthieppjmjgijfaaW.PrintLast
