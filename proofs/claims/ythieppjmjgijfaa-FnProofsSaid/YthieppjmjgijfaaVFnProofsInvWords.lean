/- Words that the law FnProofs uses (turned from the printed words WInvWords). -/
import Derived.Test.YthieppjmjgijfaaVFnProofsInv
import Derived.Test.YthieppjmjgijfaaVFnProofsFootNe
namespace Go.Proofs.YthieppjmjgijfaaW.PrintWords
open Go.RowKit
end Go.Proofs.YthieppjmjgijfaaW.PrintWords
namespace Go.Proofs.YthieppjmjgijfaaW.PrintLast
section
variable {ops : Array Oper} {a : Act} {o og : Oper} {g : Nat} {t : Tmp} {u : Bool}
end
end Go.Proofs.YthieppjmjgijfaaW.PrintLast
