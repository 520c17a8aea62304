/- Words that the law FnExactShortestInputs uses (turned from the printed words WSized). -/
import Derived.SizedLaws
import Derived.ChangeSlices
namespace Go.Proofs.YthieppjmjgijfaaW.PrintWords
open Go.ChangeShapes Go.WideShapes
end Go.Proofs.YthieppjmjgijfaaW.PrintWords
