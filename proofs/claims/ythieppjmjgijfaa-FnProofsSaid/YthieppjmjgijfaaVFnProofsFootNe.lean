/- Words that the law FnProofs uses (turned from the printed words WFootNe). -/
import Derived.Test.YthieppjmjgijfaaVFnProofsN
namespace Go.Proofs.YthieppjmjgijfaaW.PrintWords
open Go.RowKit
namespace Kd
section
variable {α : Type} {d : Kd α} {W : World} {g n : Nat} {S ok : Nat → Prop} {A : Option Addr} {ad : Addr} {xs : List α}
end
end Kd
end Go.Proofs.YthieppjmjgijfaaW.PrintWords
