/- Words that the law FnExactMovePieces uses (turned from the printed words WFootNe). -/
import Derived.Test.YtdgglhfnlljmeaaVFnExactMovePiecesN
namespace Go.Proofs.YtdgglhfnlljmeaaW.PrintWords
open Go.RowKit
namespace Kd
section
variable {α : Type} {d : Kd α} {W : World} {g n : Nat} {S ok : Nat → Prop} {A : Option Addr} {ad : Addr} {xs : List α}
end
end Kd
end Go.Proofs.YtdgglhfnlljmeaaW.PrintWords
