/- Words that the law FnExactMovePieces uses (turned from the printed words WNEv). -/
import Derived.Test.YtdgglhfnlljmeaaVFnExactMovePiecesN
namespace Go.Proofs.YtdgglhfnlljmeaaW.PrintWords
open Go.RowKit
namespace Kd
section
variable {α : Type} {d : Kd α} {e base n cap g : Nat} {ok ok' okp : Nat → Prop} {w w1 W : World} {v v1 : Value} {xs ys : List α}
end
section
variable {P : Program} {ops : Array Oper} {rest : List Oper} {o : Oper} {a : Act} {Q : Exit → Act → World → Prop} {Kc : Act → World → Prop} {α : Type}
end
end Kd
end Go.Proofs.YtdgglhfnlljmeaaW.PrintWords
