/- Words that the law FnStops uses (turned from the printed words WFootNe). -/
import Derived.Test.YtddejaomlnldiaaVFnStopsN
namespace Go.Proofs.YtddejaomlnldiaaW.PrintWords
open Go.RowKit
namespace Kd
section
variable {α : Type} {d : Kd α} {W : World} {g n : Nat} {S ok : Nat → Prop} {A : Option Addr} {ad : Addr} {xs : List α}
end
end Kd
end Go.Proofs.YtddejaomlnldiaaW.PrintWords
