import Derived.Test.YtmkdeknpphimbaaCVoWInv
import Derived.Test.YtmkdeknpphimbaaCVoWFootNe
namespace Go.Proofs.YtmkdeknpphimbaaW.PrintWords
open Go.RowKit
end Go.Proofs.YtmkdeknpphimbaaW.PrintWords
namespace Go.Proofs.YtmkdeknpphimbaaW.PrintLast
section
variable {ops : Array Oper} {a : Act} {o og : Oper} {g : Nat} {t : Tmp} {u : Bool}
end
end Go.Proofs.YtmkdeknpphimbaaW.PrintLast
