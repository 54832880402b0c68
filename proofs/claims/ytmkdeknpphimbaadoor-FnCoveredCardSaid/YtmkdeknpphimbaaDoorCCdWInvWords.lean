import Derived.Test.YtmkdeknpphimbaaDoorCCdWInv
import Derived.Test.YtmkdeknpphimbaaDoorCCdWFootNe
namespace Go.Proofs.YtmkdeknpphimbaaDoorW.PrintWords
open Go.RowKit
end Go.Proofs.YtmkdeknpphimbaaDoorW.PrintWords
namespace Go.Proofs.YtmkdeknpphimbaaDoorW.PrintLast
section
variable {ops : Array Oper} {a : Act} {o og : Oper} {g : Nat} {t : Tmp} {u : Bool}
end
end Go.Proofs.YtmkdeknpphimbaaDoorW.PrintLast
