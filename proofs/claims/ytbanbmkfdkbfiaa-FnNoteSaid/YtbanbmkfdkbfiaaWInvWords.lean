-- PRINTED BY print.sh 35421559b90ae4d0a3588c463048766b98c2df88dd9212a6774a882060cdf62d: not written by this session
import Derived.Test.YtbanbmkfdkbfiaaWInv
import Derived.Test.YtbanbmkfdkbfiaaWFootNe
namespace Go.Proofs.YtbanbmkfdkbfiaaW.PrintWords
open Go.RowKit
end Go.Proofs.YtbanbmkfdkbfiaaW.PrintWords
namespace Go.Proofs.YtbanbmkfdkbfiaaW.PrintLast
section
variable {ops : Array Oper} {a : Act} {o og : Oper} {g : Nat} {t : Tmp} {u : Bool}
end
end Go.Proofs.YtbanbmkfdkbfiaaW.PrintLast
