-- PRINTED BY print.sh 35421559b90ae4d0a3588c463048766b98c2df88dd9212a6774a882060cdf62d: not written by this session
import Derived.Test.YtjmjebbjfjgbeaaWInv
import Derived.Test.YtjmjebbjfjgbeaaWFootNe
namespace Go.Proofs.YtjmjebbjfjgbeaaW.PrintWords
open Go.RowKit
end Go.Proofs.YtjmjebbjfjgbeaaW.PrintWords
namespace Go.Proofs.YtjmjebbjfjgbeaaW.PrintLast
section
variable {ops : Array Oper} {a : Act} {o og : Oper} {g : Nat} {t : Tmp} {u : Bool}
end
end Go.Proofs.YtjmjebbjfjgbeaaW.PrintLast
