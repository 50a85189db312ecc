-- PRINTED BY print.sh 35421559b90ae4d0a3588c463048766b98c2df88dd9212a6774a882060cdf62d: not written by this session
import Derived.Test.YtldgjibimolcdaaDoorVLInv
import Derived.Test.YtldgjibimolcdaaDoorVLFootNe
namespace Go.Proofs.YtldgjibimolcdaaDoorW.PrintWords
open Go.RowKit
end Go.Proofs.YtldgjibimolcdaaDoorW.PrintWords
namespace Go.Proofs.YtldgjibimolcdaaDoorW.PrintLast
section
variable {ops : Array Oper} {a : Act} {o og : Oper} {g : Nat} {t : Tmp} {u : Bool}
end
end Go.Proofs.YtldgjibimolcdaaDoorW.PrintLast

