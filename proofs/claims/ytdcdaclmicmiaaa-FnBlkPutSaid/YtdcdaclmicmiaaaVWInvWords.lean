-- put together by trim.py (this session's program) out of the words that print.sh laid for this seat: those that the seat's texts need. Lean checks it.
import Derived.Test.YtdcdaclmicmiaaaVWInv
import Derived.Test.YtdcdaclmicmiaaaVWFootNe
namespace Go.Proofs.YtdcdaclmicmiaaaW.PrintWords
open Go.RowKit
end Go.Proofs.YtdcdaclmicmiaaaW.PrintWords
namespace Go.Proofs.YtdcdaclmicmiaaaW.PrintLast
section
variable {ops : Array Oper} {a : Act} {o og : Oper} {g : Nat} {t : Tmp} {u : Bool}
end
end Go.Proofs.YtdcdaclmicmiaaaW.PrintLast
