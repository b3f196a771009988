-- put together by trim.py (this session's program) out of the words that print.sh laid for this seat: those that the seat's texts need. Lean checks it.
import Derived.Test.YthkdhcaojhbfoaaVWInv
import Derived.Test.YthkdhcaojhbfoaaVWFootNe
namespace Go.Proofs.YthkdhcaojhbfoaaW.PrintWords
open Go.RowKit
end Go.Proofs.YthkdhcaojhbfoaaW.PrintWords
namespace Go.Proofs.YthkdhcaojhbfoaaW.PrintLast
section
variable {ops : Array Oper} {a : Act} {o og : Oper} {g : Nat} {t : Tmp} {u : Bool}
end
end Go.Proofs.YthkdhcaojhbfoaaW.PrintLast
