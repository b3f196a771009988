-- put together by trim.py (this session's program) out of the words that print.sh laid for this seat: those that the seat's texts need. Lean checks it.
import Derived.Test.YthkdhcaojhbfoaaVWN
namespace Go.Proofs.YthkdhcaojhbfoaaW.PrintWords
open Go.RowKit
namespace Kd
section
variable {α : Type} {d : Kd α} {e base n cap g : Nat} {ok ok' okp : Nat → Prop} {w w1 W : World} {v v1 : Value} {xs ys : List α}
end
section
variable {P : Program} {ops : Array Oper} {rest : List Oper} {o : Oper} {a : Act} {Q : Exit → Act → World → Prop} {Kc : Act → World → Prop} {α : Type}
end
end Kd
end Go.Proofs.YthkdhcaojhbfoaaW.PrintWords
