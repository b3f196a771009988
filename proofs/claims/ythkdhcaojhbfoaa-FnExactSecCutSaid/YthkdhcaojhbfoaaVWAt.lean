-- put together by trim.py (this session's program) out of the words that print.sh laid for this seat: those that the seat's texts need. Lean checks it.
import Derived.Test.YthkdhcaojhbfoaaVWFootNe
namespace Go.Proofs.YthkdhcaojhbfoaaW.PrintWords
open Go.RowKit
section
variable {w w' u : World} {m B g : Nat} {o : Obj} {row : Option Nat} {S : Nat → Prop} {a : Addr} {v : Value}
end
namespace Kd
section
variable {α : Type} {d : Kd α} {e base n m : Nat} {ok : Nat → Prop} {w w' : World} {v : Value} {A : Option Addr} {xs : List α}
end
end Kd
end Go.Proofs.YthkdhcaojhbfoaaW.PrintWords
