-- put together by trim.py (this session's program) out of the words that print.sh laid for this seat: those that the seat's texts need. Lean checks it.
import Derived.Test.YthkdhcaojhbfoaaVWWords
namespace Go.Proofs.YthkdhcaojhbfoaaW.PrintWords
open Go.RowKit
namespace Kd
section
variable {α : Type} {n : Nat} {d : Kd α} {hs : 0 < d.sz} {w : World} {base : Nat} {ok : Nat → Prop} {xs : List α} {cs : List Value}
end
section
variable {α : Type} {n : Nat} {enc : α → Value} {h1 : ∀ x, (enc x).oneCell' = true} {hs : 0 < (scalar enc h1).sz} {w : World} {base : Nat} {ok : Nat → Prop} {xs : List α} {cs : List Value}
end
end Kd
end Go.Proofs.YthkdhcaojhbfoaaW.PrintWords
