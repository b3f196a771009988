/-
  Marked texts are held.
  Conditions: sizes far below Go's bounds.
-/
import Derived.Test.YthjocaegapchaaaXExSec0
import Derived.Test.YthjocaegapchaaaPx20
namespace Go.Proofs.YthjocaegapchaaaX
open Go.RowKit Go.Proofs.Ythjocaegapchaaa.P Go.Proofs.YthjocaegapchaaaW.PrintWords Go.Proofs.YthjocaegapchaaaW.PrintLast Go.Proofs.YthjocaegapchaaaW.PrintMore
set_option linter.unusedVariables false
set_option linter.unusedSimpArgs false

theorem heldTx_loop (a : Int) (ha : 0 ≤ a) (y : List ByteArray) (hb : a + (y.length : Int) ≤ 4611686018427387904) (hm : MkTx a y) : ∀ (d i : Nat), y.length - i = d → i ≤ y.length →
    T (fun k => laws_heldStringS.l0 k y (a + (i : Int)) (i : Int)) (· = a + (y.length : Int)) := by
  intro d
  induction d with
  | zero =>
    intro i hd hi
    refine T.succ ?_
    simp only [laws_heldStringS.l0]
    refine T.neg (by omega) (T.ret ?_)
    omega
  | succ d ih =>
    intro i hd hi
    have hlt : i < y.length := by omega
    have hm := hm i hlt
    refine T.succ ?_
    simp only [laws_heldStringS.l0]
    refine T.pos (by omega) (T.pos (by omega) ?_)
    refine T.bind_eq (mt_T (a + (i : Int)) (by omega)) ?_
    simp only [rdTx y i hlt, bytes_eq, wrap_succ hlt (show y.length ≤ 4611686018427387904 by omega), wrap64_id (x := a + (i : Int) + 1) (by omega) (by omega)]
    refine T.pos hm ?_
    have := ih (i + 1) (by omega) (by omega)
    rwa [show a + ((i + 1 : Nat) : Int) = a + (i : Int) + 1 by omega] at this
theorem heldTx_T (y : List ByteArray) (a : Int) (ha : 0 ≤ a) (hb : a + (y.length : Int) ≤ 4611686018427387904) (hm : MkTx a y) : T (fun k => laws_heldStringS.f k y a) (· = a + (y.length : Int)) := by
  have := heldTx_loop a ha y hb hm _ 0 rfl (Nat.zero_le _)
  simpa [laws_heldStringS.f] using this
end Go.Proofs.YthjocaegapchaaaX
