/-
  The drawn disks of sectors, and the numbers that say which writes are kept: they always come, and are short.
  Conditions: bytes.
-/
import Derived.Test.YthjocaegapchaaaXDrawSec
import Derived.Test.YthjocaegapchaaaPx27
import Derived.Test.YthjocaegapchaaaPx11
namespace Go.Proofs.YthjocaegapchaaaX
open Go.RowKit Go.Proofs.Ythjocaegapchaaa.P Go.Proofs.YthjocaegapchaaaW.PrintWords Go.Proofs.YthjocaegapchaaaW.PrintLast Go.Proofs.YthjocaegapchaaaW.PrintMore
set_option linter.unusedVariables false
set_option linter.unusedSimpArgs false

theorem bits_loop {b : List Int} (hc : Code b) : ∀ (d : Nat) (n : Int) (l : List Int) (p : Int), n = d → n ≤ 1000 → l.length + d ≤ 2000 → 0 ≤ p → p ≤ 100000000 - d →
    T (fun k => spec_l72Bits.l0 k l n b p) (fun r => r.1.length ≤ 2000) := by
  intro d
  induction d with
  | zero =>
    intro n l p hn _ hl h0 h1
    refine T.succ ?_
    simp only [spec_l72Bits.l0]
    exact T.neg (by omega) (T.ret (by simp only; omega))
  | succ d ih =>
    intro n l p hn hn1 hl h0 h1
    refine T.succ ?_
    simp only [spec_l72Bits.l0, Option.bind_some]
    refine T.pos (by omega) ?_
    refine T.bind (pick_T hc h0 (by omega) 5 (by omega) (by omega)) (fun q ⟨a, b, c⟩ => ?_)
    have := b (by omega)
    refine T.pos a (T.pos (by simp only [List.length_cons, List.length_nil]; omega) (T.pos (by omega) ?_))
    rw [wrap64_id (x := n - 1) (by omega) (by omega)]
    exact ih (n - 1) _ q.2 (by omega) (by omega) (by simp; omega) (by omega) (by omega)
theorem drawSecCut_T (l : List Int) (hw : ∀ x ∈ l, (Lit.int .u8 x).wf = true) (hl : l.length ≤ maxLen) : T (fun k => spec_DrawSecCut.f k l) (fun r => Drawn r.1 r.2.1 ∧ r.2.2.length ≤ 2000) := by
  simp only [spec_DrawSecCut.f]
  obtain ⟨b, hc, hb⟩ := open_code hw hl
  simp only [hb, Option.bind_some]
  refine T.bind (drawAny_T hc (by omega) (by omega)) (fun d ⟨hd, h0, h1⟩ => ?_)
  simp only [spec_l72Bits.f, show wrap64 ((9 : Int) + 1) = 10 from wrap64_id (by omega) (by omega)]
  refine T.bind (P := fun r : List Int × Int => r.1.length ≤ 2000) ?_ (fun q hq => T.ret ⟨hd, hq⟩)
  refine T.bind (pick_T hc (by omega) (by omega) 10 (by omega) (by omega)) (fun q ⟨a, b, c⟩ => ?_)
  have := b (by omega)
  exact bits_loop hc q.1.toNat q.1 [] q.2 (by omega) (by omega) (by simp; omega) (by omega) (by omega)
end Go.Proofs.YthjocaegapchaaaX
