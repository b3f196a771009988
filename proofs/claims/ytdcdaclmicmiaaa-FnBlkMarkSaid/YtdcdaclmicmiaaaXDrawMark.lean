/-
  The drawn last calls: they always come, and are short.
  Conditions: bytes.
-/
import Derived.Test.YtdcdaclmicmiaaaXMark
import Derived.Test.YtdcdaclmicmiaaaXPick
import Derived.Test.YtdcdaclmicmiaaaPx25
namespace Go.Proofs.YtdcdaclmicmiaaaX
open Go.RowKit Go.Proofs.Ytdcdaclmicmiaaa.P Go.Proofs.YtdcdaclmicmiaaaW.PrintWords Go.Proofs.YtdcdaclmicmiaaaW.PrintLast Go.Proofs.YtdcdaclmicmiaaaW.PrintMore
set_option linter.unusedVariables false
set_option linter.unusedSimpArgs false

theorem last_loop {b : List Int} (hc : Code b) : ∀ (d : Nat) (n : Int) (l : List La) (p : Int), n = d → n ≤ 1000 → l.length + d ≤ 2000 → 0 ≤ p → p ≤ 100000000 - 4 * d →
    T (fun k => spec_l72Last.l0 k l n b p) (fun r => r.1.length ≤ l.length + d + 1 ∧ p ≤ r.2 ∧ r.2 ≤ p + 4 * d + 3) := by
  intro d
  induction d with
  | zero =>
    intro n l p hn _ hl h0 h1
    refine T.succ ?_
    simp only [spec_l72Last.l0]
    refine T.neg (by omega) ?_
    refine T.bind (pick_T hc h0 (by omega) 14 (by omega) (by omega)) (fun q1 ⟨a1, b1, c1⟩ => ?_)
    refine T.ite (fun _ => ?_) (fun _ => T.ret ⟨by show l.length ≤ _; omega, by show p ≤ q1.2; omega, by show q1.2 ≤ _; omega⟩)
    refine T.bind (pick_T hc (by omega) (by omega) 5 (by omega) (by omega)) (fun q2 ⟨a2, b2, c2⟩ => ?_)
    refine T.bind (pick_T hc (by omega) (by omega) 2 (by omega) (by omega)) (fun q3 ⟨a3, b3, c3⟩ => ?_)
    exact T.pos (by omega) (T.ret ⟨by simp, by show p ≤ q3.2; omega, by show q3.2 ≤ _; omega⟩)
  | succ d ih =>
    intro n l p hn hn1 hl h0 h1
    refine T.succ ?_
    simp only [spec_l72Last.l0]
    refine T.pos (by omega) ?_
    refine T.bind (pick_T hc h0 (by omega) 4 (by omega) (by omega)) (fun q1 ⟨a1, b1, c1⟩ => ?_)
    refine T.bind (pick_T hc (by omega) (by omega) 9 (by omega) (by omega)) (fun q2 ⟨a2, b2, c2⟩ => ?_)
    refine T.bind_eq (spec_mark l (by omega) q1.1 (wrap64 (1 + q2.1))) ?_
    have hp := markB_le l q1.1 (wrap64 (1 + q2.1))
    rw [wrap64_id (x := n - 1) (by omega) (by omega)]
    exact (ih (n - 1) _ q2.2 (by omega) (by omega) (by omega) (by omega) (by omega)).mono (fun r hr => ⟨by omega, by omega, by omega⟩)
theorem lastDrawn_T {b : List Int} (hc : Code b) (p : Int) (h0 : 0 ≤ p) (h1 : p ≤ 10000000) : T (fun k => spec_l72Last.f k b p) (fun r => r.1.length ≤ 10 ∧ p ≤ r.2 ∧ r.2 ≤ p + 100) := by
  simp only [spec_l72Last.f]
  refine T.bind (pick_T hc h0 (by omega) 5 (by omega) (by omega)) (fun q ⟨a1, b1, c1⟩ => ?_)
  have := b1 (by omega)
  exact (last_loop hc q.1.toNat q.1 [] q.2 (by omega) (by omega) (by simp; omega) (by omega) (by omega)).mono (fun r hr => ⟨by have := hr.1; simp at this; omega, by omega, by omega⟩)
theorem drawMark_T (l : List Int) (hw : ∀ x ∈ l, (Lit.int .u8 x).wf = true) (hl : l.length ≤ maxLen) : T (fun k => spec_DrawBlkMark.f k l) (fun r => r.1.length ≤ 10 ∧ r.2.2 ≤ 11) := by
  simp only [spec_DrawBlkMark.f]
  obtain ⟨b, hc, hb⟩ := open_code hw hl
  simp only [hb, Option.bind_some]
  refine T.bind (lastDrawn_T hc 0 (by omega) (by omega)) (fun l1 h1 => ?_)
  refine T.bind (pick_T hc (by omega) (by omega) 5 (by omega) (by omega)) (fun q1 ⟨a1, b1, c1⟩ => ?_)
  refine T.bind (pick_T hc (by omega) (by omega) 12 (by omega) (by omega)) (fun q2 ⟨a2, b2, c2⟩ => ?_)
  refine T.bind (pick_T hc (by omega) (by omega) 12 (by omega) (by omega)) (fun q3 ⟨a3, b3, c3⟩ => ?_)
  have := b3 (by omega)
  exact T.ret ⟨h1.1, by show q3.1 ≤ 11; omega⟩
end Go.Proofs.YtdcdaclmicmiaaaX
