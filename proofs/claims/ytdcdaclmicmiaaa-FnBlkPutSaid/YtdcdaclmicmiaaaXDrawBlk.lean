/-
  The drawn pieces, blocks and last calls: they always come, and are short.
  Conditions: bytes.
-/
import Derived.Test.YtdcdaclmicmiaaaXBlk2
import Derived.Test.YtdcdaclmicmiaaaXPick
import Derived.Test.YtdcdaclmicmiaaaPx13
import Derived.Test.YtdcdaclmicmiaaaPx31
namespace Go.Proofs.YtdcdaclmicmiaaaX
open Go.RowKit Go.Proofs.Ytdcdaclmicmiaaa.P Go.Proofs.YtdcdaclmicmiaaaW.PrintWords Go.Proofs.YtdcdaclmicmiaaaW.PrintLast Go.Proofs.YtdcdaclmicmiaaaW.PrintMore
set_option linter.unusedVariables false
set_option linter.unusedSimpArgs false

theorem putB_le (l : List Pc) (p : Pc) : (putB l p).1.length ≤ l.length + 1 := by
  have := insL_le p l false
  simp only [Bool.false_eq_true, if_false] at this
  unfold putB
  split
  · split <;> simp only <;> omega
  · simp
theorem pieces_loop {b : List Int} (hc : Code b) : ∀ (d : Nat) (n : Int) (l : List Pc) (p : Int), n = d → n ≤ 1000 → l.length + d ≤ 2000 → 0 ≤ p → p ≤ 100000000 - 4 * d →
    T (fun k => spec_l72Pieces.l0 k l n b p) (fun r => r.1.length ≤ l.length + d ∧ p ≤ r.2 ∧ r.2 ≤ p + 4 * d) := by
  intro d
  induction d with
  | zero =>
    intro n l p hn _ _ h0 h1
    refine T.succ ?_
    simp only [spec_l72Pieces.l0]
    exact T.neg (by omega) (T.ret ⟨by simp, by simp, by simp⟩)
  | succ d ih =>
    intro n l p hn hn1 hl h0 h1
    refine T.succ ?_
    simp only [spec_l72Pieces.l0]
    refine T.pos (by omega) ?_
    refine T.bind (pick_T hc h0 (by omega) 3 (by omega) (by omega)) (fun q1 ⟨a1, b1, c1⟩ => ?_)
    refine T.bind (pick_T hc (by omega) (by omega) 3 (by omega) (by omega)) (fun q2 ⟨a2, b2, c2⟩ => ?_)
    refine T.bind (pick_T hc (by omega) (by omega) 3 (by omega) (by omega)) (fun q3 ⟨a3, b3, c3⟩ => ?_)
    refine T.bind (pick_T hc (by omega) (by omega) 100 (by omega) (by omega)) (fun q4 ⟨a4, b4, c4⟩ => ?_)
    refine T.bind_eq (spec_put l (by omega) ⟨wrap64 (1 + q1.1), q2.1, wrap64 (1 + q3.1), q4.1⟩) ?_
    have hp := putB_le l ⟨wrap64 (1 + q1.1), q2.1, wrap64 (1 + q3.1), q4.1⟩
    rw [wrap64_id (x := n - 1) (by omega) (by omega)]
    refine (ih (n - 1) _ q4.2 (by omega) (by omega) (by omega) (by omega) (by omega)).mono (fun r hr => ⟨by omega, by omega, by omega⟩)
theorem many_loop {b : List Int} (hc : Code b) : ∀ (d : Nat) (n : Int) (l : List Pc) (p : Int), (61 - n).toNat = d → 0 ≤ n → n ≤ 61 → l.length ≤ n → 0 ≤ p → p ≤ 200000000 - d →
    T (fun k => spec_l72PiecesAny.l0 k l n b p) (fun r => r.1.length ≤ 61 ∧ p ≤ r.2 ∧ r.2 ≤ p + d + 1) := by
  intro d
  induction d with
  | zero =>
    intro n l p hn hn0 hn1 hl h0 h1
    refine T.succ ?_
    simp only [spec_l72PiecesAny.l0]
    refine T.bind (pick_T hc h0 (by omega) 2 (by omega) (by omega)) (fun q ⟨a1, b1, c1⟩ => ?_)
    have := b1 (by omega)
    rw [wrap64_id (x := 60 + q.1) (by omega) (by omega)]
    exact T.neg (by omega) (T.ret ⟨by show l.length ≤ 61; omega, by show p ≤ q.2; omega, by show q.2 ≤ _; omega⟩)
  | succ d ih =>
    intro n l p hn hn0 hn1 hl h0 h1
    refine T.succ ?_
    simp only [spec_l72PiecesAny.l0]
    refine T.bind (pick_T hc h0 (by omega) 2 (by omega) (by omega)) (fun q ⟨a1, b1, c1⟩ => ?_)
    have := b1 (by omega)
    rw [wrap64_id (x := 60 + q.1) (by omega) (by omega)]
    refine T.ite (fun h => ?_) (fun h => T.ret ⟨by show l.length ≤ 61; omega, by show p ≤ q.2; omega, by show q.2 ≤ _; omega⟩)
    refine T.pos (by omega) ?_
    rw [wrap64_id (x := n + 1) (by omega) (by omega)]
    exact (ih (n + 1) _ q.2 (by omega) (by omega) (by omega) (by simp; omega) (by omega) (by omega)).mono (fun r hr => ⟨hr.1, by omega, by omega⟩)
theorem piecesAny_T {b : List Int} (hc : Code b) (p : Int) (h0 : 0 ≤ p) (h1 : p ≤ 10000000) : T (fun k => spec_l72PiecesAny.f k b p) (fun r => r.1.length ≤ 1000 ∧ p ≤ r.2 ∧ r.2 ≤ p + 1000) := by
  simp only [spec_l72PiecesAny.f]
  have first : T (fun k => spec_l72Pieces.f k b p 9) (fun r => r.1.length ≤ 9 ∧ p ≤ r.2 ∧ r.2 ≤ p + 100) := by
    simp only [spec_l72Pieces.f]
    refine T.bind (pick_T hc h0 (by omega) 9 (by omega) (by omega)) (fun q ⟨a1, b1, c1⟩ => ?_)
    have := b1 (by omega)
    exact (pieces_loop hc q.1.toNat q.1 [] q.2 (by omega) (by omega) (by simp; omega) (by omega) (by omega)).mono (fun r hr => ⟨by have := hr.1; simp at this; omega, by omega, by omega⟩)
  refine T.bind first (fun l hl => ?_)
  refine T.bind (pick_T hc (by omega) (by omega) 14 (by omega) (by omega)) (fun q ⟨a1, b1, c1⟩ => ?_)
  refine T.ite (fun _ => T.pos (by omega) (T.ret ⟨?_, ?_, ?_⟩)) (fun _ => ?_)
  · simp; omega
  · show p ≤ q.2; omega
  · show q.2 ≤ _; omega
  refine T.ite (fun _ => T.pos (by omega) (T.ret ⟨?_, ?_, ?_⟩)) (fun _ => ?_)
  · simp; omega
  · show p ≤ q.2; omega
  · show q.2 ≤ _; omega
  refine T.ite (fun _ => ?_) (fun _ => T.ret ⟨?_, ?_, ?_⟩)
  · exact (many_loop hc 61 0 [] q.2 (by omega) (by omega) (by omega) (by simp) (by omega) (by omega)).mono (fun r hr => ⟨by omega, by omega, by omega⟩)
  · show l.1.length ≤ 1000; omega
  · show p ≤ q.2; omega
  · show q.2 ≤ _; omega
theorem num_T {b : List Int} (hc : Code b) (p : Int) (h0 : 0 ≤ p) (h1 : p ≤ 1000000000) : T (fun k => spec_l72Num.f k b p) (fun r => p ≤ r.2 ∧ r.2 ≤ p + 3) := by
  simp only [spec_l72Num.f, Option.bind_some]
  refine T.bind (pick_T hc h0 (by omega) 200 (by omega) (by omega)) (fun q1 ⟨a1, b1, c1⟩ => ?_)
  refine T.bind (pick_T hc (by omega) (by omega) 30000 (by omega) (by omega)) (fun q2 ⟨a2, b2, c2⟩ => ?_)
  refine T.bind (pick_T hc (by omega) (by omega) 10 (by omega) (by omega)) (fun q3 ⟨a3, b3, c3⟩ => ?_)
  have := b3 (by omega)
  refine T.pos a3 (T.pos (by simpa using this) (T.ret ⟨?_, ?_⟩))
  · show p ≤ q3.2; omega
  · show q3.2 ≤ _; omega
theorem drawPut_T (l : List Int) (hw : ∀ x ∈ l, (Lit.int .u8 x).wf = true) (hl : l.length ≤ maxLen) : T (fun k => spec_DrawBlkPut.f k l) (fun r => r.1.length ≤ 1000) := by
  simp only [spec_DrawBlkPut.f]
  obtain ⟨b, hc, hb⟩ := open_code hw hl
  simp only [hb, Option.bind_some]
  refine T.bind (piecesAny_T hc 0 (by omega) (by omega)) (fun l1 h1 => ?_)
  refine T.bind (pick_T hc (by omega) (by omega) 3 (by omega) (by omega)) (fun q1 ⟨a1, b1, c1⟩ => ?_)
  refine T.bind (pick_T hc (by omega) (by omega) 12 (by omega) (by omega)) (fun q2 ⟨a2, b2, c2⟩ => ?_)
  refine T.bind (pick_T hc (by omega) (by omega) 3 (by omega) (by omega)) (fun q3 ⟨a3, b3, c3⟩ => ?_)
  refine T.bind (pick_T hc (by omega) (by omega) 12 (by omega) (by omega)) (fun q4 ⟨a4, b4, c4⟩ => ?_)
  refine T.bind (pick_T hc (by omega) (by omega) 3 (by omega) (by omega)) (fun q5 ⟨a5, b5, c5⟩ => ?_)
  refine T.bind (pick_T hc (by omega) (by omega) 12 (by omega) (by omega)) (fun q6 ⟨a6, b6, c6⟩ => ?_)
  refine T.bind (num_T hc _ (by omega) (by omega)) (fun q7 h7 => ?_)
  exact T.ret h1.1
theorem drawDrop_T (l : List Int) (hw : ∀ x ∈ l, (Lit.int .u8 x).wf = true) (hl : l.length ≤ maxLen) : T (fun k => spec_DrawBlkDrop.f k l) (fun r => r.1.length ≤ 1000) := by
  simp only [spec_DrawBlkDrop.f]
  obtain ⟨b, hc, hb⟩ := open_code hw hl
  simp only [hb, Option.bind_some]
  refine T.bind (piecesAny_T hc 0 (by omega) (by omega)) (fun l1 h1 => ?_)
  refine T.bind (pick_T hc (by omega) (by omega) 4 (by omega) (by omega)) (fun q1 ⟨a1, b1, c1⟩ => ?_)
  exact T.ret h1.1
end Go.Proofs.YtdcdaclmicmiaaaX
