/-
  A drawn word: how long its rows are, and where it comes from and goes to.
  Conditions: Go's bounds of the drawn bytes.
-/
import Derived.Test.YtoieojmfkkidnaaXDrawBlk0
import Derived.Test.YtoieojmfkkidnaaXDrawMark0
import Derived.Test.YtoieojmfkkidnaaXWordPack
import Derived.Test.YtoieojmfkkidnaaPx17
import Derived.Test.YtoieojmfkkidnaaPx18
import Derived.Test.YtoieojmfkkidnaaPx38
namespace Go.Proofs.YtoieojmfkkidnaaX
open Go.RowKit Go.Proofs.Ytoieojmfkkidnaa.P Go.Proofs.YtoieojmfkkidnaaW.PrintWords Go.Proofs.YtoieojmfkkidnaaW.PrintLast Go.Proofs.YtoieojmfkkidnaaW.PrintMore
set_option linter.unusedVariables false
set_option linter.unusedSimpArgs false

theorem rd_in (y : List Int) (i : Int) (h0 : 0 ≤ i) (h1 : i < y.length) (c : Int) (hy : ∀ x ∈ y, -c ≤ x ∧ x ≤ c) : -c ≤ rd y i ∧ rd y i ≤ c := by
  obtain ⟨n, rfl⟩ : ∃ n : Nat, i = n := ⟨i.toNat, by omega⟩
  rw [rdNum y n (by omega)]
  exact hy _ (List.getElem_mem _)
theorem cmd_T {b : List Int} (hc : Code b) {p : Int} (h0 : 0 ≤ p) (h1 : p ≤ 100000000) : T (fun k => spec_l72Cmd.f k b p) (fun r => p ≤ r.2.2.2.2.2.2.2.2.2.2 ∧ r.2.2.2.2.2.2.2.2.2.2 ≤ p + 100) := by
  simp only [spec_l72Cmd.f]
  refine T.bind (pick_T hc h0 (by omega) 8 (by omega) (by omega)) (fun q1 ⟨a1, b1, c1⟩ => ?_)
  refine T.bind (pick_T hc (by omega) (by omega) 4 (by omega) (by omega)) (fun q2 ⟨a2, b2, c2⟩ => ?_)
  refine T.bind (pick_T hc (by omega) (by omega) 4 (by omega) (by omega)) (fun q3 ⟨a3, b3, c3⟩ => ?_)
  refine T.bind (pick_T hc (by omega) (by omega) 3 (by omega) (by omega)) (fun q4 ⟨a4, b4, c4⟩ => ?_)
  refine T.bind (pick_T hc (by omega) (by omega) 5 (by omega) (by omega)) (fun q5 ⟨a5, b5, c5⟩ => ?_)
  refine T.bind (pick_T hc (by omega) (by omega) 3 (by omega) (by omega)) (fun q6 ⟨a6, b6, c6⟩ => ?_)
  refine T.bind (pick_T hc (by omega) (by omega) 3 (by omega) (by omega)) (fun q7 ⟨a7, b7, c7⟩ => ?_)
  refine T.bind (pick_T hc (by omega) (by omega) 4 (by omega) (by omega)) (fun q8 ⟨a8, b8, c8⟩ => ?_)
  refine T.bind (pick_T hc (by omega) (by omega) 4 (by omega) (by omega)) (fun q9 ⟨a9, b9, c9⟩ => ?_)
  refine T.bind (pick_T hc (by omega) (by omega) 5 (by omega) (by omega)) (fun q10 ⟨a10, b10, c10⟩ => ?_)
  refine T.bind (pick_T hc (by omega) (by omega) 16 (by omega) (by omega)) (fun q11 ⟨a11, b11, c11⟩ => ?_)
  refine T.ite (fun _ => ?_) (fun _ => ?_)
  · refine T.bind (num_T hc _ (by omega) (by omega)) (fun q hq => ?_)
    exact T.ret ⟨by show p ≤ q.2; omega, by show q.2 ≤ _; omega⟩
  refine T.ite (fun _ => ?_) (fun _ => ?_)
  · simp only [Option.bind_some]
    refine T.bind (pick_T hc (by omega) (by omega) 3 (by omega) (by omega)) (fun q ⟨a, b, c⟩ => ?_)
    have := b (by omega)
    exact T.pos a (T.pos (by simp only [List.length_cons, List.length_nil]; omega) (T.ret ⟨by show p ≤ q.2; omega, by show q.2 ≤ _; omega⟩))
  refine T.ite (fun _ => ?_) (fun _ => ?_)
  · simp only [Option.bind_some]
    refine T.bind (pick_T hc (by omega) (by omega) 2 (by omega) (by omega)) (fun q ⟨a, b, c⟩ => ?_)
    have := b (by omega)
    exact T.pos a (T.pos (by simp only [List.length_cons, List.length_nil]; omega) (T.ret ⟨by show p ≤ q.2; omega, by show q.2 ≤ _; omega⟩))
  · exact T.ret ⟨by show p ≤ q11.2; omega, by show q11.2 ≤ _; omega⟩
/-- What is known of a drawn word. -/
def WD (a1 a2 : Int) (P : List Pc) (L : List La) : Prop := (-1000 ≤ a1 ∧ a1 ≤ 1000) ∧ (-1000 ≤ a2 ∧ a2 ≤ 1000) ∧ P.length ≤ 1000 ∧ L.length ≤ 1000
theorem word_j0 {b : List Int} (hc : Code b) {p : Int} (h0 : 0 ≤ p) (h1 : p ≤ 100000000) (a0 a1 a2 a3 a4 a5 a6 a7 a8 a9 a10 a11 a12 a13 a14 a15 a16 a17 a18 a19 a20 a21 a22 a23 : Int) (P : List Pc) (L : List La) (h : WD a1 a2 P L) : T (fun k => spec_l72Word.j0 k b p a0 a1 a2 a3 a4 a5 a6 a7 a8 a9 a10 a11 a12 a13 a14 a15 a16 a17 a18 a19 a20 a21 a22 a23 P L) (fun r => WD r.2.1 r.2.2.1 r.2.2.2.2.2.2.2.2.2.2.2.2.2.2.2.2.2.2.2.2.2.2.2.2.1 r.2.2.2.2.2.2.2.2.2.2.2.2.2.2.2.2.2.2.2.2.2.2.2.2.2.1) := by
  refine T.succ ?_
  simp only [spec_l72Word.j0, Option.bind_some]
  refine T.bind (pick_T hc h0 (by omega) 20 (by omega) (by omega)) (fun q ⟨a, b, c⟩ => ?_)
  refine T.ite (fun _ => ?_) (fun _ => ?_)
  · refine T.bind (pick_T hc (by omega) (by omega) 5 (by omega) (by omega)) (fun q2 ⟨a2_, b2, c2⟩ => ?_)
    have := b2 (by omega)
    have hy := rd_in [(-1), 5, 100, 103, 104] q2.1 a2_ (by simp only [List.length_cons, List.length_nil]; omega) 1000 (by simp)
    exact T.pos a2_ (T.pos (by simp only [List.length_cons, List.length_nil]; omega) (T.ret ⟨hy, h.2⟩))
  refine T.ite (fun _ => ?_) (fun _ => ?_)
  · refine T.bind (pick_T hc (by omega) (by omega) 5 (by omega) (by omega)) (fun q2 ⟨a2_, b2, c2⟩ => ?_)
    have := b2 (by omega)
    exact T.pos a2_ (T.pos (by simp only [List.length_cons, List.length_nil]; omega) (T.ret h))
  refine T.ite (fun _ => ?_) (fun _ => ?_)
  · refine T.bind (pick_T hc (by omega) (by omega) 4 (by omega) (by omega)) (fun q2 ⟨a2_, b2, c2⟩ => ?_)
    have := b2 (by omega)
    exact T.pos a2_ (T.pos (by simp only [List.length_cons, List.length_nil]; omega) (T.ret h))
  refine T.ite (fun _ => ?_) (fun _ => T.ret h)
  refine T.bind (pick_T hc (by omega) (by omega) 2 (by omega) (by omega)) (fun q2 ⟨a2_, b2, c2⟩ => ?_)
  have := b2 (by omega)
  exact T.pos a2_ (T.pos (by simp only [List.length_cons, List.length_nil]; omega) (T.ret h))
theorem word_T {b : List Int} (hc : Code b) {p : Int} (h0 : 0 ≤ p) (h1 : p ≤ 1000) : T (fun k => spec_l72Word.f k b p) (fun r => WD r.2.1 r.2.2.1 r.2.2.2.2.2.2.2.2.2.2.2.2.2.2.2.2.2.2.2.2.2.2.2.2.1 r.2.2.2.2.2.2.2.2.2.2.2.2.2.2.2.2.2.2.2.2.2.2.2.2.2.1) := by
  simp only [spec_l72Word.f]
  refine T.bind (pick_T hc h0 (by omega) 15 (by omega) (by omega)) (fun q1 ⟨a1, b1, c1⟩ => ?_)
  refine T.bind (pick_T hc (by omega) (by omega) 5 (by omega) (by omega)) (fun q2 ⟨a2, b2, c2⟩ => ?_)
  refine T.bind (pick_T hc (by omega) (by omega) 5 (by omega) (by omega)) (fun q3 ⟨a3, b3, c3⟩ => ?_)
  refine T.bind (pick_T hc (by omega) (by omega) 40 (by omega) (by omega)) (fun q4 ⟨a4, b4, c4⟩ => ?_)
  refine T.bind (pick_T hc (by omega) (by omega) 4 (by omega) (by omega)) (fun q5 ⟨a5, b5, c5⟩ => ?_)
  refine T.bind (pick_T hc (by omega) (by omega) 7 (by omega) (by omega)) (fun q6 ⟨a6, b6, c6⟩ => ?_)
  refine T.bind (cmd_T hc (by omega) (by omega)) (fun q7 hq7 => ?_)
  refine T.bind (pick_T hc (by omega) (by omega) 3 (by omega) (by omega)) (fun q8 ⟨a8, b8, c8⟩ => ?_)
  refine T.bind (pick_T hc (by omega) (by omega) 3 (by omega) (by omega)) (fun q9 ⟨a9, b9, c9⟩ => ?_)
  refine T.bind (pick_T hc (by omega) (by omega) 4 (by omega) (by omega)) (fun q10 ⟨a10, b10, c10⟩ => ?_)
  refine T.bind (pick_T hc (by omega) (by omega) 4 (by omega) (by omega)) (fun q11 ⟨a11, b11, c11⟩ => ?_)
  refine T.bind (pick_T hc (by omega) (by omega) 2 (by omega) (by omega)) (fun q12 ⟨a12, b12, c12⟩ => ?_)
  refine T.bind (pick_T hc (by omega) (by omega) 3 (by omega) (by omega)) (fun q13 ⟨a13, b13, c13⟩ => ?_)
  refine T.bind (pick_T hc (by omega) (by omega) 3 (by omega) (by omega)) (fun q14 ⟨a14, b14, c14⟩ => ?_)
  refine T.bind (num_T hc _ (by omega) (by omega)) (fun q15 hq15 => ?_)
  refine T.bind (pick_T hc (by omega) (by omega) 3 (by omega) (by omega)) (fun q16 ⟨a16, b16, c16⟩ => ?_)
  have k2 := b2 (by omega)
  have k3 := b3 (by omega)
  refine T.ite (fun _ => ?_) (fun _ => ?_)
  · refine T.bind (piecesAny_T hc _ (by omega) (by omega)) (fun P hP => ?_)
    refine T.bind (lastDrawn_T hc _ (by omega) (by omega)) (fun L hL => ?_)
    exact word_j0 hc (by omega) (by omega) _ _ _ _ _ _ _ _ _ _ _ _ _ _ _ _ _ _ _ _ _ _ _ _ _ _ ⟨⟨by omega, by omega⟩, ⟨by omega, by omega⟩, hP.1, by have := hL.1; omega⟩
  · exact word_j0 hc (by omega) (by omega) _ _ _ _ _ _ _ _ _ _ _ _ _ _ _ _ _ _ _ _ _ _ _ _ _ _ ⟨⟨by omega, by omega⟩, ⟨by omega, by omega⟩, by simp, by simp⟩
theorem drawWord_T (l : List Int) (hw : ∀ x ∈ l, (Lit.int .u8 x).wf = true) (hl : l.length ≤ maxLen) : T (fun k => spec_DrawWordPack.f k l) (fun r => WD r.2.1 r.2.2.1 r.2.2.2.2.2.2.2.2.2.2.2.2.2.2.2.2.2.2.2.2.2.2.2.2.1 r.2.2.2.2.2.2.2.2.2.2.2.2.2.2.2.2.2.2.2.2.2.2.2.2.2) := by
  simp only [spec_DrawWordPack.f]
  obtain ⟨b, hc, hb⟩ := open_code hw hl
  simp only [hb, Option.bind_some]
  exact T.bind (word_T hc (by omega) (by omega)) (fun r h => T.ret h)
end Go.Proofs.YtoieojmfkkidnaaX
