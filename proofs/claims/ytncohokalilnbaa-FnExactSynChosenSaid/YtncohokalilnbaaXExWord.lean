/-
  What the exact laws' own functions on words come to: sizes, copies, likeness.
  Conditions: sizes far below Go's bounds.
-/
import Derived.Test.YtncohokalilnbaaXExPiece0
import Derived.Test.YtncohokalilnbaaXExLast0
import Derived.Test.YtncohokalilnbaaXExCm
import Derived.Test.YtncohokalilnbaaPx5
import Derived.Test.YtncohokalilnbaaPx7
import Derived.Test.YtncohokalilnbaaPx8
import Derived.Test.YtncohokalilnbaaPx4
namespace Go.Proofs.YtncohokalilnbaaX
open Go.RowKit Go.Proofs.Ytncohokalilnbaa.P Go.Proofs.YtncohokalilnbaaW.PrintWords Go.Proofs.YtncohokalilnbaaW.PrintLast Go.Proofs.YtncohokalilnbaaW.PrintMore
set_option linter.unusedVariables false
set_option linter.unusedSimpArgs false

theorem szWord_f (a0 a1 a2 a3 a4 a5 a6 a7 a8 a9 a10 a11 a12 a13 a14 a15 a16 a17 a18 a19 a20 a21 a22 a23 : Int) (P : List S182) (L : List S184) (h1 : P.length ≤ 9223372036854775807) (h2 : L.length ≤ 9223372036854775807) : ∃ r, laws_szWord.f a0 a1 a2 a3 a4 a5 a6 a7 a8 a9 a10 a11 a12 a13 a14 a15 a16 a17 a18 a19 a20 a21 a22 a23 P L 1048576 = some r ∧ (r < 0 ∨ P.length ≤ 1048576 ∧ L.length ≤ 1048576) := by
  unfold laws_szWord.f
  rw [szBlkPieceS_f P 1048576 (by omega) (by omega) h1]
  simp only [Option.bind_some]
  by_cases h : (1048576 : Int) < (P.length : Int)
  · rw [if_pos h, if_pos (by omega)]; exact ⟨-1, rfl, .inl (by omega)⟩
  · rw [if_neg h, if_neg (by omega), szBlkLastS_f L _ (by omega) (by omega) h2]
    simp only [Option.bind_some]
    by_cases h3 : 1048576 - (P.length : Int) < (L.length : Int)
    · rw [if_pos h3, if_pos (by omega)]; exact ⟨-1, rfl, .inl (by omega)⟩
    · rw [if_neg h3, if_neg (by omega)]; exact ⟨_, rfl, .inr (by omega)⟩
theorem toWord_T (a0 a1 a2 a3 a4 a5 a6 a7 a8 a9 a10 a11 a12 a13 a14 a15 a16 a17 a18 a19 a20 a21 a22 a23 : Int) (P : List S182) (L : List S184) (h1 : P.length ≤ 1048576) (h2 : L.length ≤ 1048576) : T (fun k => laws_toWord.f k a0 a1 a2 a3 a4 a5 a6 a7 a8 a9 a10 a11 a12 a13 a14 a15 a16 a17 a18 a19 a20 a21 a22 a23 P L) (· = (a0, a1, a2, a3, a4, a5, a6, a7, a8, a9, a10, a11, a12, a13, a14, a15, a16, a17, a18, a19, a20, a21, a22, a23, P.map toBlkPiece, L.map toBlkLast)) := by
  simp only [laws_toWord.f, laws_toCmd.f, Option.bind_some]
  refine T.bind_eq (toBlkPieceS_T P h1) ?_
  exact T.bind_eq (toBlkLastS_T L h2) (T.ret rfl)
theorem eqWord_same (a0 a1 a2 a3 a4 a5 a6 a7 a8 a9 a10 a11 a12 a13 a14 a15 a16 a17 a18 a19 a20 a21 a22 a23 : Int) (P : List S164) (L : List S166) (h1 : P.length ≤ 4611686018427387904) (h2 : L.length ≤ 4611686018427387904) : T (fun k => laws_eqWord.f k a0 a1 a2 a3 a4 a5 a6 a7 a8 a9 a10 a11 a12 a13 a14 a15 a16 a17 a18 a19 a20 a21 a22 a23 P L a0 a1 a2 a3 a4 a5 a6 a7 a8 a9 a10 a11 a12 a13 a14 a15 a16 a17 a18 a19 a20 a21 a22 a23 P L) (· = true) := by
  obtain ⟨r, hr, hr2⟩ := eqCm_f ⟨a6, a7, a8, a9, a10, a11, a12, a13, a14, a15⟩ ⟨a6, a7, a8, a9, a10, a11, a12, a13, a14, a15⟩
  obtain rfl : r = true := hr2.2 rfl
  simp only at hr
  simp only [laws_eqWord.f, hr, Option.bind_some, if_true]
  refine T.bind (eqBlkPieceS_T P P h1) (fun r hr => ?_)
  refine T.pos (hr.2 rfl) ?_
  refine T.bind (eqBlkLastS_T L L h2) (fun r hr => ?_)
  exact T.pos (hr.2 rfl) (T.ret rfl)
end Go.Proofs.YtncohokalilnbaaX
