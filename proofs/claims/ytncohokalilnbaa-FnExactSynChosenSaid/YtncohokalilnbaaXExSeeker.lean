/-
  What the exact laws' own functions on seekers come to: sizes, copies, likeness.
  Conditions: sizes far below Go's bounds.
-/
import Derived.Test.YtncohokalilnbaaXExPp
import Derived.Test.YtncohokalilnbaaXExInt0
import Derived.Test.YtncohokalilnbaaPx5
import Derived.Test.YtncohokalilnbaaPx8
import Derived.Test.YtncohokalilnbaaPx3
namespace Go.Proofs.YtncohokalilnbaaX
open Go.RowKit Go.Proofs.Ytncohokalilnbaa.P Go.Proofs.YtncohokalilnbaaW.PrintWords Go.Proofs.YtncohokalilnbaaW.PrintLast Go.Proofs.YtncohokalilnbaaW.PrintMore
set_option linter.unusedVariables false
set_option linter.unusedSimpArgs false

theorem szSeeker_f (a0 a1 a2 a3 a4 a5 a6 a7 a8 a9 a10 a11 a12 a13 a14 a15 a16 a17 a18 a19 a20 a21 a22 a23 a24 : Int) (Y : List Int) (x : Int) (h0 : 0 ≤ x) (h1 : x ≤ 1048576) (hl : Y.length ≤ 9223372036854775807) : ∃ r, laws_szSynSeeker.f a0 a1 a2 a3 a4 a5 a6 a7 a8 a9 a10 a11 a12 a13 a14 a15 a16 a17 a18 a19 a20 a21 a22 a23 a24 Y x = some r ∧ (r < 0 ∨ (Y.length : Int) ≤ x) := by
  unfold laws_szSynSeeker.f laws_szIntS.f
  rw [wrap64_id (x := x - (Y.length : Int)) (by omega) (by omega)]
  by_cases h : x - (Y.length : Int) < 0
  · rw [if_pos h]; exact ⟨-1, rfl, .inl (by omega)⟩
  · rw [if_neg h]
    simp only [Option.bind_some]
    rw [if_neg h]
    exact ⟨_, rfl, .inr (by omega)⟩
theorem toSeeker_T (a0 a1 a2 a3 a4 a5 a6 a7 a8 a9 a10 a11 a12 a13 a14 a15 a16 a17 a18 a19 a20 a21 a22 a23 a24 : Int) (Y : List Int) (hl : Y.length ≤ 1048576) : T (fun k => laws_toSynSeeker.f k a0 a1 a2 a3 a4 a5 a6 a7 a8 a9 a10 a11 a12 a13 a14 a15 a16 a17 a18 a19 a20 a21 a22 a23 a24 Y) (· = (a0, a1, a2, a3, a4, a5, a6, a7, a8, a9, a10, a11, a12, a13, a14, a15, a16, a17, a18, a19, a20, a21, a22, a23, a24, Y)) := by
  simp only [laws_toSynSeeker.f, laws_toCmd.f, laws_toSynPaper.f, Option.bind_some]
  exact T.bind_eq (toIntS_T Y hl) (T.ret rfl)
theorem eqSeeker_same (a0 a1 a2 a3 a4 a5 a6 a7 a8 a9 a10 a11 a12 a13 a14 a15 a16 a17 a18 a19 a20 a21 a22 a23 a24 : Int) (Y : List Int) (hl : Y.length ≤ 4611686018427387904) : T (fun k => laws_eqSynSeeker.f k a0 a1 a2 a3 a4 a5 a6 a7 a8 a9 a10 a11 a12 a13 a14 a15 a16 a17 a18 a19 a20 a21 a22 a23 a24 Y a0 a1 a2 a3 a4 a5 a6 a7 a8 a9 a10 a11 a12 a13 a14 a15 a16 a17 a18 a19 a20 a21 a22 a23 a24 Y) (· = true) := by
  obtain ⟨r, hr, hr2⟩ := eqCm_f ⟨a3, a4, a5, a6, a7, a8, a9, a10, a11, a12⟩ ⟨a3, a4, a5, a6, a7, a8, a9, a10, a11, a12⟩
  obtain rfl : r = true := hr2.2 rfl
  obtain ⟨q, hq, hq2⟩ := eqPp_f ⟨a13, a14, ⟨a15, a16, a17, a18, a19, a20, a21, a22, a23, a24⟩⟩ ⟨a13, a14, ⟨a15, a16, a17, a18, a19, a20, a21, a22, a23, a24⟩⟩
  obtain rfl : q = true := hq2.2 rfl
  simp only at hr hq
  simp only [laws_eqSynSeeker.f, hr, hq, Option.bind_some, if_true]
  refine T.bind (eqIntS_T Y Y hl) (fun r hr => ?_)
  exact T.pos (hr.2 rfl) (T.ret rfl)
end Go.Proofs.YtncohokalilnbaaX
