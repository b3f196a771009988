/-
  The program's WordOk answers as the reference's, for all arguments.
  Conditions: those of the pure statement, none beside.
-/
import Derived.Test.YtoieojmfkkidnaaPx39
import Derived.Test.YtoieojmfkkidnaaXWord
import Derived.Test.YtoieojmfkkidnaaXExWord
namespace Go.Proofs.Ytoieojmfkkidnaa.Pure
open Go.RowKit Go.Proofs.Ytoieojmfkkidnaa.P Go.Proofs.YtoieojmfkkidnaaX Go.Proofs.YtoieojmfkkidnaaW.PrintWords Go.Proofs.YtoieojmfkkidnaaW.PrintLast Go.Proofs.YtoieojmfkkidnaaW.PrintMore
set_option linter.unusedVariables false
set_option linter.unusedSimpArgs false

theorem FnExactWordOk : laws_FnExactWordOk.Pure := by
  intro a0 a1 a2 a3 a4 a5 a6 a7 a8 a9 a10 a11 a12 a13 a14 a15 a16 a17 a18 a19 a20 a21 a22 a23 P L hw
  have w1 := wf_i64 hw.2.1
  have w2 := wf_i64 hw.2.2.1
  have wP : P.length ≤ maxLen := hw.2.2.2.2.2.2.2.2.2.2.2.2.2.2.2.1.1
  have wL : L.length ≤ maxLen := hw.2.2.2.2.2.2.2.2.2.2.2.2.2.2.2.2.1
  have hm : maxLen ≤ 9223372036854775807 := by decide
  refine T.rounds (g := fun k => laws_FnExactWordOk.f k a0 a1 a2 a3 a4 a5 a6 a7 a8 a9 a10 a11 a12 a13 a14 a15 a16 a17 a18 a19 a20 a21 a22 a23 P L) ?_
  obtain ⟨r, hr, hr2⟩ := szWord_f a0 a1 a2 a3 a4 a5 a6 a7 a8 a9 a10 a11 a12 a13 a14 a15 a16 a17 a18 a19 a20 a21 a22 a23 P L (by omega) (by omega)
  simp only [laws_FnExactWordOk.f, hr, Option.bind_some]
  refine T.ite (fun _ => T.ret rfl) (fun h => ?_)
  have hP : P.length ≤ 1048576 := by omega
  have hL : L.length ≤ 1048576 := by omega
  have kP : (P.map toBlkPiece).length ≤ 1048576 := by rw [List.length_map]; exact hP
  have kL : (L.map toBlkLast).length ≤ 1048576 := by rw [List.length_map]; exact hL
  refine T.bind_eq (toWord_T a0 a1 a2 a3 a4 a5 a6 a7 a8 a9 a10 a11 a12 a13 a14 a15 a16 a17 a18 a19 a20 a21 a22 a23 P L hP hL) ?_
  refine T.bind_eq (spec_word a0 a1 a2 a3 a4 a5 a6 a7 a8 a9 a10 a11 a12 a13 a14 a15 a16 a17 a18 a19 a20 a21 a22 a23 _ _) ?_
  refine T.bind_eq (toWord_T a0 a1 a2 a3 a4 a5 a6 a7 a8 a9 a10 a11 a12 a13 a14 a15 a16 a17 a18 a19 a20 a21 a22 a23 P L hP hL) ?_
  refine T.bind_eq (impl_word a0 a1 a2 a3 a4 a5 a6 a7 a8 a9 a10 a11 a12 a13 a14 a15 a16 a17 a18 a19 a20 a21 a22 a23 _ _ (by omega) (by omega) w1 w2) ?_
  refine T.neg (by simp) ?_
  refine T.bind_eq (toWord_T a0 a1 a2 a3 a4 a5 a6 a7 a8 a9 a10 a11 a12 a13 a14 a15 a16 a17 a18 a19 a20 a21 a22 a23 P L hP hL) ?_
  refine T.bind_eq (eqWord_same a0 a1 a2 a3 a4 a5 a6 a7 a8 a9 a10 a11 a12 a13 a14 a15 a16 a17 a18 a19 a20 a21 a22 a23 (P.map toBlkPiece) (L.map toBlkLast) (by omega) (by omega)) ?_
  refine T.pos rfl ?_
  exact T.ret rfl
end Go.Proofs.Ytoieojmfkkidnaa.Pure
