/-
  The program's SynSeekerOk answers as the reference's, for all arguments.
  Conditions: those of the pure statement, none beside.
-/
import Derived.Test.YtoieojmfkkidnaaPx42
import Derived.Test.YtoieojmfkkidnaaXSeeker
import Derived.Test.YtoieojmfkkidnaaXExSeeker
namespace Go.Proofs.Ytoieojmfkkidnaa.Pure
open Go.RowKit Go.Proofs.Ytoieojmfkkidnaa.P Go.Proofs.YtoieojmfkkidnaaX Go.Proofs.YtoieojmfkkidnaaW.PrintWords Go.Proofs.YtoieojmfkkidnaaW.PrintLast Go.Proofs.YtoieojmfkkidnaaW.PrintMore
set_option linter.unusedVariables false
set_option linter.unusedSimpArgs false

theorem FnExactSynSeekerOk : laws_FnExactSynSeekerOk.Pure := by
  intro a0 a1 a2 a3 a4 a5 a6 a7 a8 a9 a10 a11 a12 a13 a14 a15 a16 a17 a18 a19 a20 a21 a22 a23 a24 Y hw
  have hl : Y.length ≤ 9223372036854775807 := hw.2.2.2.2.2.1
  refine T.rounds (g := fun k => laws_FnExactSynSeekerOk.f k a0 a1 a2 a3 a4 a5 a6 a7 a8 a9 a10 a11 a12 a13 a14 a15 a16 a17 a18 a19 a20 a21 a22 a23 a24 Y) ?_
  obtain ⟨r, hr, hr2⟩ := szSeeker_f a0 a1 a2 a3 a4 a5 a6 a7 a8 a9 a10 a11 a12 a13 a14 a15 a16 a17 a18 a19 a20 a21 a22 a23 a24 Y 1048576 (by omega) (by omega) hl
  simp only [laws_FnExactSynSeekerOk.f, hr, Option.bind_some]
  refine T.ite (fun _ => T.ret rfl) (fun h => ?_)
  have hl : Y.length ≤ 1048576 := by omega
  refine T.bind_eq (toSeeker_T a0 a1 a2 a3 a4 a5 a6 a7 a8 a9 a10 a11 a12 a13 a14 a15 a16 a17 a18 a19 a20 a21 a22 a23 a24 Y hl) ?_
  refine T.bind_eq (spec_seek a0 a1 a2 a3 a4 a5 a6 a7 a8 a9 a10 a11 a12 a13 a14 a15 a16 a17 a18 a19 a20 a21 a22 a23 a24 Y) ?_
  refine T.bind_eq (toSeeker_T a0 a1 a2 a3 a4 a5 a6 a7 a8 a9 a10 a11 a12 a13 a14 a15 a16 a17 a18 a19 a20 a21 a22 a23 a24 Y hl) ?_
  refine T.bind_eq (impl_seek a0 a1 a2 a3 a4 a5 a6 a7 a8 a9 a10 a11 a12 a13 a14 a15 a16 a17 a18 a19 a20 a21 a22 a23 a24 Y) ?_
  refine T.neg (by simp) ?_
  refine T.bind_eq (toSeeker_T a0 a1 a2 a3 a4 a5 a6 a7 a8 a9 a10 a11 a12 a13 a14 a15 a16 a17 a18 a19 a20 a21 a22 a23 a24 Y hl) ?_
  refine T.bind_eq (eqSeeker_same a0 a1 a2 a3 a4 a5 a6 a7 a8 a9 a10 a11 a12 a13 a14 a15 a16 a17 a18 a19 a20 a21 a22 a23 a24 Y (by omega)) ?_
  exact T.pos rfl (T.ret rfl)
end Go.Proofs.Ytoieojmfkkidnaa.Pure
