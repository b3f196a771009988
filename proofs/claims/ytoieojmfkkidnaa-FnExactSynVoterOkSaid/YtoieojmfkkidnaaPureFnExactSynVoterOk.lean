/-
  The program's SynVoterOk answers as the reference's, for all arguments.
  Conditions: those of the pure statement, none beside.
-/
import Derived.Test.YtoieojmfkkidnaaPx50
import Derived.Test.YtoieojmfkkidnaaXVoter
import Derived.Test.YtoieojmfkkidnaaXExVoter
namespace Go.Proofs.Ytoieojmfkkidnaa.Pure
open Go.RowKit Go.Proofs.Ytoieojmfkkidnaa.P Go.Proofs.YtoieojmfkkidnaaX Go.Proofs.YtoieojmfkkidnaaW.PrintWords Go.Proofs.YtoieojmfkkidnaaW.PrintLast Go.Proofs.YtoieojmfkkidnaaW.PrintMore
set_option linter.unusedVariables false
set_option linter.unusedSimpArgs false

theorem FnExactSynVoterOk : laws_FnExactSynVoterOk.Pure := by
  intro P l hw
  have hl : l.length ≤ 9223372036854775807 := hw.2.1
  refine T.rounds (g := fun k => laws_FnExactSynVoterOk.f k P l) ?_
  obtain ⟨r, hr, hr2⟩ := szVoter_f P l 1048576 (by omega) (by omega) hl
  simp only [laws_FnExactSynVoterOk.f, hr, Option.bind_some]
  refine T.ite (fun _ => T.ret rfl) (fun h => ?_)
  have hl : l.length ≤ 1048576 := by omega
  have hx : (l.map toPp).length ≤ 1048576 := by simp; omega
  refine T.bind_eq (toVoter_T P l hl) ?_
  refine T.bind_eq (spec_voter _ _ (by (try simp only); omega)) ?_
  refine T.bind_eq (toVoter_T P l hl) ?_
  refine T.bind_eq (impl_voter _ _ (by (try simp only); omega)) ?_
  refine T.neg (by simp) ?_
  refine T.bind_eq (toVoter_T P l hl) ?_
  refine T.bind (eqVoter_T _ _ _ _ (by (try simp only); omega)) (fun r hr => ?_)
  obtain rfl : r = true := hr.2 ⟨rfl, rfl⟩
  exact T.pos rfl (T.ret rfl)
end Go.Proofs.Ytoieojmfkkidnaa.Pure
