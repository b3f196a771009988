/-
  The program's SecLook answers as the reference's, for all arguments.
  Conditions: those of the pure statement, none beside.
-/
import Derived.Test.YthkdhcaojhbfoaaPx26
import Derived.Test.YthkdhcaojhbfoaaXSecLook
import Derived.Test.YthkdhcaojhbfoaaXExSec
namespace Go.Proofs.Ythkdhcaojhbfoaa.Pure
open Go.RowKit Go.Proofs.Ythkdhcaojhbfoaa.P Go.Proofs.YthkdhcaojhbfoaaX Go.Proofs.YthkdhcaojhbfoaaW.PrintWords Go.Proofs.YthkdhcaojhbfoaaW.PrintLast Go.Proofs.YthkdhcaojhbfoaaW.PrintMore
set_option linter.unusedVariables false
set_option linter.unusedSimpArgs false

theorem FnExactSecLook : laws_FnExactSecLook.Pure := by
  intro K W0 a hw _
  refine T.rounds (g := fun k => laws_FnExactSecLook.f k K W0 a) ?_
  simp only [laws_FnExactSecLook.f]
  refine T.bind (szSecDisk_T K W0 hw 1048576 (by omega) (by omega)) (fun r hr => ?_)
  refine T.ite (fun _ => T.ret rfl) (fun h => ?_)
  have hK : K.length ≤ 1048576 := by omega
  have hW0 : W0.length ≤ 1048576 := by omega
  have hW : (W0.map toSw).length ≤ 1048576 := by simp; omega
  refine T.bind_eq (toSecDisk_T K W0 hK hW0) ?_
  refine T.bind_eq (spec_look _ _ (by (try simp only); omega) a) ?_
  refine T.bind_eq (toSecDisk_T K W0 hK hW0) ?_
  refine T.bind_eq (impl_look _ _ (by (try simp only); omega) (by (try simp only); omega) a) ?_
  refine T.pos rfl ?_
  refine T.bind_eq (toSecDisk_T K W0 hK hW0) ?_
  refine T.bind (eqSecDisk_T _ _ _ _ (by (try simp only); omega) (by (try simp only); omega)) (fun r hr => ?_)
  obtain rfl : r = true := hr.2 ⟨rfl, rfl⟩
  exact T.pos (by simp) (T.ret rfl)
end Go.Proofs.Ythkdhcaojhbfoaa.Pure
