/-
  The program's SecPut returns what the reference's returns, for all arguments, in new memory.
  Conditions: those of the pure statement, none beside.
-/
import Derived.Test.YthkdhcaojhbfoaaPx33
import Derived.Test.YthkdhcaojhbfoaaXSecPut
import Derived.Test.YthkdhcaojhbfoaaXExSec
namespace Go.Proofs.Ythkdhcaojhbfoaa.Pure
open Go.RowKit Go.Proofs.Ythkdhcaojhbfoaa.P Go.Proofs.YthkdhcaojhbfoaaX Go.Proofs.YthkdhcaojhbfoaaW.PrintWords Go.Proofs.YthkdhcaojhbfoaaW.PrintLast Go.Proofs.YthkdhcaojhbfoaaW.PrintMore
set_option linter.unusedVariables false
set_option linter.unusedSimpArgs false

theorem FnExactSecPut : laws_FnExactSecPut.Pure := by
  intro K W0 a s hw _ _
  refine T.rounds (g := fun k => laws_FnExactSecPut.f k K W0 a s) ?_
  simp only [laws_FnExactSecPut.f]
  refine T.ite (fun _ => T.ret rfl) (fun _ => ?_)
  refine T.bind (szSecDisk_T K W0 hw 1048576 (by omega) (by omega)) (fun r hr => ?_)
  refine T.ite (fun _ => T.ret rfl) (fun h => ?_)
  have hK : K.length ≤ 1048576 := by omega
  have hW0 : W0.length ≤ 1048576 := by omega
  have hW : (W0.map toSw).length ≤ 1048576 := by simp; omega
  have hg : (sputB K (W0.map toSw) a s).1.length ≤ 1048577 ∧ (sputB K (W0.map toSw) a s).2.1.length ≤ 1048577 := by
    unfold sputB
    split
    · split
      · exact ⟨by simp only; omega, by simp only [List.length_append, List.length_cons, List.length_nil]; omega⟩
      · exact ⟨by simp only; omega, by simp only; omega⟩
    · simp
  refine T.bind_eq (toSecDisk_T K W0 hK hW0) ?_
  refine T.bind_eq (spec_sput _ _ (by (try simp only); omega) (by (try simp only); omega) a s) ?_
  refine T.bind_eq (toSecDisk_T K W0 hK hW0) ?_
  refine T.bind_eq (impl_sput _ _ (by (try simp only); omega) (by (try simp only); omega) a s) ?_
  refine T.bind (eqSecDisk_T _ _ _ _ (by have := hg.1; (try simp only); omega) (by have := hg.2; (try simp only); omega)) (fun r hr => ?_)
  obtain rfl : r = true := hr.2 ⟨rfl, rfl⟩
  refine T.pos (by simp) ?_
  refine T.succ ?_
  simp only [laws_FnExactSecPut.j0]
  refine T.neg (by simp) ?_
  refine T.bind_eq (toSecDisk_T K W0 hK hW0) ?_
  refine T.bind (eqSecDisk_T _ _ _ _ (by (try simp only); omega) (by (try simp only); omega)) (fun r hr => ?_)
  obtain rfl : r = true := hr.2 ⟨rfl, rfl⟩
  refine T.pos (by simp) ?_
  refine T.bind (markSecDisk_T _ _ (by have := hK; (try simp only); omega) (by have := hW; (try simp only); omega)) (fun m1 hm1 => ?_)
  refine T.neg (by have := hm1.1.1; omega) ?_
  refine T.bind (eqSecDisk_T _ _ _ _ (by have := hg.1; (try simp only); omega) (by have := hg.2; (try simp only); omega)) (fun r hr => ?_)
  obtain rfl : r = true := hr.2 ⟨rfl, rfl⟩
  refine T.pos (by simp) ?_
  refine T.succ ?_
  simp only [laws_FnExactSecPut.j1]
  refine T.neg (by simp) ?_
  refine T.bind (markSecDisk_T _ _ (by have := hg.1; (try simp only); omega) (by have := hg.2; (try simp only); omega)) (fun m2 hm2 => ?_)
  refine T.bind_eq hm2.2 ?_
  refine T.neg (by have := hm2.1.1; omega) ?_
  refine T.pos (by simp) ?_
  refine T.bind_eq (toSecDisk_T K W0 hK hW0) ?_
  refine T.bind_eq (impl_sput _ _ (by (try simp only); omega) (by (try simp only); omega) a s) ?_
  refine T.bind (eqSecDisk_T _ _ _ _ (by have := hg.1; (try simp only); omega) (by have := hg.2; (try simp only); omega)) (fun r hr => ?_)
  obtain rfl : r = true := hr.2 ⟨rfl, rfl⟩
  refine T.pos (by simp) ?_
  refine T.succ ?_
  simp only [laws_FnExactSecPut.j2]
  refine T.neg (by simp) ?_
  refine T.bind_eq hm2.2 ?_
  refine T.neg (by have := hm2.1.1; omega) ?_
  exact T.pos (by simp) (T.ret rfl)
end Go.Proofs.Ythkdhcaojhbfoaa.Pure
