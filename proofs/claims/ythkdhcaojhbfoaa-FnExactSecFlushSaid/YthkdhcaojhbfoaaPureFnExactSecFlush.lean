/-
  The program's SecFlush returns what the reference's returns, for all arguments, in new memory.
  Conditions: those of the pure statement, none beside.
-/
import Derived.Test.YthkdhcaojhbfoaaPx32
import Derived.Test.YthkdhcaojhbfoaaXSec2
import Derived.Test.YthkdhcaojhbfoaaXExSec
namespace Go.Proofs.Ythkdhcaojhbfoaa.Pure
open Go.RowKit Go.Proofs.Ythkdhcaojhbfoaa.P Go.Proofs.YthkdhcaojhbfoaaX Go.Proofs.YthkdhcaojhbfoaaW.PrintWords Go.Proofs.YthkdhcaojhbfoaaW.PrintLast Go.Proofs.YthkdhcaojhbfoaaW.PrintMore
set_option linter.unusedVariables false
set_option linter.unusedSimpArgs false

theorem FnExactSecFlush : laws_FnExactSecFlush.Pure := by
  intro K W0 hw
  refine T.rounds (g := fun k => laws_FnExactSecFlush.f k K W0) ?_
  simp only [laws_FnExactSecFlush.f]
  refine T.bind (szSecDisk_T K W0 hw 1048576 (by omega) (by omega)) (fun r hr => ?_)
  refine T.ite (fun _ => T.ret rfl) (fun h => ?_)
  have hK : K.length ≤ 1048576 := by omega
  have hW0 : W0.length ≤ 1048576 := by omega
  have hW : (W0.map toSw).length ≤ 1048576 := by simp; omega
  have hg : (flushB K (W0.map toSw)).1.length ≤ 1048576 ∧ (flushB K (W0.map toSw)).2.length ≤ 1048576 := by
    unfold flushB
    split
    · exact ⟨by simp only [wr_length]; omega, by simp⟩
    · simp
  refine T.succ ?_
  simp only [laws_FnExactSecFlush.j0]
  refine T.bind_eq (toSecDisk_T K W0 hK hW0) ?_
  refine T.bind_eq (spec_flush _ _) ?_
  refine T.bind_eq (toSecDisk_T K W0 hK hW0) ?_
  refine T.bind_eq (impl_flush _ _ (by (try simp only); omega) (by (try simp only); omega)) ?_
  refine T.bind (eqSecDisk_T _ _ _ _ (by have := hg.1; (try simp only); omega) (by have := hg.2; (try simp only); omega)) (fun r hr => ?_)
  obtain rfl : r = true := hr.2 ⟨rfl, rfl⟩
  refine T.pos (by simp) ?_
  refine T.succ ?_
  simp only [laws_FnExactSecFlush.j1]
  refine T.bind_eq (toSecDisk_T K W0 hK hW0) ?_
  refine T.bind (eqSecDisk_T _ _ _ _ (by (try simp only); omega) (by (try simp only); omega)) (fun r hr => ?_)
  obtain rfl : r = true := hr.2 ⟨rfl, rfl⟩
  refine T.pos (by simp) ?_
  refine T.succ ?_
  simp only [laws_FnExactSecFlush.j2]
  refine T.bind (markSecDisk_T _ _ (by have := hK; (try simp only); omega) (by have := hW; (try simp only); omega)) (fun m1 hm1 => ?_)
  refine T.neg (by have := hm1.1.1; omega) ?_
  refine T.bind (eqSecDisk_T _ _ _ _ (by have := hg.1; (try simp only); omega) (by have := hg.2; (try simp only); omega)) (fun r hr => ?_)
  obtain rfl : r = true := hr.2 ⟨rfl, rfl⟩
  refine T.succ ?_
  simp only [laws_FnExactSecFlush.j3]
  refine T.neg (by simp) ?_
  refine T.succ ?_
  simp only [laws_FnExactSecFlush.j4]
  refine T.bind (markSecDisk_T _ _ (by have := hg.1; (try simp only); omega) (by have := hg.2; (try simp only); omega)) (fun m2 hm2 => ?_)
  refine T.bind_eq hm2.2 ?_
  refine T.neg (by have := hm2.1.1; omega) ?_
  refine T.succ ?_
  simp only [laws_FnExactSecFlush.j5]
  refine T.pos (by simp) ?_
  refine T.succ ?_
  simp only [laws_FnExactSecFlush.j6]
  refine T.bind_eq (toSecDisk_T K W0 hK hW0) ?_
  refine T.bind_eq (impl_flush _ _ (by (try simp only); omega) (by (try simp only); omega)) ?_
  refine T.bind (eqSecDisk_T _ _ _ _ (by have := hg.1; (try simp only); omega) (by have := hg.2; (try simp only); omega)) (fun r hr => ?_)
  obtain rfl : r = true := hr.2 ⟨rfl, rfl⟩
  refine T.pos (by simp) ?_
  refine T.succ ?_
  simp only [laws_FnExactSecFlush.j7]
  refine T.bind_eq hm2.2 ?_
  refine T.neg (by have := hm2.1.1; omega) ?_
  exact T.pos (by simp) (T.ret rfl)
end Go.Proofs.Ythkdhcaojhbfoaa.Pure
