/-
  The program's SecCut returns what the reference's returns, for all arguments, in new memory.
  Conditions: those of the pure statement, none beside.
-/
import Derived.Test.YthkdhcaojhbfoaaPx35
import Derived.Test.YthkdhcaojhbfoaaXSecCut
import Derived.Test.YthkdhcaojhbfoaaXExSec
import Derived.Test.YthkdhcaojhbfoaaXExInt
namespace Go.Proofs.Ythkdhcaojhbfoaa.Pure
open Go.RowKit Go.Proofs.Ythkdhcaojhbfoaa.P Go.Proofs.YthkdhcaojhbfoaaX Go.Proofs.YthkdhcaojhbfoaaW.PrintWords Go.Proofs.YthkdhcaojhbfoaaW.PrintLast Go.Proofs.YthkdhcaojhbfoaaW.PrintMore
set_option linter.unusedVariables false
set_option linter.unusedSimpArgs false

theorem FnExactSecCut : laws_FnExactSecCut.Pure := by
  intro K W0 keep hw _
  refine T.rounds (g := fun k => laws_FnExactSecCut.f k K W0 keep) ?_
  simp only [laws_FnExactSecCut.f]
  refine T.ite (fun _ => T.ret rfl) (fun hk => ?_)
  refine T.succ ?_
  simp only [laws_FnExactSecCut.j0]
  refine T.bind (szSecDisk_T K W0 hw 1048576 (by omega) (by omega)) (fun r hr => ?_)
  refine T.ite (fun _ => T.ret rfl) (fun h => ?_)
  have hK : K.length ≤ 1048576 := by omega
  have hW0 : W0.length ≤ 1048576 := by omega
  have hW : (W0.map toSw).length ≤ 1048576 := by simp; omega
  have hg : (cutB K (W0.map toSw) keep).1.length ≤ 1048576 ∧ (cutB K (W0.map toSw) keep).2.length ≤ 1048576 := by
    unfold cutB
    split
    · exact ⟨by simp only [wr_length]; omega, by simp⟩
    · simp
  refine T.succ ?_
  simp only [laws_FnExactSecCut.j1]
  refine T.bind_eq (toSecDisk_T K W0 hK hW0) ?_
  refine T.bind_eq (toIntS_T keep (by omega)) ?_
  refine T.bind_eq (spec_cut _ _ _) ?_
  refine T.bind_eq (toSecDisk_T K W0 hK hW0) ?_
  refine T.bind_eq (toIntS_T keep (by omega)) ?_
  refine T.bind_eq (impl_cut _ _ (by (try simp only); omega) (by (try simp only); omega) _) ?_
  refine T.bind (eqSecDisk_T _ _ _ _ (by have := hg.1; (try simp only); omega) (by have := hg.2; (try simp only); omega)) (fun r hr => ?_)
  obtain rfl : r = true := hr.2 ⟨rfl, rfl⟩
  refine T.pos (by simp) ?_
  refine T.succ ?_
  simp only [laws_FnExactSecCut.j2]
  refine T.bind_eq (toSecDisk_T K W0 hK hW0) ?_
  refine T.bind (eqSecDisk_T _ _ _ _ (by (try simp only); omega) (by (try simp only); omega)) (fun r hr => ?_)
  obtain rfl : r = true := hr.2 ⟨rfl, rfl⟩
  refine T.pos (by simp) ?_
  refine T.succ ?_
  simp only [laws_FnExactSecCut.j3]
  refine T.bind_eq (toIntS_T keep (by omega)) ?_
  refine T.bind (eqIntS_T _ _ (by omega)) (fun r hr => ?_)
  obtain rfl : r = true := hr.2 rfl
  refine T.pos (by simp) ?_
  refine T.succ ?_
  simp only [laws_FnExactSecCut.j4]
  refine T.bind (markSecDisk_T _ _ (by have := hK; (try simp only); omega) (by have := hW; (try simp only); omega)) (fun m1 hm1 => ?_)
  refine T.bind (markIntS_T _ m1.1 (by have := hm1.1; omega) (by have := hm1.1; omega)) (fun m3 hm3 => ?_)
  refine T.neg (by have := hm3.1; have := hm1.1; omega) ?_
  refine T.bind (eqSecDisk_T _ _ _ _ (by have := hg.1; (try simp only); omega) (by have := hg.2; (try simp only); omega)) (fun r hr => ?_)
  obtain rfl : r = true := hr.2 ⟨rfl, rfl⟩
  refine T.succ ?_
  simp only [laws_FnExactSecCut.j5]
  refine T.neg (by simp) ?_
  refine T.succ ?_
  simp only [laws_FnExactSecCut.j6]
  refine T.bind (markSecDisk_T _ _ (by have := hg.1; (try simp only); omega) (by have := hg.2; (try simp only); omega)) (fun m2 hm2 => ?_)
  refine T.bind_eq hm2.2 ?_
  refine T.neg (by have := hm2.1.1; omega) ?_
  refine T.succ ?_
  simp only [laws_FnExactSecCut.j7]
  refine T.pos (by simp) ?_
  refine T.succ ?_
  simp only [laws_FnExactSecCut.j8]
  refine T.bind_eq (toSecDisk_T K W0 hK hW0) ?_
  refine T.bind_eq (toIntS_T keep (by omega)) ?_
  refine T.bind_eq (impl_cut _ _ (by (try simp only); omega) (by (try simp only); omega) _) ?_
  refine T.bind (eqSecDisk_T _ _ _ _ (by have := hg.1; (try simp only); omega) (by have := hg.2; (try simp only); omega)) (fun r hr => ?_)
  obtain rfl : r = true := hr.2 ⟨rfl, rfl⟩
  refine T.pos (by simp) ?_
  refine T.succ ?_
  simp only [laws_FnExactSecCut.j9]
  refine T.bind_eq hm2.2 ?_
  refine T.neg (by have := hm2.1.1; omega) ?_
  exact T.pos (by simp) (T.ret rfl)
end Go.Proofs.Ythkdhcaojhbfoaa.Pure
