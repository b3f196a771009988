/-
  The program's WalSteps returns what the reference's returns, for all arguments, in new memory.
  Conditions: those of the pure statement, none beside.
-/
import Derived.Test.YthjocaegapchaaaPx25
import Derived.Test.YthjocaegapchaaaXWalSteps
import Derived.Test.YthjocaegapchaaaXExSec0
import Derived.Test.YthjocaegapchaaaXExStep
namespace Go.Proofs.Ythjocaegapchaaa.Pure
open Go.RowKit Go.Proofs.Ythjocaegapchaaa.P Go.Proofs.YthjocaegapchaaaX Go.Proofs.YthjocaegapchaaaW.PrintWords Go.Proofs.YthjocaegapchaaaW.PrintLast Go.Proofs.YthjocaegapchaaaW.PrintMore
set_option linter.unusedVariables false
set_option linter.unusedSimpArgs false

theorem FnExactWalSteps : laws_FnExactWalSteps.Pure := by
  intro K W0 H hw hv
  refine T.rounds (g := fun k => laws_FnExactWalSteps.f k K W0 H) ?_
  simp only [laws_FnExactWalSteps.f]
  refine T.bind (szSecDisk_T K W0 hw 1048576 (by omega) (by omega)) (fun r hr => ?_)
  refine T.ite (fun _ => T.ret rfl) (fun h => ?_)
  have hK : K.length ≤ 1048576 := by omega
  have hW0 : W0.length ≤ 1048576 := by omega
  have hW : (W0.map toSw).length ≤ 1048576 := by simp; omega
  refine T.bind (szString_T H hv.1 hv.2 r (by omega) (by omega)) (fun r2 hr2 => ?_)
  refine T.ite (fun _ => T.ret rfl) (fun h2 => ?_)
  have hH : H.length ≤ 1048576 := by omega
  have hg := stepsB_len K (W0.map toSw) H
  refine T.bind_eq (toSecDisk_T K W0 hK hW0) ?_
  refine T.bind_eq (toStringS_T H hH) ?_
  refine T.bind_eq (spec_steps _ _ _ (by (try simp only); omega)) ?_
  refine T.bind_eq (toSecDisk_T K W0 hK hW0) ?_
  refine T.bind_eq (toStringS_T H hH) ?_
  refine T.bind_eq (impl_steps _ _ _ (by (try simp only); omega) (by (try simp only); omega)) ?_
  refine T.bind (eqSsS_T _ _ (by have := hg; (try simp only); omega)) (fun r hr => ?_)
  obtain rfl : r = true := hr.2 rfl
  refine T.pos (by simp) ?_
  refine T.succ ?_
  simp only [laws_FnExactWalSteps.j0]
  refine T.neg (by simp) ?_
  refine T.bind_eq (toSecDisk_T K W0 hK hW0) ?_
  refine T.bind (eqSecDisk_T _ _ _ _ (by (try simp only); omega) (by (try simp only); omega)) (fun r hr => ?_)
  obtain rfl : r = true := hr.2 ⟨rfl, rfl⟩
  refine T.pos (by simp) ?_
  refine T.bind_eq (toStringS_T H hH) ?_
  refine T.bind (eqStringS_T _ _ (by omega)) (fun r hr => ?_)
  obtain rfl : r = true := hr.2 rfl
  refine T.pos (by simp) ?_
  refine T.bind (markSecDiskA_T _ _ (by have := hK; (try simp only); omega) (by have := hW; (try simp only); omega)) (fun m1 hm1 => ?_)
  refine T.bind (markTx_T H m1.1 (by have := hm1.1.1; omega) (by have := hm1.1.2; omega)) (fun m3 hm3 => ?_)
  refine T.neg (by have := hm3.1; have := hm1.1.1; omega) ?_
  refine T.bind (eqSsS_T _ _ (by have := hg; (try simp only); omega)) (fun r hr => ?_)
  obtain rfl : r = true := hr.2 rfl
  refine T.pos (by simp) ?_
  refine T.succ ?_
  simp only [laws_FnExactWalSteps.j1]
  refine T.neg (by simp) ?_
  refine T.bind (markSsS_T _ (by have := hg; (try simp only); omega)) (fun m2 hm2 => ?_)
  refine T.bind_eq hm2.2 ?_
  refine T.neg (by have := hm2.1; omega) ?_
  refine T.pos (by simp) ?_
  refine T.bind_eq (toSecDisk_T K W0 hK hW0) ?_
  refine T.bind_eq (toStringS_T H hH) ?_
  refine T.bind_eq (impl_steps _ _ _ (by (try simp only); omega) (by (try simp only); omega)) ?_
  refine T.bind (eqSsS_T _ _ (by have := hg; (try simp only); omega)) (fun r hr => ?_)
  obtain rfl : r = true := hr.2 rfl
  refine T.pos (by simp) ?_
  refine T.succ ?_
  simp only [laws_FnExactWalSteps.j2]
  refine T.neg (by simp) ?_
  refine T.bind_eq hm2.2 ?_
  refine T.neg (by have := hm2.1; omega) ?_
  exact T.pos (by simp) (T.ret rfl)
end Go.Proofs.Ythjocaegapchaaa.Pure
