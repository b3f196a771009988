/-
  The program's WalDo returns what the reference's returns, for all arguments, in new memory.
  Conditions: those of the pure statement, none beside.
-/
import Derived.Test.YthjocaegapchaaaPx28
import Derived.Test.YthjocaegapchaaaXWalDo
import Derived.Test.YthjocaegapchaaaXExSec
import Derived.Test.YthjocaegapchaaaXExStepTo
import Derived.Test.YthjocaegapchaaaXExInt
namespace Go.Proofs.Ythjocaegapchaaa.Pure
open Go.RowKit Go.Proofs.Ythjocaegapchaaa.P Go.Proofs.YthjocaegapchaaaX Go.Proofs.YthjocaegapchaaaW.PrintWords Go.Proofs.YthjocaegapchaaaW.PrintLast Go.Proofs.YthjocaegapchaaaW.PrintMore
set_option linter.unusedVariables false
set_option linter.unusedSimpArgs false

theorem FnExactWalDo : laws_FnExactWalDo.Pure := by
  intro K W0 S0 cut after keep hw hv _ _
  refine T.rounds (g := fun k => laws_FnExactWalDo.f k K W0 S0 cut after keep) ?_
  simp only [laws_FnExactWalDo.f]
  refine T.ite (fun _ => T.ret rfl) (fun hk => ?_)
  refine T.succ ?_
  simp only [laws_FnExactWalDo.j0]
  refine T.bind (szSecDisk_T K W0 hw 1048576 (by omega) (by omega)) (fun r hr => ?_)
  refine T.ite (fun _ => T.ret rfl) (fun h => ?_)
  have hK : K.length ≤ 1048576 := by omega
  have hW0 : W0.length ≤ 1048576 := by omega
  have hW : (W0.map toSw).length ≤ 1048576 := by simp; omega
  refine T.succ ?_
  simp only [laws_FnExactWalDo.j1]
  refine T.bind (szSs_T S0 hv.1 (fun x hx => (hv.2 x hx).2.2) r (by omega) (by omega)) (fun r2 hr2 => ?_)
  refine T.ite (fun _ => T.ret rfl) (fun h2 => ?_)
  have hS0 : S0.length ≤ 1048576 := by omega
  have hS : (S0.map toSs).length ≤ 1048576 := by simp; omega
  have hg := doB_few K (W0.map toSw) (S0.map toSs) cut after keep
  refine T.succ ?_
  simp only [laws_FnExactWalDo.j2]
  refine T.bind_eq (toSecDisk_T K W0 hK hW0) ?_
  refine T.bind_eq (toSsS_T S0 hS0) ?_
  refine T.bind_eq (toIntS_T keep (by omega)) ?_
  refine T.bind_eq (spec_do _ _ _ _ _ _) ?_
  refine T.bind_eq (toSecDisk_T K W0 hK hW0) ?_
  refine T.bind_eq (toSsS_T S0 hS0) ?_
  refine T.bind_eq (toIntS_T keep (by omega)) ?_
  refine T.bind_eq (impl_do _ _ _ (by (try simp only); omega) (by (try simp only); omega) _ _ _) ?_
  refine T.bind (eqSecDisk_T _ _ _ _ (by have := hg.1; (try simp only); omega) (by have := hg.2; (try simp only); omega)) (fun r hr => ?_)
  obtain rfl : r = true := hr.2 ⟨rfl, rfl⟩
  refine T.pos (by simp) ?_
  refine T.succ ?_
  simp only [laws_FnExactWalDo.j3]
  refine T.bind_eq (toSecDisk_T K W0 hK hW0) ?_
  refine T.bind (eqSecDisk_T _ _ _ _ (by (try simp only); omega) (by (try simp only); omega)) (fun r hr => ?_)
  obtain rfl : r = true := hr.2 ⟨rfl, rfl⟩
  refine T.pos (by simp) ?_
  refine T.succ ?_
  simp only [laws_FnExactWalDo.j4]
  refine T.bind_eq (toSsS_T S0 hS0) ?_
  refine T.bind (eqSsS_T _ _ (by omega)) (fun r hr => ?_)
  obtain rfl : r = true := hr.2 rfl
  refine T.pos (by simp) ?_
  refine T.succ ?_
  simp only [laws_FnExactWalDo.j5]
  refine T.bind_eq (toIntS_T keep (by omega)) ?_
  refine T.bind (eqIntS_T _ _ (by omega)) (fun r hr => ?_)
  obtain rfl : r = true := hr.2 rfl
  refine T.pos (by simp) ?_
  refine T.succ ?_
  simp only [laws_FnExactWalDo.j6]
  refine T.bind (markSecDisk_T _ _ (by have := hK; (try simp only); omega) (by have := hW; (try simp only); omega)) (fun m1 hm1 => ?_)
  refine T.bind (markSsA_T _ m1.1 (by have := hm1.1; omega) (by have := hm1.1; omega)) (fun m4 hm4 => ?_)
  refine T.bind (markIntS_T _ m4.1 (by have := hm1.1; omega) (by have := hm1.1; omega)) (fun m3 hm3 => ?_)
  refine T.neg (by have := hm3.1; have := hm1.1; omega) ?_
  refine T.bind (eqSecDisk_T _ _ _ _ (by have := hg.1; (try simp only); omega) (by have := hg.2; (try simp only); omega)) (fun r hr => ?_)
  obtain rfl : r = true := hr.2 ⟨rfl, rfl⟩
  refine T.succ ?_
  simp only [laws_FnExactWalDo.j7]
  refine T.neg (by simp) ?_
  refine T.succ ?_
  simp only [laws_FnExactWalDo.j8]
  refine T.bind (markSecDisk_T _ _ (by have := hg.1; (try simp only); omega) (by have := hg.2; (try simp only); omega)) (fun m2 hm2 => ?_)
  refine T.bind_eq hm2.2 ?_
  refine T.neg (by have := hm2.1.1; omega) ?_
  refine T.succ ?_
  simp only [laws_FnExactWalDo.j9]
  refine T.pos (by simp) ?_
  refine T.succ ?_
  simp only [laws_FnExactWalDo.j10]
  refine T.bind_eq (toSecDisk_T K W0 hK hW0) ?_
  refine T.bind_eq (toSsS_T S0 hS0) ?_
  refine T.bind_eq (toIntS_T keep (by omega)) ?_
  refine T.bind_eq (impl_do _ _ _ (by (try simp only); omega) (by (try simp only); omega) _ _ _) ?_
  refine T.bind (eqSecDisk_T _ _ _ _ (by have := hg.1; (try simp only); omega) (by have := hg.2; (try simp only); omega)) (fun r hr => ?_)
  obtain rfl : r = true := hr.2 ⟨rfl, rfl⟩
  refine T.pos (by simp) ?_
  refine T.succ ?_
  simp only [laws_FnExactWalDo.j11]
  refine T.bind_eq hm2.2 ?_
  refine T.neg (by have := hm2.1.1; omega) ?_
  exact T.pos (by simp) (T.ret rfl)
end Go.Proofs.Ythjocaegapchaaa.Pure
