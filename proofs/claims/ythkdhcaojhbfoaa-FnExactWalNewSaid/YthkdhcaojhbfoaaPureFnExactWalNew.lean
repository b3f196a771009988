/-
  The program's WalNew returns what the reference's returns, in new memory.
  Conditions: those of the pure statement, none beside.
-/
import Derived.Test.YthkdhcaojhbfoaaPx24
import Derived.Test.YthkdhcaojhbfoaaXIn
import Derived.Test.YthkdhcaojhbfoaaXExSec
namespace Go.Proofs.Ythkdhcaojhbfoaa.Pure
open Go.RowKit Go.Proofs.Ythkdhcaojhbfoaa.P Go.Proofs.YthkdhcaojhbfoaaX Go.Proofs.YthkdhcaojhbfoaaW.PrintWords Go.Proofs.YthkdhcaojhbfoaaW.PrintLast Go.Proofs.YthkdhcaojhbfoaaW.PrintMore
set_option linter.unusedVariables false
set_option linter.unusedSimpArgs false

theorem snew_i (a : Int) : impl_SecNew.f a = some (if 1 ≤ a ∧ a ≤ 512 then List.replicate a.toNat (⟨#[]⟩ : ByteArray) else [], []) := by
  simp only [impl_SecNew.f, in_f, Option.bind_some, decide_eq_true_eq]
  by_cases h : 1 ≤ a ∧ a ≤ 512
  · rw [if_pos h, if_pos (by omega), if_pos (by omega), if_pos h]
  · rw [if_neg h, if_neg h]
theorem snew_s (a : Int) : spec_SecNew.f a = some (if 1 ≤ a ∧ a ≤ 512 then List.replicate a.toNat (⟨#[]⟩ : ByteArray) else [], []) := by
  simp only [spec_SecNew.f, l6In_f, Option.bind_some, decide_eq_true_eq]
  by_cases h : 0 ≤ a ∧ a ≤ 512
  · rw [if_pos h, if_pos (by omega), if_pos (by omega)]
    by_cases h2 : 1 ≤ a
    · rw [if_pos ⟨h2, h.2⟩]
    · rw [if_neg (fun h3 => h2 h3.1), show a = 0 by omega]; rfl
  · rw [if_neg h, if_neg (fun h3 => h ⟨by omega, h3.2⟩)]
theorem FnExactWalNew : laws_FnExactWalNew.Pure := by
  refine T.rounds (g := fun k => laws_FnExactWalNew.f k) ?_
  simp only [laws_FnExactWalNew.f, impl_WalNew.f, spec_WalNew.f, snew_i, snew_s, Option.bind_some]
  have hg : (if 1 ≤ (501 : Int) ∧ (501 : Int) ≤ 512 then List.replicate (501 : Int).toNat (⟨#[]⟩ : ByteArray) else []).length ≤ 1048576 ∧ ([] : List S54).length ≤ 1048576 := by
    refine ⟨?_, by simp⟩
    split
    · rw [List.length_replicate]; decide
    · simp
  refine T.bind (eqSecDisk_T _ _ _ _ (by have := hg.1; (try simp only); omega) (by have := hg.2; (try simp only); omega)) (fun r hr => ?_)
  obtain rfl : r = true := hr.2 ⟨rfl, rfl⟩
  refine T.pos (by simp) ?_
  refine T.succ ?_
  simp only [laws_FnExactWalNew.j0]
  refine T.bind (markSecDisk_T _ _ (by have := hg.1; (try simp only); omega) (by have := hg.2; (try simp only); omega)) (fun m2 hm2 => ?_)
  refine T.bind_eq hm2.2 ?_
  refine T.neg (by have := hm2.1.1; omega) ?_
  refine T.succ ?_
  simp only [laws_FnExactWalNew.j1]
  refine T.pos (by simp) ?_
  refine T.succ ?_
  simp only [laws_FnExactWalNew.j2]
  simp only [impl_WalNew.f, snew_i, Option.bind_some]
  refine T.bind (eqSecDisk_T _ _ _ _ (by have := hg.1; (try simp only); omega) (by have := hg.2; (try simp only); omega)) (fun r hr => ?_)
  obtain rfl : r = true := hr.2 ⟨rfl, rfl⟩
  refine T.pos (by simp) ?_
  refine T.succ ?_
  simp only [laws_FnExactWalNew.j3]
  refine T.bind_eq hm2.2 ?_
  refine T.neg (by have := hm2.1.1; omega) ?_
  exact T.pos (by simp) (T.ret rfl)
end Go.Proofs.Ythkdhcaojhbfoaa.Pure
