/-
  What WalMend comes to, for the program and the reference alike.
  Conditions: lists of at most two millions of elements.
-/
import Derived.Test.YthjocaegapchaaaXWalApply
import Derived.Test.YthjocaegapchaaaXSecLookI
import Derived.Test.YthjocaegapchaaaPx13
import Derived.Test.YthjocaegapchaaaPx17
namespace Go.Proofs.YthjocaegapchaaaX
open Go.RowKit Go.Proofs.Ythjocaegapchaaa.P Go.Proofs.YthjocaegapchaaaW.PrintWords Go.Proofs.YthjocaegapchaaaW.PrintLast Go.Proofs.YthjocaegapchaaaW.PrintMore
set_option linter.unusedVariables false
set_option linter.unusedSimpArgs false

noncomputable def mendB (K : Bs) (W : List Sw) : List Ss × Bool := match logB K W with
  | some L => if ((wr K W).getD 0 ByteArray.empty).size = 0 then ([], true) else (applyL L, true)
  | none => ([], false)
theorem look0 {K : Bs} {W : List Sw} (h : sok K W = true) (hl : K.length = 501) : lookB K W 0 = (wr K W).getD 0 ByteArray.empty := by
  unfold lookB
  rw [if_pos ⟨h, by omega, by omega⟩]
  have h0 : 0 < K.length := by omega
  have h1 : 0 < (wr K W).length := by rw [wr_length]; exact h0
  show lastW 0 (K.getD 0 ByteArray.empty) W = (wr K W).getD 0 ByteArray.empty
  rw [show K.getD 0 ByteArray.empty = K[0] from getD_nat K 0 h0 _, show (wr K W).getD 0 ByteArray.empty = (wr K W)[0] from getD_nat (wr K W) 0 h1 _]
  exact (wr_at 0 W K h0 h1).symm
theorem impl_mend (K : Bs) (W : List Sw) (hK : K.length ≤ 1048577) (hW : W.length ≤ 1048577) : T (fun k => impl_WalMend.f k K W) (· = mendB K W) := by
  simp only [impl_WalMend.f]
  refine T.bind (impl_log K W hK hW) (fun r hr => ?_)
  unfold mendB
  cases hL : logB K W with
  | none =>
    rw [hL] at hr
    obtain rfl : r = ([], false) := hr
    exact T.neg (by simp) (T.ret rfl)
  | some L =>
    rw [hL] at hr
    obtain rfl : r = (L.map cm, true) := by simpa [ImplLog] using hr
    obtain ⟨h1, h2, h3, h4, h5⟩ := logB_good hL
    refine T.pos rfl ?_
    refine T.bind_eq (impl_look K W hK hW 0) ?_
    rw [look0 h1 h2]
    simp only [empty_iff]
    refine T.ite (fun h => by rw [if_pos h]; exact T.ret rfl) (fun h => ?_)
    rw [if_neg h]
    refine T.bind_eq (impl_apply_T L h4 h5 [] (by simp)) ?_
    have := applyL_len L
    simp only [impl_copied_SecStep.f, List.nil_append]
    rw [if_pos (by omega)]
    exact T.ret rfl
theorem spec_mend (K : Bs) (W : List Sw) (hK : K.length ≤ 1048577) : T (fun k => spec_WalMend.f k K W) (· = mendB K W) := by
  simp only [spec_WalMend.f, Option.bind_some]
  refine T.bind_eq (spec_form K W) ?_
  unfold mendB
  by_cases hf : sok K W = true ∧ K.length = 501
  · refine T.pos (by rw [hf.1, hf.2]; rfl) ?_
    refine T.bind_eq (spec_flush K W) ?_
    have e : flushB K W = (wr K W, []) := by unfold flushB; rw [if_pos hf.1]
    have hl : (wr K W).length = 501 := by rw [wr_length]; exact hf.2
    rw [e]
    refine T.bind (spec_logged _ hl) (fun r hr => ?_)
    have eL : logB K W = logL (wr K W) := by unfold logB; rw [if_pos hf]
    rw [eL]
    cases hL : logL (wr K W) with
    | none =>
      rw [hL] at hr
      have hr : r.2 = false := hr
      exact T.neg (by rw [hr]; simp) (T.ret (by rw [hr]))
    | some L =>
      rw [hL] at hr
      obtain rfl : r = (L, true) := by simpa [SpecLog] using hr
      have hg := logL_good hL
      refine T.pos rfl (T.pos (by simp only; omega) ?_)
      have e0 : rdOf ByteArray.empty (wr K W) 0 = (wr K W).getD 0 ByteArray.empty := rfl
      simp only [e0, empty_iff]
      refine T.ite (fun h => by rw [if_pos h]; exact T.ret rfl) (fun h => ?_)
      rw [if_neg h]
      exact T.bind_eq (spec_apply_T L hg.1 hg.2) (T.ret rfl)
  · have eL : logB K W = none := by unfold logB; rw [if_neg hf]
    rw [eL]
    refine T.neg (fun h => hf ?_) (T.ret rfl)
    simp only [Bool.and_eq_true, beq_iff_eq] at h
    exact ⟨h.1, by omega⟩
theorem mendB_len (K : Bs) (W : List Sw) : (mendB K W).1.length ≤ 1048576 := by
  unfold mendB
  cases hL : logB K W with
  | none => simp
  | some L =>
    have := (logB_good hL).2.2.2.1
    have := applyL_len L
    simp only
    split
    · simp
    · simp only; omega
end Go.Proofs.YthjocaegapchaaaX
