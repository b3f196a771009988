/-
  What WalRead comes to, for the program and the reference alike.
  Conditions: lists of at most two millions of elements.
-/
import Derived.Test.YthjocaegapchaaaXWalLog
import Derived.Test.YthjocaegapchaaaPx4
namespace Go.Proofs.YthjocaegapchaaaX
open Go.RowKit Go.Proofs.Ythjocaegapchaaa.P Go.Proofs.YthjocaegapchaaaW.PrintWords Go.Proofs.YthjocaegapchaaaW.PrintLast Go.Proofs.YthjocaegapchaaaW.PrintMore
set_option linter.unusedVariables false
set_option linter.unusedSimpArgs false

noncomputable def wreadB (K : Bs) (W : List Sw) : Bs × Bool := match logB K W with | some L => (wr ((wr K W).drop 251) L, true) | none => ([], false)
theorem spec_wread_loop (L : List Sw) (hL : L.length ≤ 250) (hg : ∀ x ∈ L, 0 ≤ x.f0 ∧ x.f0 < 250) : ∀ (d i : Nat) (H : Bs), H.length = 250 → L.length - i = d → i ≤ L.length →
    T (fun k => spec_WalRead.l0 k L H (i : Int)) (· = (wr H (L.drop i), true)) := by
  intro d
  induction d with
  | zero =>
    intro i H hH hd hi
    refine T.succ ?_
    simp only [spec_WalRead.l0]
    refine T.neg (by omega) (T.ret ?_)
    rw [List.drop_of_length_le (by omega)]; rfl
  | succ d ih =>
    intro i H hH hd hi
    have hlt : i < L.length := by omega
    have h1 := hg _ (List.getElem_mem hlt)
    refine T.succ ?_
    simp only [spec_WalRead.l0]
    refine T.pos (by omega) (T.pos (by omega) ?_)
    simp only [rdSw L i hlt, wrap_succ hlt (show L.length ≤ 4611686018427387904 by omega)]
    refine T.pos h1.1 (T.pos (by omega) ?_)
    rw [List.drop_eq_getElem_cons hlt, wr_cons]
    exact ih (i + 1) _ (by simpa using hH) (by omega) (by omega)
theorem impl_wread_loop (L : List Sw) (hL : L.length ≤ 250) (hg : ∀ x ∈ L, 0 ≤ x.f0 ∧ x.f0 < 250) : ∀ (d i : Nat) (H : Bs), H.length = 250 → L.length - i = d → i ≤ L.length →
    T (fun k => impl_WalRead.l0 k H (L.map cm) ((L.map cm).length : Int) (i : Int)) (· = (wr H (L.drop i), true)) := by
  intro d
  induction d with
  | zero =>
    intro i H hH hd hi
    refine T.succ ?_
    simp only [impl_WalRead.l0, List.length_map]
    refine T.neg (by omega) (T.ret ?_)
    rw [List.drop_of_length_le (by omega)]; rfl
  | succ d ih =>
    intro i H hH hd hi
    have hlt : i < L.length := by omega
    have h1 := hg _ (List.getElem_mem hlt)
    have e : rd_T81 (L.map cm) (i : Int) = cm L[i] := by rw [rdCm _ i (by simpa using hlt), List.getElem_map]
    refine T.succ ?_
    simp only [impl_WalRead.l0, e, wrap_succ hlt (show L.length ≤ 4611686018427387904 by omega)]
    refine T.pos (by rw [List.length_map]; omega) (T.pos (by omega) (T.pos (by rw [List.length_map]; omega) ?_))
    refine T.pos h1.1 (T.pos (by show L[i].f0 < _; omega) ?_)
    rw [List.drop_eq_getElem_cons hlt, wr_cons]
    exact ih (i + 1) _ (by simpa using hH) (by omega) (by omega)
theorem impl_wread (K : Bs) (W : List Sw) (hK : K.length ≤ 1048577) (hW : W.length ≤ 1048577) : T (fun k => impl_WalRead.f k K W) (· = wreadB K W) := by
  simp only [impl_WalRead.f]
  refine T.bind (impl_log K W hK hW) (fun r hr => ?_)
  unfold wreadB
  cases hL : logB K W with
  | none =>
    rw [hL] at hr
    obtain rfl : r = ([], false) := hr
    exact T.neg (by simp) (T.ret rfl)
  | some L =>
    rw [hL] at hr
    obtain rfl : r = (L.map cm, true) := by simpa [ImplLog] using hr
    obtain ⟨h1, h2, h3, h4, h5⟩ := logB_good hL
    refine T.pos rfl ?_
    refine T.bind_eq (impl_flush K W hK hW) ?_
    have e : flushB K W = (wr K W, []) := by unfold flushB; rw [if_pos h1]
    have hl : (wr K W).length = 501 := by rw [wr_length]; exact h2
    rw [e]
    refine T.pos (by simp only; omega) ?_
    simp only [impl_copied_string.f]
    rw [if_pos (by rw [List.length_drop]; omega)]
    simp only [Option.bind_some]
    exact impl_wread_loop L h4 h5 _ 0 _ (by rw [List.length_drop]; omega) rfl (Nat.zero_le _)
theorem spec_wread (K : Bs) (W : List Sw) (hK : K.length ≤ 1048577) : T (fun k => spec_WalRead.f k K W) (· = wreadB K W) := by
  simp only [spec_WalRead.f]
  refine T.bind_eq (spec_form K W) ?_
  unfold wreadB
  by_cases hf : sok K W = true ∧ K.length = 501
  · refine T.pos (by rw [hf.1, hf.2]; rfl) ?_
    refine T.bind_eq (spec_flush K W) ?_
    have e : flushB K W = (wr K W, []) := by unfold flushB; rw [if_pos hf.1]
    have hl : (wr K W).length = 501 := by rw [wr_length]; exact hf.2
    rw [e]
    refine T.bind (spec_logged _ hl) (fun r hr => ?_)
    have eL : logB K W = logL (wr K W) := by unfold logB; rw [if_pos hf]
    rw [eL]
    cases hL : logL (wr K W) with
    | none =>
      rw [hL] at hr
      have hr : r.2 = false := hr
      exact T.neg (by rw [hr]; simp) (T.ret rfl)
    | some L =>
      rw [hL] at hr
      obtain rfl : r = (L, true) := by simpa [SpecLog] using hr
      have hg := logL_good hL
      refine T.pos rfl ?_
      simp only [Option.bind_some, spec_l2Home.f, show wrap64 (251 + 0) = 251 from by unfold wrap64; omega, List.nil_append, List.length_nil]
      refine T.pos (by omega) (T.pos (by omega) (T.pos (by rw [List.length_drop]; omega) ?_))
      exact spec_wread_loop L hg.1 hg.2 _ 0 _ (by rw [List.length_drop]; omega) rfl (Nat.zero_le _)
  · have eL : logB K W = none := by unfold logB; rw [if_neg hf]
    rw [eL]
    refine T.neg (fun h => hf ?_) (T.ret rfl)
    simp only [Bool.and_eq_true, beq_iff_eq] at h
    exact ⟨h.1, by omega⟩
theorem wreadB_len (K : Bs) (W : List Sw) : (wreadB K W).1.length ≤ 1048576 := by
  unfold wreadB
  cases hL : logB K W with
  | none => simp
  | some L =>
    have := (logB_good hL).2.1
    simp only [wr_length, List.length_drop]; omega
end Go.Proofs.YthjocaegapchaaaX
