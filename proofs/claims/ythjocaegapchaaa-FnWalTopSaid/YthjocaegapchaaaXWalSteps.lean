/-
  What WalSteps comes to, for the program as for the reference.
  Conditions: lists of at most two millions of elements.
-/
import Derived.Test.YthjocaegapchaaaXWalStepsS
import Derived.Test.YthjocaegapchaaaXSecLookI
import Derived.Test.YthjocaegapchaaaPx10
namespace Go.Proofs.YthjocaegapchaaaX
open Go.RowKit Go.Proofs.Ythjocaegapchaaa.P Go.Proofs.YthjocaegapchaaaW.PrintWords Go.Proofs.YthjocaegapchaaaW.PrintLast Go.Proofs.YthjocaegapchaaaW.PrintMore
set_option linter.unusedVariables false
set_option linter.unusedSimpArgs false

theorem impl_log1 (D : List Sw) (hD : Dok D) (hl : D.length ≤ 250) : ∀ (d i : Nat) (A : List Ss), A.length ≤ i → D.length - i = d → i ≤ D.length →
    T (fun k => impl_WalSteps.l1 k (D.map cm) A (D.map cm) ((D.map cm).length : Int) (i : Int)) (· = (A ++ logs i (D.drop i) ++ signL D.length ++ applyL D, true)) := by
  intro d
  induction d with
  | zero =>
    intro i A hA hd hi
    have ha := applyL_len D
    refine T.succ ?_
    simp only [impl_WalSteps.l1, Option.bind_some, List.length_map]
    refine T.neg (by omega) (T.pos (by simp only [List.length_cons, List.length_nil]; omega) ?_)
    refine T.bind_eq (impl_apply_T D hl (fun x hx => (hD x hx).2) _ (by rw [List.length_append]; simp only [List.length_cons, List.length_nil]; omega)) ?_
    simp only [impl_copied_SecStep.f]
    rw [if_pos (by rw [List.length_append, List.length_append]; simp only [List.length_cons, List.length_nil]; omega)]
    refine T.ret ?_
    rw [List.drop_of_length_le (by omega)]
    simp [logs, signL]
  | succ d ih =>
    intro i A hA hd hi
    have hlt : i < D.length := by omega
    have h1 := hD _ (List.getElem_mem hlt)
    have e : rd_T81 (D.map cm) (i : Int) = cm D[i] := by rw [rdCm _ i (by simpa using hlt), List.getElem_map]
    refine T.succ ?_
    simp only [impl_WalSteps.l1, Option.bind_some, e, wrap_succ hlt (show D.length ≤ 4611686018427387904 by omega), nums_size, List.length_cons, List.length_nil]
    refine T.pos (by rw [List.length_map]; omega) (T.pos (by omega) (T.pos (by rw [List.length_map]; omega) (T.pos (by show _ + D[i].f1.size ≤ _; omega) (T.pos (by omega) ?_))))
    rw [wrap64_id (x := 1 + (i : Int)) (by omega) (by omega), List.drop_eq_getElem_cons hlt]
    have := ih (i + 1) (A ++ [⟨false, 1 + (i : Int), strOfNums [D[i].f0 % 256] ++ D[i].f1⟩]) (by simp; omega) (by omega) (by omega)
    simpa [logs, List.append_assoc, cm] using this
theorem impl_diff_loop (H now : Bs) (hH : H.length = 250) (hN : now.length = 250) : ∀ (d i : Nat) (A : List Sw), A.length ≤ i → Dok A → H.length - i = d → i ≤ H.length →
    T (fun k => impl_WalSteps.l0 k now (A.map cm) H (H.length : Int) (i : Int)) (StepP (diffL (H.drop i) now i) A) := by
  intro d
  induction d with
  | zero =>
    intro i A hA hD hd hi
    refine T.succ ?_
    simp only [impl_WalSteps.l0]
    refine T.neg (by omega) ?_
    rw [List.drop_of_length_le (by omega)]
    refine T.mono (P := (· = finL A)) ?_ (fun r hr => by simpa [StepP, diffL] using hr)
    unfold finL
    refine T.ite (fun h => by rw [if_pos (by simpa using h)]; exact T.ret rfl) (fun h => ?_)
    rw [if_neg (by simpa using h)]
    simpa using impl_log1 A hD (by omega) _ 0 [] (Nat.le_refl _) rfl (Nat.zero_le _)
  | succ d ih =>
    intro i A hA hD hd hi
    have hlt : i < H.length := by omega
    have hn : now.getD i ByteArray.empty = now[i]'(by omega) := getD_nat now i (by omega) _
    refine T.succ ?_
    simp only [impl_WalSteps.l0, rdB H i hlt, rdB now i (by omega), texts_eq, wrap_succ hlt (show H.length ≤ 4611686018427387904 by omega)]
    refine T.pos (by omega) (T.pos (by omega) (T.pos (by omega) ?_))
    rw [List.drop_eq_getElem_cons hlt]
    refine T.ite (fun h => T.ret ?_) (fun h => T.pos (by omega) ?_)
    · unfold StepP; simp only [diffL]; rw [if_pos h]; trivial
    refine T.ite (fun h2 => ?_) (fun h2 => T.pos (by rw [List.length_map]; omega) ?_)
    · exact (ih (i + 1) A (by omega) hD (by omega) (by omega)).mono (fun r hr => StepP.same h (by rw [hn]; exact h2) hr)
    · have := (ih (i + 1) (A ++ [⟨(i : Int), H[i]⟩]) (by simp; omega) (hD.snoc (by omega) h) (by omega) (by omega))
      rw [List.map_append] at this
      exact this.mono (fun r hr => StepP.cons h (by rw [hn]; exact h2) hr)
theorem impl_steps (K : Bs) (W : List Sw) (H : Bs) (hK : K.length ≤ 1048577) (hW : W.length ≤ 1048577) : T (fun k => impl_WalSteps.f k K W H) (· = stepsB K W H) := by
  have bad : ¬ ((wreadB K W).2 = true ∧ H.length = 250 ∧ (lookB K W 0).size = 0) → T (fun k => impl_WalSteps.j0 k H (wreadB K W).1 true) (· = stepsB K W H) := fun h => by
    refine T.succ ?_
    simp only [impl_WalSteps.j0, if_true]
    exact T.ret (by unfold stepsB; rw [if_neg h])
  simp only [impl_WalSteps.f]
  refine T.bind_eq (impl_wread K W hK hW) ?_
  refine T.ite (fun h => ?_) (fun h => bad (fun h1 => h h1.1))
  refine T.bind_eq (impl_look K W hK hW 0) ?_
  simp only [empty_iff]
  refine T.ite (fun h2 => ?_) (fun h2 => bad (fun h1 => h2 h1.2.2))
  by_cases h3 : H.length = 250
  · rw [show ((H.length : Int) != 250) = false by simp [h3]]
    refine T.succ ?_
    simp only [impl_WalSteps.j0]
    refine T.neg (by simp) ?_
    unfold stepsB
    rw [if_pos ⟨h, h3, h2⟩]
    exact (impl_diff_loop H _ h3 (wreadB_250 h) _ 0 [] (Nat.le_refl _) (fun x hx => by cases hx) rfl (Nat.zero_le _)).mono (fun r hr => stepP_fin hr)
  · rw [show ((H.length : Int) != 250) = true by simp; omega]
    exact bad (fun h1 => h3 h1.2.1)
end Go.Proofs.YthjocaegapchaaaX
