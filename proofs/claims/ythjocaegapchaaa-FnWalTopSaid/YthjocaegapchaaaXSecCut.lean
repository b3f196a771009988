/-
  What SecCut comes to, for the program and the reference alike.
  Conditions: lists of at most two millions of elements.
-/
import Derived.Test.YthjocaegapchaaaXSec2
import Derived.Test.YthjocaegapchaaaPx7
namespace Go.Proofs.YthjocaegapchaaaX
open Go.RowKit Go.Proofs.Ythjocaegapchaaa.P Go.Proofs.YthjocaegapchaaaW.PrintWords Go.Proofs.YthjocaegapchaaaW.PrintLast Go.Proofs.YthjocaegapchaaaW.PrintMore
set_option linter.unusedVariables false
set_option linter.unusedSimpArgs false

/-- Of writes those that are kept. -/
def keptW (keep : List Int) : Nat → List Sw → List Sw
  | _, [] => []
  | i, x :: r => if (i : Int) < (keep.length : Int) ∧ ¬ rd keep (i : Int) = 0 then x :: keptW keep (i + 1) r else keptW keep (i + 1) r
noncomputable def cutB (K : Bs) (W : List Sw) (keep : List Int) : Bs × List Sw := if sok K W = true then (wr K (keptW keep 0 W), []) else ([], [])
theorem impl_cut_loop (keep : List Int) (n : Nat) (W : List Sw) (hn : n ≤ 512) (hW : W.length ≤ 600) (hg : ∀ x ∈ W, goodW n x) : ∀ (d i : Nat) (K : Bs), K.length = n → W.length - i = d → i ≤ W.length →
    T (fun k => impl_SecCut.l0 k keep W (W.length : Int) (i : Int) K) (· = (wr K (keptW keep i (W.drop i)), [])) := by
  intro d
  induction d with
  | zero =>
    intro i K hK hd hi
    refine T.succ ?_
    simp only [impl_SecCut.l0]
    refine T.neg (by omega) (T.ret ?_)
    rw [List.drop_of_length_le (by omega)]; rfl
  | succ d ih =>
    intro i K hK hd hi
    have hlt : i < W.length := by omega
    have h1 := (hg _ (List.getElem_mem hlt)).1
    refine T.succ ?_
    simp only [impl_SecCut.l0]
    refine T.pos (by omega) (T.pos (by omega) (T.pos (by omega) ?_))
    simp only [rdSw W i hlt, wrap_succ hlt (show W.length ≤ 4611686018427387904 by omega)]
    rw [List.drop_eq_getElem_cons hlt]
    simp only [keptW]
    refine T.ite (fun h => ?_) (fun h => ?_)
    · refine T.ite (fun h2 => ?_) (fun h2 => ?_)
      · rw [if_neg (fun h3 => h3.2 h2)]; exact ih (i + 1) _ hK (by omega) (by omega)
      · rw [if_pos ⟨h, h2⟩, wr_cons]
        refine T.pos h1.1 (T.pos (by omega) ?_)
        exact ih (i + 1) _ (by simpa using hK) (by omega) (by omega)
    · rw [if_neg (fun h3 => h h3.1)]; exact ih (i + 1) _ hK (by omega) (by omega)
theorem impl_cut (K : Bs) (W : List Sw) (hK : K.length ≤ 1048577) (hW : W.length ≤ 1048577) (keep : List Int) : T (fun k => impl_SecCut.f k K W keep) (· = cutB K W keep) := by
  simp only [impl_SecCut.f, impl_copied_string.f]
  refine T.bind_eq (impl_sok K W (by omega) (by omega)) ?_
  unfold cutB
  refine T.ite (fun h => ?_) (fun h => ?_)
  · have hs := (sok_iff K W).1 h
    rw [if_pos h, if_pos (by omega)]
    exact impl_cut_loop keep K.length W hs.1.1 hs.1.2 hs.2.2 _ 0 K rfl rfl (Nat.zero_le _)
  · rw [if_neg h]; exact T.ret rfl
theorem wr_append (K : Bs) (A B : List Sw) : wr K (A ++ B) = wr (wr K A) B := by simp [wr]
theorem spec_cut_loop (keep : List Int) (K : Bs) (W : List Sw) (hk : ∀ s ∈ K, small s) (hn : K.length ≤ 512) (hW : W.length ≤ 600) (hg : ∀ x ∈ W, goodW K.length x) : ∀ (d i : Nat) (A : List Sw), A.length ≤ i → (∀ x ∈ A, goodW K.length x) → W.length - i = d → i ≤ W.length →
    T (fun k => spec_SecCut.l0 k keep (i : Int) K W K A) (· = (wr K (A ++ keptW keep i (W.drop i)), [])) := by
  intro d
  induction d with
  | zero =>
    intro i A hA hAg hd hi
    refine T.succ ?_
    simp only [spec_SecCut.l0]
    refine T.neg (by omega) ?_
    refine T.bind_eq (spec_flush K A) (T.ret ?_)
    unfold flushB
    rw [if_pos ((sok_iff K A).2 ⟨⟨hn, by omega⟩, hk, hAg⟩), List.drop_of_length_le (by omega)]
    simp only [keptW, List.append_nil]
  | succ d ih =>
    intro i A hA hAg hd hi
    have hlt : i < W.length := by omega
    have h1 := hg _ (List.getElem_mem hlt)
    refine T.succ ?_
    simp only [spec_SecCut.l0]
    refine T.pos (by omega) ?_
    simp only [rdSw W i hlt, wrap_succ hlt (show W.length ≤ 4611686018427387904 by omega)]
    rw [List.drop_eq_getElem_cons hlt]
    simp only [keptW]
    refine T.ite (fun h => ?_) (fun h => ?_)
    · refine T.pos (by omega) ?_
      refine T.ite (fun h2 => ?_) (fun h2 => ?_)
      · rw [if_neg (fun h3 => h3.2 h2)]; exact ih (i + 1) _ (by omega) hAg (by omega) (by omega)
      · rw [if_pos ⟨h, h2⟩]
        refine T.pos (by omega) ?_
        have := ih (i + 1) (A ++ [W[i]]) (by simp; omega) (fun x hx => by
          rcases List.mem_append.1 hx with hx | hx
          · exact hAg x hx
          · rw [List.mem_singleton.1 hx]; exact h1) (by omega) (by omega)
        rwa [List.append_assoc] at this
    · rw [if_neg (fun h3 => h h3.1)]; exact ih (i + 1) _ (by omega) hAg (by omega) (by omega)
theorem spec_cut (K : Bs) (W : List Sw) (keep : List Int) : T (fun k => spec_SecCut.f k K W keep) (· = cutB K W keep) := by
  simp only [spec_SecCut.f]
  refine T.bind_eq (spec_sok K W) ?_
  unfold cutB
  refine T.ite (fun h => ?_) (fun h => ?_)
  · have hs := (sok_iff K W).1 h
    rw [if_pos h]
    exact spec_cut_loop keep K W hs.2.1 hs.1.1 hs.1.2 hs.2.2 _ 0 [] (Nat.le_refl _) (fun x hx => by cases hx) rfl (Nat.zero_le _)
  · rw [if_neg h]; exact T.ret rfl
end Go.Proofs.YthjocaegapchaaaX
