/-
  Of disks of sectors, in plain lists: what is read after a write; that a flushed disk waits for nothing and reads the same.
  Conditions: none.
-/
import Derived.Test.YthjocaegapchaaaXSec2
namespace Go.Proofs.YthjocaegapchaaaX
open Go.RowKit Go.Proofs.Ythjocaegapchaaa.P Go.Proofs.YthjocaegapchaaaW.PrintWords Go.Proofs.YthjocaegapchaaaW.PrintLast Go.Proofs.YthjocaegapchaaaW.PrintMore
set_option linter.unusedVariables false
set_option linter.unusedSimpArgs false

theorem lastW_append (a : Nat) (x : Sw) : ∀ (W : List Sw) (v : ByteArray), lastW a v (W ++ [x]) = if x.f0.toNat = a then x.f1 else lastW a v W
  | [], _ => rfl
  | y :: r, v => by
    simp only [List.cons_append, lastW]
    exact lastW_append a x r _
theorem lastW_from (a : Nat) : ∀ (W : List Sw) (v : ByteArray), lastW a v W = v ∨ ∃ x ∈ W, x.f0.toNat = a ∧ lastW a v W = x.f1
  | [], _ => .inl rfl
  | y :: r, v => by
    simp only [lastW]
    rcases lastW_from a r (if y.f0.toNat = a then y.f1 else v) with h | ⟨x, hx, h1, h2⟩
    · by_cases hy : y.f0.toNat = a
      · rw [if_pos hy] at h ⊢
        exact .inr ⟨y, by simp, hy, h⟩
      · rw [if_neg hy] at h ⊢
        exact .inl h
    · exact .inr ⟨x, by simp [hx], h1, h2⟩
theorem wr_small {n : Nat} : ∀ (W : List Sw) (K : Bs), (∀ s ∈ K, small s) → (∀ x ∈ W, goodW n x) → ∀ s ∈ wr K W, small s
  | [], _, hK, _ => hK
  | x :: r, K, hK, hW => by
    rw [wr_cons]
    refine wr_small r _ (fun s hs => ?_) (fun y hy => hW y (by simp [hy]))
    rcases List.mem_or_eq_of_mem_set hs with h | h
    · exact hK s h
    · rw [h]; exact (hW x (by simp)).2
theorem sok_wr {K : Bs} {W V : List Sw} (h : sok K W = true) (hV : ∀ x ∈ V, x ∈ W) : sok (wr K V) [] = true := by
  have h := (sok_iff K W).1 h
  exact (sok_iff _ _).2 ⟨⟨by rw [wr_length]; exact h.1.1, by simp⟩, wr_small V K h.2.1 (fun x hx => h.2.2 x (hV x hx)), fun x hx => by cases hx⟩
theorem look_flushed {K : Bs} {W : List Sw} (h : sok K W = true) (a : Int) : lookB (wr K W) [] a = lookB K W a := by
  have h2 : sok (wr K W) [] = true := sok_wr h (fun _ hx => hx)
  unfold lookB
  rw [h, h2]
  simp only [wr_length, true_and, lastW]
  by_cases ha : 0 ≤ a ∧ a ≤ (K.length : Int) - 1
  · rw [if_pos ha, if_pos ha]
    have hb : a.toNat < K.length := by omega
    rw [List.getD_eq_getElem?_getD, List.getElem?_eq_getElem (by rw [wr_length]; exact hb), List.getD_eq_getElem?_getD, List.getElem?_eq_getElem hb]
    exact wr_at a.toNat W K hb _
  · rw [if_neg ha, if_neg ha]
end Go.Proofs.YthjocaegapchaaaX
