/-
  What WalDo leaves right: a disk that is ok stays ok, and keeps its length; how many writes may wait.
  Conditions: none.
-/
import Derived.Test.YthjocaegapchaaaXWalDo
import Derived.Test.YthjocaegapchaaaXWalStepsS
import Derived.Test.YthjocaegapchaaaXSecLaw
namespace Go.Proofs.YthjocaegapchaaaX
open Go.RowKit Go.Proofs.Ythjocaegapchaaa.P Go.Proofs.YthjocaegapchaaaW.PrintWords Go.Proofs.YthjocaegapchaaaW.PrintLast Go.Proofs.YthjocaegapchaaaW.PrintMore
set_option linter.unusedVariables false
set_option linter.unusedSimpArgs false

theorem keptW_sub (keep : List Int) : ∀ (W : List Sw) (i : Nat) (x : Sw), x ∈ keptW keep i W → x ∈ W
  | [], _, _, h => by cases h
  | y :: r, i, x, h => by
    simp only [keptW] at h
    split at h
    · rcases List.mem_cons.1 h with h | h
      · simp [h]
      · simp [keptW_sub keep r _ x h]
    · simp [keptW_sub keep r _ x h]
/-- Ok, of this length, with at most so many writes that wait. -/
def Inv (n m : Nat) (d : Bs × List Sw) : Prop := sok d.1 d.2 = true ∧ d.1.length = n ∧ d.2.length ≤ m
theorem inv_cut {n m : Nat} {K : Bs} {W : List Sw} (h : Inv n m (K, W)) (keep : List Int) : Inv n 0 (cutB K W keep) := by
  unfold cutB
  rw [if_pos h.1]
  exact ⟨sok_wr h.1 (fun x hx => keptW_sub keep W 0 x hx), by rw [wr_length]; exact h.2.1, by simp⟩
theorem inv_flush {n m : Nat} {K : Bs} {W : List Sw} (h : Inv n m (K, W)) : Inv n 0 (flushB K W) := by
  unfold flushB
  rw [if_pos h.1]
  exact ⟨sok_wr h.1 (fun _ hx => hx), by rw [wr_length]; exact h.2.1, by simp⟩
theorem inv_put {n m : Nat} {K : Bs} {W : List Sw} (h : Inv n m (K, W)) (a : Int) (s : ByteArray) : Inv n (m + 1) ((sputB K W a s).1, (sputB K W a s).2.1) := by
  have h2 := h.2.2
  unfold sputB
  rw [if_pos h.1]
  split
  · next h3 => exact ⟨h3, h.2.1, by simp only [List.length_append, List.length_cons, List.length_nil] at h2 ⊢; omega⟩
  · exact ⟨h.1, h.2.1, by simp only at h2 ⊢; omega⟩
theorem inv_le {n m m' : Nat} {d : Bs × List Sw} (h : Inv n m d) (hm : m ≤ m') : Inv n m' d := ⟨h.1, h.2.1, Nat.le_trans h.2.2 hm⟩
theorem inv_run (cut : Bool) (after : Int) (keep : List Int) {n : Nat} : ∀ (S : List Stp) (i m : Nat) (K : Bs) (W : List Sw), Inv n m (K, W) → Inv n (m + S.length) (runB cut after keep S i K W)
  | [], i, m, K, W, h => by
    simp only [runB]
    split
    · exact inv_le (inv_cut h keep) (by omega)
    · exact inv_le h (by omega)
  | x :: r, i, m, K, W, h => by
    simp only [runB]
    split
    · exact inv_le (inv_cut h keep) (by omega)
    · split
      · exact inv_le (inv_run cut after keep r _ 0 _ _ (inv_flush h)) (by simp only [List.length_cons]; omega)
      · exact inv_le (inv_run cut after keep r _ (m + 1) _ _ (inv_put h _ _)) (by simp; omega)
theorem inv_do {n m : Nat} {K : Bs} {W : List Sw} (h : Inv n m (K, W)) (S : List Stp) (hS : S.length ≤ 600) (cut : Bool) (after : Int) (keep : List Int) : Inv n (m + S.length) (doB K W S cut after keep) := by
  unfold doB
  rw [if_pos ⟨h.1, hS⟩]
  exact inv_run cut after keep S 0 m K W h
/-- In how many places homes differ. -/
noncomputable def cntL : Bs → Bs → Nat → Nat
  | [], _, _ => 0
  | s :: r, now, i => (open Classical in if s = now.getD i ByteArray.empty then 0 else 1) + cntL r now (i + 1)
theorem diffL_cnt : ∀ (H now : Bs) (i : Nat) (D : List Sw), diffL H now i = some D → D.length ≤ cntL H now i
  | [], now, i, D, h => by simp only [diffL, Option.some.injEq] at h; subst h; simp
  | s :: r, now, i, D, h => by
    simp only [diffL] at h
    simp only [cntL]
    split at h
    · cases h
    · split at h
      · next he =>
        have := diffL_cnt r now (i + 1) D h
        rw [if_pos he]; omega
      · next he =>
        cases hr : diffL r now (i + 1) with
        | none => rw [hr] at h; cases h
        | some M =>
          rw [hr] at h
          simp only [Option.map_some, Option.some.injEq] at h
          subst h
          have := diffL_cnt r now (i + 1) M hr
          rw [if_neg he, List.length_cons]; omega
theorem cntL_set (now : Bs) (s : ByteArray) : ∀ (H : Bs) (i j : Nat), cntL (H.set j s) now i ≤ cntL H now i + 1
  | [], i, j => by simp
  | x :: r, i, 0 => by
    simp only [List.set_cons_zero, cntL]
    split <;> split <;> omega
  | x :: r, i, j + 1 => by
    have := cntL_set now s r (i + 1) j
    simp only [List.set_cons_succ, cntL]
    omega
theorem cntL_same (now : Bs) : ∀ (d i : Nat), now.length - i = d → cntL (now.drop i) now i = 0
  | 0, i, h => by rw [List.drop_of_length_le (by omega)]; rfl
  | d + 1, i, h => by
    have hlt : i < now.length := by omega
    rw [List.drop_eq_getElem_cons hlt]
    simp only [cntL]
    rw [if_pos (by rw [show now.getD i ByteArray.empty = now[i] from getD_nat now i hlt _]), cntL_same now d (i + 1) (by omega)]
theorem stepsB_few (K : Bs) (W : List Sw) (H : Bs) (n : Nat) (h : cntL H (wreadB K W).1 0 ≤ n) : (stepsB K W H).1.length ≤ 2 * n + 6 := by
  unfold stepsB
  split
  · cases hd : diffL H (wreadB K W).1 0 with
    | none => simp
    | some D =>
      have h1 := diffL_cnt _ _ _ _ hd
      have h2 := applyL_len D
      have h3 := logs_len D 0
      simp only [finL]
      split
      · simp
      · simp only [List.length_append, signL, List.length_cons, List.length_nil]; omega
  · simp
end Go.Proofs.YthjocaegapchaaaX
