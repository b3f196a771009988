/-
  What the steps are that bring a log home, for the program and the reference alike.
  Conditions: at most 250 entries.
-/
import Derived.Test.YthjocaegapchaaaXWalLog
import Derived.Test.YthjocaegapchaaaPx5
namespace Go.Proofs.YthjocaegapchaaaX
open Go.RowKit Go.Proofs.Ythjocaegapchaaa.P Go.Proofs.YthjocaegapchaaaW.PrintWords Go.Proofs.YthjocaegapchaaaW.PrintLast Go.Proofs.YthjocaegapchaaaW.PrintMore
set_option linter.unusedVariables false
set_option linter.unusedSimpArgs false

abbrev Ss := S61
def home (x : Sw) : Ss := ⟨false, 251 + x.f0, x.f1⟩
def tailS : List Ss := [⟨true, 0, ⟨#[]⟩⟩, ⟨false, 0, ⟨#[]⟩⟩, ⟨true, 0, ⟨#[]⟩⟩]
def applyL (L : List Sw) : List Ss := L.map home ++ tailS
theorem applyL_len (L : List Sw) : (applyL L).length = L.length + 3 := by simp [applyL, tailS]
theorem spec_apply_loop (L : List Sw) (hL : L.length ≤ 250) (hg : ∀ x ∈ L, 0 ≤ x.f0 ∧ x.f0 < 250) : ∀ (d i : Nat) (A : List Ss), A.length ≤ 1000 + i → L.length - i = d → i ≤ L.length →
    T (fun k => spec_l2Apply.l0 k L A (i : Int)) (· = A ++ applyL (L.drop i)) := by
  intro d
  induction d with
  | zero =>
    intro i A hA hd hi
    refine T.succ ?_
    simp only [spec_l2Apply.l0, spec_l2Put.f, Option.bind_some]
    refine T.neg (by omega) (T.pos (by simp only [List.length_cons, List.length_nil]; omega) (T.ret ?_))
    rw [List.drop_of_length_le (by omega)]; rfl
  | succ d ih =>
    intro i A hA hd hi
    have hlt : i < L.length := by omega
    have h1 := hg _ (List.getElem_mem hlt)
    refine T.succ ?_
    simp only [spec_l2Apply.l0, spec_l2Home.f, spec_l2Put.f, Option.bind_some, rdSw L i hlt, wrap_succ hlt (show L.length ≤ 4611686018427387904 by omega)]
    refine T.pos (by omega) (T.pos (by omega) (T.pos (by omega) ?_))
    rw [wrap64_id (x := 251 + L[i].f0) (by omega) (by omega), List.drop_eq_getElem_cons hlt]
    have := ih (i + 1) (A ++ [home L[i]]) (by simp; omega) (by omega) (by omega)
    rw [List.append_assoc] at this
    exact this
theorem spec_apply_T (L : List Sw) (hL : L.length ≤ 250) (hg : ∀ x ∈ L, 0 ≤ x.f0 ∧ x.f0 < 250) : T (fun k => spec_l2Apply.f k L) (· = applyL L) := by
  simp only [spec_l2Apply.f]
  exact spec_apply_loop L hL hg _ 0 [] (by simp) rfl (Nat.zero_le _)
theorem impl_apply_loop (L : List Sw) (hL : L.length ≤ 250) (hg : ∀ x ∈ L, 0 ≤ x.f0 ∧ x.f0 < 250) : ∀ (d i : Nat) (A : List Ss), A.length ≤ 1000 + i → L.length - i = d → i ≤ L.length →
    T (fun k => impl_apply.l0 k A (L.map cm) ((L.map cm).length : Int) (i : Int)) (· = A ++ applyL (L.drop i)) := by
  intro d
  induction d with
  | zero =>
    intro i A hA hd hi
    refine T.succ ?_
    simp only [impl_apply.l0, Option.bind_some, List.length_map]
    refine T.neg (by omega) (T.pos (by simp only [List.length_cons, List.length_nil]; omega) (T.ret ?_))
    rw [List.drop_of_length_le (by omega)]; rfl
  | succ d ih =>
    intro i A hA hd hi
    have hlt : i < L.length := by omega
    have h1 := hg _ (List.getElem_mem hlt)
    have e : rd_T81 (L.map cm) (i : Int) = cm L[i] := by rw [rdCm _ i (by simpa using hlt), List.getElem_map]
    refine T.succ ?_
    simp only [impl_apply.l0, e, wrap_succ hlt (show L.length ≤ 4611686018427387904 by omega)]
    refine T.pos (by rw [List.length_map]; omega) (T.pos (by omega) (T.pos (by rw [List.length_map]; omega) (T.pos (by omega) ?_)))
    rw [wrap64_id (x := 251 + (cm L[i]).f0) (by show _ ≤ 251 + L[i].f0; omega) (by show 251 + L[i].f0 ≤ _; omega), List.drop_eq_getElem_cons hlt]
    have := ih (i + 1) (A ++ [home L[i]]) (by simp; omega) (by omega) (by omega)
    rw [List.append_assoc] at this
    exact this
theorem impl_apply_T (L : List Sw) (hL : L.length ≤ 250) (hg : ∀ x ∈ L, 0 ≤ x.f0 ∧ x.f0 < 250) (A : List Ss) (hA : A.length ≤ 1000) : T (fun k => impl_apply.f k (L.map cm) A) (· = A ++ applyL L) := by
  simp only [impl_apply.f]
  exact impl_apply_loop L hL hg _ 0 A hA rfl (Nat.zero_le _)
end Go.Proofs.YthjocaegapchaaaX
