/-
  What SecLook comes to, for the program.
  Conditions: lists of at most two millions of elements.
-/
import Derived.Test.YthjocaegapchaaaXSec2
import Derived.Test.YthjocaegapchaaaPx5
namespace Go.Proofs.YthjocaegapchaaaX
open Go.RowKit Go.Proofs.Ythjocaegapchaaa.P Go.Proofs.YthjocaegapchaaaW.PrintWords Go.Proofs.YthjocaegapchaaaW.PrintLast Go.Proofs.YthjocaegapchaaaW.PrintMore
set_option linter.unusedVariables false
set_option linter.unusedSimpArgs false

theorem impl_look_loop (a n : Nat) (W : List Sw) (hW : W.length ≤ 600) (hg : ∀ x ∈ W, goodW n x) : ∀ (d i : Nat) (v : ByteArray), W.length - i = d → i ≤ W.length →
    T (fun k => impl_SecLook.l0 k (a : Int) v W (W.length : Int) (i : Int)) (· = lastW a v (W.drop i)) := by
  intro d
  induction d with
  | zero =>
    intro i v hd hi
    refine T.succ ?_
    simp only [impl_SecLook.l0]
    refine T.neg (by omega) (T.ret ?_)
    rw [List.drop_of_length_le (by omega)]; rfl
  | succ d ih =>
    intro i v hd hi
    have hlt : i < W.length := by omega
    have h1 := (hg _ (List.getElem_mem hlt)).1
    refine T.succ ?_
    simp only [impl_SecLook.l0]
    refine T.pos (by omega) (T.pos (by omega) (T.pos (by omega) ?_))
    simp only [rdSw W i hlt, wrap_succ hlt (show W.length ≤ 4611686018427387904 by omega)]
    rw [List.drop_eq_getElem_cons hlt]
    simp only [lastW]
    refine T.ite (fun h => ?_) (fun h => ?_)
    · rw [if_pos (by omega)]; exact ih (i + 1) _ (by omega) (by omega)
    · rw [if_neg (by omega)]; exact ih (i + 1) _ (by omega) (by omega)
theorem impl_look (K : Bs) (W : List Sw) (hK : K.length ≤ 1048577) (hW : W.length ≤ 1048577) (a : Int) : T (fun k => impl_SecLook.f k K W a) (· = lookB K W a) := by
  have bad : ¬ (sok K W = true ∧ 0 ≤ a ∧ a ≤ (K.length : Int) - 1) → T (fun k => impl_SecLook.j0 k a true K W) (· = lookB K W a) := fun h => by
    refine T.succ ?_
    simp only [impl_SecLook.j0, if_true]
    exact T.ret (by unfold lookB; rw [if_neg h])
  simp only [impl_SecLook.f]
  refine T.bind_eq (impl_sok K W (by omega) (by omega)) ?_
  refine T.ite (fun h => ?_) (fun h => bad (fun h1 => h h1.1))
  rw [wrap64_id (x := (K.length : Int) - 1) (by omega) (by omega), in_f]
  simp only [Option.bind_some]
  by_cases h2 : 0 ≤ a ∧ a ≤ (K.length : Int) - 1
  · rw [decide_eq_true h2]
    refine T.succ ?_
    simp only [impl_SecLook.j0]
    refine T.neg (by simp) (T.pos h2.1 (T.pos (by omega) ?_))
    obtain ⟨b, rfl⟩ : ∃ b : Nat, a = (b : Int) := ⟨a.toNat, by omega⟩
    unfold lookB
    rw [if_pos ⟨h, h2⟩, rdB K b (by omega), Int.toNat_natCast, show K.getD b ByteArray.empty = K[b]'(by omega) from getD_nat K b (by omega) _]
    have hs := (sok_iff K W).1 h
    exact impl_look_loop b K.length W hs.1.2 hs.2.2 _ 0 _ rfl (Nat.zero_le _)
  · rw [decide_eq_false h2]
    exact bad (fun h1 => h2 h1.2)
end Go.Proofs.YthjocaegapchaaaX
