/-
  What SecLook comes to, for the reference as for the program.
  Conditions: lists of at most two millions of elements.
-/
import Derived.Test.YthjocaegapchaaaXSecLookI
import Derived.Test.YthjocaegapchaaaPx6
namespace Go.Proofs.YthjocaegapchaaaX
open Go.RowKit Go.Proofs.Ythjocaegapchaaa.P Go.Proofs.YthjocaegapchaaaW.PrintWords Go.Proofs.YthjocaegapchaaaW.PrintLast Go.Proofs.YthjocaegapchaaaW.PrintMore
set_option linter.unusedVariables false
set_option linter.unusedSimpArgs false

theorem spec_look (K : Bs) (W : List Sw) (hK : K.length ≤ 1048577) (a : Int) : T (fun k => spec_SecLook.f k K W a) (· = lookB K W a) := by
  simp only [spec_SecLook.f]
  refine T.bind_eq (spec_sok K W) ?_
  unfold lookB
  refine T.ite (fun h => ?_) (fun h => by rw [if_neg (fun h1 => h h1.1)]; exact T.ret rfl)
  rw [wrap64_id (x := (K.length : Int) - 1) (by omega) (by omega), l6In_f]
  simp only [Option.bind_some]
  by_cases h2 : 0 ≤ a ∧ a ≤ (K.length : Int) - 1
  · rw [if_pos ⟨h, h2⟩]
    refine T.pos (decide_eq_true h2) ?_
    refine T.bind_eq (spec_flush K W) ?_
    unfold flushB
    rw [if_pos h]
    obtain ⟨b, rfl⟩ : ∃ b : Nat, a = (b : Int) := ⟨a.toNat, by omega⟩
    have hb : b < K.length := by omega
    refine T.pos h2.1 (T.pos (by simp only [wr_length]; omega) (T.ret ?_))
    simp only
    rw [rdB _ b (by rw [wr_length]; omega), wr_at b W K hb, Int.toNat_natCast, show K.getD b ByteArray.empty = K[b] from getD_nat K b hb _]
  · rw [if_neg (fun h1 => h2 h1.2)]
    exact T.neg (by simp only [decide_eq_true_eq]; exact h2) (T.ret rfl)
end Go.Proofs.YthjocaegapchaaaX
