/-
  What the two functions that ask whether a number lies within bounds come to.
  Conditions: none.
-/
import Derived.Test.YtncohokalilnbaaXPure
import Derived.Test.YtncohokalilnbaaPx8
import Derived.Test.YtncohokalilnbaaPx5
namespace Go.Proofs.YtncohokalilnbaaX
open Go.RowKit Go.Proofs.Ytncohokalilnbaa.P Go.Proofs.YtncohokalilnbaaW.PrintWords Go.Proofs.YtncohokalilnbaaW.PrintLast Go.Proofs.YtncohokalilnbaaW.PrintMore
set_option linter.unusedVariables false
set_option linter.unusedSimpArgs false

theorem in_f (a b c : Int) : impl_in.f a b c = some (decide (b ≤ a ∧ a ≤ c)) := by
  unfold impl_in.f
  by_cases h : a ≥ b
  · rw [if_pos h]; simp [show b ≤ a from h]
  · rw [if_neg h]; simp [show ¬ b ≤ a from h]
theorem l6In_f (a b c : Int) : spec_l6In.f a b c = some (decide (b ≤ a ∧ a ≤ c)) := by
  unfold spec_l6In.f
  by_cases h : a ≥ b
  · rw [if_pos h]; simp [show b ≤ a from h]
  · rw [if_neg h]; simp [show ¬ b ≤ a from h]

end Go.Proofs.YtncohokalilnbaaX
