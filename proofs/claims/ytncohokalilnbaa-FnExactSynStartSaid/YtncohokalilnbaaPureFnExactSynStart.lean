import Derived.Test.YtncohokalilnbaaPx25
import Derived.Tactics
namespace Go.Proofs.Ytncohokalilnbaa.Pure
open Go.RowKit Go.Proofs.Ytncohokalilnbaa.P Go.Proofs.YtncohokalilnbaaW.PrintWords Go.Proofs.YtncohokalilnbaaW.PrintLast
set_option linter.unusedVariables false
set_option linter.unusedSimpArgs false
/-- Nothing comes in: the rounds are gone through by the kernel. -/
theorem FnExactSynStart : laws_FnExactSynStart.Pure := ⟨6, by kernel_rfl⟩
end Go.Proofs.Ytncohokalilnbaa.Pure
