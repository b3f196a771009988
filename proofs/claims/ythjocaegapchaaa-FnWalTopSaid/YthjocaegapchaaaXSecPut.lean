/-
  What SecPut comes to, for the program as for the reference.
  Conditions: lists of at most two millions of elements.
-/
import Derived.Test.YthjocaegapchaaaXSecPut0
import Derived.Test.YthjocaegapchaaaPx7
namespace Go.Proofs.YthjocaegapchaaaX
open Go.RowKit Go.Proofs.Ythjocaegapchaaa.P Go.Proofs.YthjocaegapchaaaW.PrintWords Go.Proofs.YthjocaegapchaaaW.PrintLast Go.Proofs.YthjocaegapchaaaW.PrintMore
set_option linter.unusedVariables false
set_option linter.unusedSimpArgs false

theorem impl_sput (K : List ByteArray) (W : List Sw) (hK : K.length ≤ 1048577) (hW : W.length ≤ 1048577) (a : Int) (s : ByteArray) : T (fun k => impl_SecPut.f k K W a s) (· = sputB K W a s) := by
  have cp : ∀ (W : List Sw), W.length ≤ 1048578 → impl_secCopy.f K W = some (K, W) := fun W hW => by
    simp only [impl_secCopy.f, impl_copied_string.f, impl_copied_SecWrite.f]
    rw [if_pos (by omega), if_pos (by omega)]; rfl
  simp only [impl_SecPut.f]
  refine T.bind_eq (impl_sok K W (by omega) (by omega)) ?_
  unfold sputB
  refine T.ite (fun h => ?_) (fun h => by rw [if_neg h]; exact T.ret rfl)
  rw [if_pos h, cp W (by omega)]
  simp only [Option.bind_some]
  refine T.pos (by omega) ?_
  refine T.bind_eq (impl_sok K (W ++ [⟨a, s⟩]) (by omega) (by simp; omega)) ?_
  rw [cp (W ++ [(⟨a, s⟩ : Sw)]) (by simp; omega)]
  simp only [Option.bind_some]
  exact T.ite (fun h2 => T.ret (by rw [if_pos h2])) (fun h2 => T.ret (by rw [if_neg h2]))
end Go.Proofs.YthjocaegapchaaaX
