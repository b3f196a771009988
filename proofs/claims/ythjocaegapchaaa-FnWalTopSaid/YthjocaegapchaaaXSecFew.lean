/-
  Disks of sectors that stay short.
  Conditions: none.
-/
import Derived.Test.YthjocaegapchaaaXSec2
import Derived.Test.YthjocaegapchaaaXSecPut0
namespace Go.Proofs.YthjocaegapchaaaX
open Go.RowKit Go.Proofs.Ythjocaegapchaaa.P Go.Proofs.YthjocaegapchaaaW.PrintWords Go.Proofs.YthjocaegapchaaaW.PrintLast Go.Proofs.YthjocaegapchaaaW.PrintMore
set_option linter.unusedVariables false
set_option linter.unusedSimpArgs false

def Few (K : List ByteArray) (W : List Sw) : Prop := K.length ≤ 600 ∧ W.length ≤ 600
theorem few_put {K : List ByteArray} {W : List Sw} (h : Few K W) (a : Int) (s : ByteArray) : Few (sputB K W a s).1 (sputB K W a s).2.1 := by
  unfold sputB
  split
  · split
    · next h2 =>
      have := ((sok_iff _ _).1 h2).1
      exact ⟨h.1, this.2⟩
    · exact h
  · exact ⟨by simp, by simp⟩
theorem few_flush {K : List ByteArray} {W : List Sw} (h : Few K W) : Few (flushB K W).1 (flushB K W).2 := by
  unfold flushB
  split
  · exact ⟨by simp only [wr_length]; exact h.1, by simp⟩
  · exact ⟨by simp, by simp⟩
end Go.Proofs.YthjocaegapchaaaX
