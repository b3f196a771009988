/-
  When two lists of texts are alike, in the laws' words.
  Conditions: sizes below Go's bounds.
-/
import Derived.Test.YthjocaegapchaaaXSec
import Derived.Test.YthjocaegapchaaaPx12
namespace Go.Proofs.YthjocaegapchaaaX
open Go.RowKit Go.Proofs.Ythjocaegapchaaa.P Go.Proofs.YthjocaegapchaaaW.PrintWords Go.Proofs.YthjocaegapchaaaW.PrintLast Go.Proofs.YthjocaegapchaaaW.PrintMore
set_option linter.unusedVariables false
set_option linter.unusedSimpArgs false

theorem lp_bytes_eq2 (a b : ByteArray) : a.toList = b.toList ↔ a = b := by
  constructor
  · intro h
    rw [ByteArray.toList_eq, ByteArray.toList_eq] at h
    exact ByteArray.ext (Array.toList_inj.1 h)
  · intro h; rw [h]
theorem lpTexts_loop2 (l m : List ByteArray) (hlm : l.length = m.length) (hl : l.length ≤ 4611686018427387904) : ∀ (d i : Nat), l.length - i = d → i ≤ l.length →
    T (fun k => laws_lpTexts.l0 k l m (i : Int)) (fun r => r = true ↔ l.drop i = m.drop i) := by
  intro d
  induction d with
  | zero =>
    intro i hd hi
    refine T.succ ?_
    simp only [laws_lpTexts.l0]
    refine T.neg (by omega) (T.ret ?_)
    rw [List.drop_of_length_le (by omega), List.drop_of_length_le (by omega)]
    simp
  | succ d ih =>
    intro i hd hi
    have hlt : i < l.length := by omega
    refine T.succ ?_
    simp only [laws_lpTexts.l0]
    refine T.pos (by omega) (T.pos (by omega) (T.pos (by omega) ?_))
    simp only [rdB l i hlt, rdB m i (by omega), lp_bytes_eq2]
    rw [List.drop_eq_getElem_cons hlt, List.drop_eq_getElem_cons (show i < m.length by omega)]
    refine T.ite (fun h => ?_) (fun h => T.ret ⟨ff, fun h1 => absurd (List.cons.inj h1).1 h⟩)
    rw [wrap_succ hlt hl]
    exact (ih (i + 1) (by omega) (by omega)).mono (fun r hr => hr.trans ⟨fun h1 => by rw [h, h1], fun h1 => (List.cons.inj h1).2⟩)
theorem lpTexts_T2 (l m : List ByteArray) (hl : l.length ≤ 4611686018427387904) : T (fun k => laws_lpTexts.f k l m) (fun r => r = true ↔ l = m) := by
  simp only [laws_lpTexts.f]
  refine T.ite (fun h => ?_) (fun h => T.ret ⟨ff, fun h1 => by subst h1; exact absurd rfl h⟩)
  have := lpTexts_loop2 l m (by omega) hl _ 0 rfl (Nat.zero_le _)
  simpa using this
end Go.Proofs.YthjocaegapchaaaX
