/-
  What the laws' own comparison of two lists comes to.
  Conditions: lists of at most 2^62 elements.
-/
import Derived.Test.YtdcdaclmicmiaaaXBlk
import Derived.Test.YtdcdaclmicmiaaaPx14
namespace Go.Proofs.YtdcdaclmicmiaaaX
open Go.RowKit Go.Proofs.Ytdcdaclmicmiaaa.P Go.Proofs.YtdcdaclmicmiaaaW.PrintWords Go.Proofs.YtdcdaclmicmiaaaW.PrintLast Go.Proofs.YtdcdaclmicmiaaaW.PrintMore
set_option linter.unusedVariables false
set_option linter.unusedSimpArgs false

theorem lpP_loop (l m : List Pc) (hlm : l.length = m.length) (hl : l.length ≤ 4611686018427387904) : ∀ (d i : Nat), l.length - i = d → i ≤ l.length →
    T (fun k => laws_lpPieces.l0 k l m (i : Int)) (fun r => r = true ↔ l.drop i = m.drop i) := by
  intro d
  induction d with
  | zero =>
    intro i hd hi
    refine T.succ ?_
    simp only [laws_lpPieces.l0]
    refine T.neg (by omega) (T.ret ?_)
    rw [List.drop_of_length_le (by omega), List.drop_of_length_le (by omega)]
    simp
  | succ d ih =>
    intro i hd hi
    have hlt : i < l.length := by omega
    refine T.succ ?_
    simp only [laws_lpPieces.l0]
    refine T.pos (by omega) (T.pos (by omega) (T.pos (by omega) ?_))
    simp only [rdP l i hlt, rdP m i (by omega)]
    rw [List.drop_eq_getElem_cons hlt, List.drop_eq_getElem_cons (show i < m.length by omega), wrap_succ hlt hl]
    generalize hx : l[i] = x
    generalize hy : m[i]'(by omega) = y
    obtain ⟨x0, x1, x2, x3⟩ := x
    obtain ⟨y0, y1, y2, y3⟩ := y
    have next := ih (i + 1) (by omega) (by omega)
    refine T.ite (fun h => T.ret ⟨ff, fun h1 => ?_⟩) (fun h => next.mono (fun r hr => hr.trans ⟨fun h1 => ?_, fun h1 => (List.cons.inj h1).2⟩))
    · have := (List.cons.inj h1).1
      simp_all
    · rw [h1]
      simp_all
theorem lpP_T (l m : List Pc) (hl : l.length ≤ 4611686018427387904) : T (fun k => laws_lpPieces.f k l m) (fun r => r = true ↔ l = m) := by
  simp only [laws_lpPieces.f]
  refine T.ite (fun h => ?_) (fun h => T.ret ⟨ff, fun h1 => absurd (by rw [h1]) h⟩)
  exact (lpP_loop l m (by omega) hl _ 0 rfl (Nat.zero_le _)).mono (fun r hr => by simpa using hr)
end Go.Proofs.YtdcdaclmicmiaaaX
