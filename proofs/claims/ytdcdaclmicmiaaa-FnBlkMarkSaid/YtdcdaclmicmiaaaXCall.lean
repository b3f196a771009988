/-
  What BlkCall comes to, for the program and the reference alike.
  Conditions: lists of at most a million elements.
-/
import Derived.Test.YtdcdaclmicmiaaaXLast
import Derived.Test.YtdcdaclmicmiaaaPx16
import Derived.Test.YtdcdaclmicmiaaaPx15
namespace Go.Proofs.YtdcdaclmicmiaaaX
open Go.RowKit Go.Proofs.Ytdcdaclmicmiaaa.P Go.Proofs.YtdcdaclmicmiaaaW.PrintWords Go.Proofs.YtdcdaclmicmiaaaW.PrintLast Go.Proofs.YtdcdaclmicmiaaaW.PrintMore
set_option linter.unusedVariables false
set_option linter.unusedSimpArgs false

theorem impl_call_loop (c : Int) (l : List La) (hl : l.length ≤ 4611686018427387904) : ∀ (m i : Nat), l.length - i = m → i ≤ l.length →
    T (fun k => impl_BlkCall.l0 k c l (l.length : Int) (i : Int)) (· = callL c (l.drop i)) := by
  intro m
  induction m with
  | zero =>
    intro i hd hi
    refine T.succ ?_
    simp only [impl_BlkCall.l0]
    refine T.neg (by omega) (T.ret ?_)
    rw [List.drop_of_length_le (by omega)]; rfl
  | succ m ih =>
    intro i hd hi
    have hlt : i < l.length := by omega
    refine T.succ ?_
    simp only [impl_BlkCall.l0]
    refine T.pos (by omega) (T.pos (by omega) (T.pos (by omega) ?_))
    simp only [rdLa l i hlt, wrap_succ hlt hl]
    rw [List.drop_eq_getElem_cons hlt]
    simp only [callL]
    refine T.ite (fun h => ?_) (fun h => ?_)
    · rw [if_pos h]; exact T.ret rfl
    · rw [if_neg h]; exact ih (i + 1) (by omega) (by omega)
theorem spec_call_loop (c : Int) (l : List La) (hl : l.length ≤ 4611686018427387904) : ∀ (m i : Nat), l.length - i = m → i ≤ l.length →
    T (fun k => spec_BlkCall.l0 k l c (i : Int)) (· = callL c (l.drop i)) := by
  intro m
  induction m with
  | zero =>
    intro i hd hi
    refine T.succ ?_
    simp only [spec_BlkCall.l0]
    refine T.neg (by omega) (T.ret ?_)
    rw [List.drop_of_length_le (by omega)]; rfl
  | succ m ih =>
    intro i hd hi
    have hlt : i < l.length := by omega
    refine T.succ ?_
    simp only [spec_BlkCall.l0]
    refine T.pos (by omega) (T.pos (by omega) ?_)
    simp only [rdLa l i hlt, wrap_succ hlt hl]
    rw [List.drop_eq_getElem_cons hlt]
    simp only [callL]
    refine T.ite (fun h => ?_) (fun h => ?_)
    · rw [if_pos h]; exact T.ret rfl
    · rw [if_neg h]; exact ih (i + 1) (by omega) (by omega)
theorem impl_call (l : List La) (hl : l.length ≤ 4611686018427387904) (c : Int) : T (fun k => impl_BlkCall.f k l c) (· = callB l c) := by
  simp only [impl_BlkCall.f]
  refine T.bind_eq (impl_lok l hl) ?_
  unfold callB
  refine T.ite (fun h => ?_) (fun h => ?_)
  · rw [if_pos h]; exact impl_call_loop c l hl _ 0 rfl (Nat.zero_le _)
  · rw [if_neg h]; exact T.ret rfl
theorem spec_call (l : List La) (hl : l.length ≤ 4611686018427387904) (c : Int) : T (fun k => spec_BlkCall.f k l c) (· = callB l c) := by
  simp only [spec_BlkCall.f]
  refine T.bind_eq (spec_lok l) ?_
  unfold callB
  refine T.ite (fun h => ?_) (fun h => ?_)
  · rw [if_pos h]; exact spec_call_loop c l hl _ 0 rfl (Nat.zero_le _)
  · rw [if_neg h]; exact T.ret rfl
end Go.Proofs.YtdcdaclmicmiaaaX
