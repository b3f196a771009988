/-
  When two disks of sectors are alike, in the laws' words.
  Conditions: sizes below Go's bounds.
-/
import Derived.Test.YthkdhcaojhbfoaaXSec
import Derived.Test.YthkdhcaojhbfoaaPx13
namespace Go.Proofs.YthkdhcaojhbfoaaX
open Go.RowKit Go.Proofs.Ythkdhcaojhbfoaa.P Go.Proofs.YthkdhcaojhbfoaaW.PrintWords Go.Proofs.YthkdhcaojhbfoaaW.PrintLast Go.Proofs.YthkdhcaojhbfoaaW.PrintMore
set_option linter.unusedVariables false
set_option linter.unusedSimpArgs false

theorem lp_bytes_eq (a b : ByteArray) : a.toList = b.toList ↔ a = b := by
  constructor
  · intro h
    rw [ByteArray.toList_eq, ByteArray.toList_eq] at h
    exact ByteArray.ext (Array.toList_inj.1 h)
  · intro h; rw [h]
theorem lpTexts_loop (l m : List ByteArray) (hlm : l.length = m.length) (hl : l.length ≤ 4611686018427387904) : ∀ (d i : Nat), l.length - i = d → i ≤ l.length →
    T (fun k => laws_lpTexts.l0 k l m (i : Int)) (fun r => r = true ↔ l.drop i = m.drop i) := by
  intro d
  induction d with
  | zero =>
    intro i hd hi
    refine T.succ ?_
    simp only [laws_lpTexts.l0]
    refine T.neg (by omega) (T.ret ?_)
    rw [List.drop_of_length_le (by omega), List.drop_of_length_le (by omega)]
    simp
  | succ d ih =>
    intro i hd hi
    have hlt : i < l.length := by omega
    refine T.succ ?_
    simp only [laws_lpTexts.l0]
    refine T.pos (by omega) (T.pos (by omega) (T.pos (by omega) ?_))
    simp only [rdB l i hlt, rdB m i (by omega), lp_bytes_eq]
    rw [List.drop_eq_getElem_cons hlt, List.drop_eq_getElem_cons (show i < m.length by omega)]
    refine T.ite (fun h => ?_) (fun h => T.ret ⟨ff, fun h1 => absurd (List.cons.inj h1).1 h⟩)
    rw [wrap_succ hlt hl]
    exact (ih (i + 1) (by omega) (by omega)).mono (fun r hr => hr.trans ⟨fun h1 => by rw [h, h1], fun h1 => (List.cons.inj h1).2⟩)
theorem lpTexts_T (l m : List ByteArray) (hl : l.length ≤ 4611686018427387904) : T (fun k => laws_lpTexts.f k l m) (fun r => r = true ↔ l = m) := by
  simp only [laws_lpTexts.f]
  refine T.ite (fun h => ?_) (fun h => T.ret ⟨ff, fun h1 => by subst h1; exact absurd rfl h⟩)
  have := lpTexts_loop l m (by omega) hl _ 0 rfl (Nat.zero_le _)
  simpa using this
theorem lpSec_loop (K K' : List ByteArray) (l m : List Sw) (hlm : l.length = m.length) (hl : l.length ≤ 4611686018427387904) : ∀ (d i : Nat), l.length - i = d → i ≤ l.length →
    T (fun k => laws_lpSec.l0 k (i : Int) K l K' m) (fun r => r = true ↔ l.drop i = m.drop i) := by
  intro d
  induction d with
  | zero =>
    intro i hd hi
    refine T.succ ?_
    simp only [laws_lpSec.l0]
    refine T.neg (by omega) (T.ret ?_)
    rw [List.drop_of_length_le (by omega), List.drop_of_length_le (by omega)]
    simp
  | succ d ih =>
    intro i hd hi
    have hlt : i < l.length := by omega
    refine T.succ ?_
    simp only [laws_lpSec.l0]
    refine T.pos (by omega) (T.pos (by omega) (T.pos (by omega) ?_))
    simp only [rdSw l i hlt, rdSw m i (by omega)]
    rw [List.drop_eq_getElem_cons hlt, List.drop_eq_getElem_cons (show i < m.length by omega)]
    have key : ((!(l[i].f0 == (m[i]'(by omega)).f0) || !(l[i].f1.toList == (m[i]'(by omega)).f1.toList)) = true) ↔ ¬ l[i] = (m[i]'(by omega)) := by
      generalize l[i] = x
      generalize m[i]'(by omega) = y
      obtain ⟨x0, x1⟩ := x
      obtain ⟨y0, y1⟩ := y
      have := lp_bytes_eq x1 y1
      simp only [Bool.or_eq_true, Bool.not_eq_true', beq_eq_false_iff_ne, ne_eq, this]
      constructor
      · rintro (h | h) h2 <;> cases h2 <;> exact h rfl
      · intro h
        by_cases h0 : x0 = y0
        · exact .inr (fun h1 => h (by rw [h0, h1]))
        · exact .inl h0
    refine T.ite (fun h => T.ret ⟨ff, fun h1 => absurd (List.cons.inj h1).1 (key.1 h)⟩) (fun h => ?_)
    have he : l[i] = (m[i]'(by omega)) := Classical.not_not.1 (fun h1 => h (key.2 h1))
    rw [wrap_succ hlt hl]
    exact (ih (i + 1) (by omega) (by omega)).mono (fun r hr => hr.trans ⟨fun h1 => by rw [he, h1], fun h1 => (List.cons.inj h1).2⟩)
theorem lpSec_T (K K' : List ByteArray) (l m : List Sw) (hK : K.length ≤ 4611686018427387904) (hl : l.length ≤ 4611686018427387904) : T (fun k => laws_lpSec.f k K l K' m) (fun r => r = true ↔ K = K' ∧ l = m) := by
  simp only [laws_lpSec.f]
  refine T.bind (lpTexts_T K K' hK) (fun r hr => ?_)
  refine T.ite (fun h => ?_) (fun h => ?_)
  · by_cases hlm : l.length = m.length
    · rw [show ((l.length : Int) != (m.length : Int)) = false by simp [hlm]]
      refine T.succ ?_
      simp only [laws_lpSec.j0]
      refine T.neg (by simp) ?_
      refine (lpSec_loop K K' l m hlm hl _ 0 rfl (Nat.zero_le _)).mono (fun q hq => hq.trans ?_)
      simp [hr.1 h]
    · rw [show ((l.length : Int) != (m.length : Int)) = true by simp; omega]
      refine T.succ ?_
      simp only [laws_lpSec.j0, if_true]
      exact T.ret ⟨ff, fun h1 => absurd (congrArg List.length h1.2) hlm⟩
  · refine T.succ ?_
    simp only [laws_lpSec.j0, if_true]
    exact T.ret ⟨ff, fun h1 => absurd (hr.2 h1.1) h⟩
end Go.Proofs.YthkdhcaojhbfoaaX
