/-
  What the exact laws' own functions on bytes come to: likeness, marks and what holds them.
  Conditions: sizes far below Go's bounds.
-/
import Derived.Test.YtoieojmfkkidnaaXCmd
import Derived.Test.YtoieojmfkkidnaaPx40
namespace Go.Proofs.YtoieojmfkkidnaaX
open Go.RowKit Go.Proofs.Ytoieojmfkkidnaa.P Go.Proofs.YtoieojmfkkidnaaW.PrintWords Go.Proofs.YtoieojmfkkidnaaW.PrintLast Go.Proofs.YtoieojmfkkidnaaW.PrintMore
set_option linter.unusedVariables false
set_option linter.unusedSimpArgs false

theorem eqByteS_loop (l m : List Int) (hlm : l.length = m.length) (hl : l.length ≤ 4611686018427387904) : ∀ (d i : Nat), l.length - i = d → i ≤ l.length →
    T (fun k => laws_eqByteS.l0 k l m (i : Int)) (fun r => r = true ↔ l.drop i = m.drop i) := by
  intro d
  induction d with
  | zero =>
    intro i hd hi
    refine T.succ ?_
    simp only [laws_eqByteS.l0]
    refine T.neg (by omega) (T.ret ?_)
    rw [List.drop_of_length_le (by omega), List.drop_of_length_le (by omega)]
    simp
  | succ d ih =>
    intro i hd hi
    have hlt : i < l.length := by omega
    refine T.succ ?_
    simp only [laws_eqByteS.l0]
    refine T.pos (by omega) (T.pos (by omega) (T.pos (by omega) ?_))
    simp only [rdNum l i hlt, rdNum m i (by omega)]
    rw [List.drop_eq_getElem_cons hlt, List.drop_eq_getElem_cons (show i < m.length by omega)]
    refine T.ite (fun h => ?_) (fun h => T.ret ⟨ff, fun h1 => absurd (List.cons.inj h1).1 h⟩)
    rw [wrap_succ hlt hl]
    exact (ih (i + 1) (by omega) (by omega)).mono (fun r hr => hr.trans ⟨fun h1 => by rw [h, h1], fun h1 => (List.cons.inj h1).2⟩)
theorem eqByteS_T (l m : List Int) (hl : l.length ≤ 4611686018427387904) : T (fun k => laws_eqByteS.f k l m) (fun r => r = true ↔ l = m) := by
  simp only [laws_eqByteS.f]
  refine T.ite (fun h => ?_) (fun h => T.ret ⟨ff, fun h1 => by subst h1; exact absurd rfl h⟩)
  have := eqByteS_loop l m (by omega) hl _ 0 rfl (Nat.zero_le _)
  simpa using this
def MkB (a : Int) (l : List Int) : Prop := ∀ j, (h : j < l.length) → l[j] = (a + (j : Int)) % 256
theorem markByteS_loop (a : Int) (ha : 0 ≤ a) : ∀ (d i : Nat) (y : List Int), y.length - i = d → i ≤ y.length → a + (y.length : Int) ≤ 4611686018427387904 → MkB a (y.take i) →
    T (fun k => laws_markByteS.l0 k y (a + (i : Int)) (i : Int)) (fun r => r.1 = a + (y.length : Int) ∧ r.2.length = y.length ∧ MkB a r.2) := by
  intro d
  induction d with
  | zero =>
    intro i y hd hi hb hm
    refine T.succ ?_
    simp only [laws_markByteS.l0]
    refine T.neg (by omega) (T.ret ⟨?_, rfl, ?_⟩)
    · simp only; omega
    · rwa [List.take_of_length_le (by omega)] at hm
  | succ d ih =>
    intro i y hd hi hb hm
    have hlt : i < y.length := by omega
    have w1 : wrap64 (a + (i : Int) + 1) = a + (i : Int) + 1 := by rw [wrap64_id (by omega) (by omega)]
    refine T.succ ?_
    simp only [laws_markByteS.l0]
    refine T.pos (by omega) (T.pos (by omega) ?_)
    simp only [Int.toNat_natCast, w1, wrap_succ hlt (show y.length ≤ 4611686018427387904 by omega)]
    have := ih (i + 1) (y.set i ((a + (i : Int)) % 256)) (by rw [List.length_set]; omega) (by rw [List.length_set]; omega) (by rw [List.length_set]; exact hb) (by
      rw [take_set_succ _ _ _ hlt]
      intro j hj
      rcases Nat.lt_or_ge j (y.take i).length with h | h
      · simp only [List.getElem_append_left h]
        exact hm j h
      · have e : j = i := by simp at hj h; omega
        subst e
        rw [List.getElem_append_right h]
        simp)
    rw [show a + ((i + 1 : Nat) : Int) = a + (i : Int) + 1 by omega] at this
    simpa only [List.length_set] using this
theorem markByteS_T (y : List Int) (a : Int) (ha : 0 ≤ a) (hb : a + (y.length : Int) ≤ 4611686018427387904) : T (fun k => laws_markByteS.f k y a) (fun r => r.1 = a + (y.length : Int) ∧ r.2.length = y.length ∧ MkB a r.2) := by
  have := markByteS_loop a ha _ 0 y rfl (Nat.zero_le _) hb (fun j hj => by simp at hj)
  simpa [laws_markByteS.f] using this
theorem heldByteS_T (y : List Int) (a : Int) (ha : 0 ≤ a) (hb : a + (y.length : Int) ≤ 4611686018427387904) (hm : MkB a y) : T (fun k => laws_heldByteS.f k y a) (· = a + (y.length : Int)) := by
  have key : ∀ (d i : Nat), y.length - i = d → i ≤ y.length → T (fun k => laws_heldByteS.l0 k y (a + (i : Int)) (i : Int)) (· = a + (y.length : Int)) := by
    intro d
    induction d with
    | zero =>
      intro i hd hi
      refine T.succ ?_
      simp only [laws_heldByteS.l0]
      exact T.neg (by omega) (T.ret (by omega))
    | succ d ih =>
      intro i hd hi
      have hlt : i < y.length := by omega
      have w1 : wrap64 (a + (i : Int) + 1) = a + (i : Int) + 1 := by rw [wrap64_id (by omega) (by omega)]
      refine T.succ ?_
      simp only [laws_heldByteS.l0, rdNum y i hlt, w1, wrap_succ hlt (show y.length ≤ 4611686018427387904 by omega)]
      refine T.pos (by omega) (T.pos (by omega) (T.pos (hm i hlt) ?_))
      have := ih (i + 1) (by omega) (by omega)
      rwa [show a + ((i + 1 : Nat) : Int) = a + (i : Int) + 1 by omega] at this
  simp only [laws_heldByteS.f]
  simpa using key _ 0 rfl (Nat.zero_le _)
end Go.Proofs.YtoieojmfkkidnaaX
