/-
  What the exact laws' own functions on lists of steps come to.
  Conditions: sizes far below Go's bounds.
-/
import Derived.Test.YthjocaegapchaaaXExText
import Derived.Test.YthjocaegapchaaaPx18
import Derived.Test.YthjocaegapchaaaPx22
namespace Go.Proofs.YthjocaegapchaaaX
open Go.RowKit Go.Proofs.Ythjocaegapchaaa.P Go.Proofs.YthjocaegapchaaaW.PrintWords Go.Proofs.YthjocaegapchaaaW.PrintLast Go.Proofs.YthjocaegapchaaaW.PrintMore
set_option linter.unusedVariables false
set_option linter.unusedSimpArgs false

theorem rd_ISs (l : List S61) (i : Nat) (h : i < l.length) : rd_T61 l (i : Int) = l[i] := getD_nat l i h _
theorem eqSs_f (x y : S61) : ∃ r, laws_eqSecStep.f x.f0 x.f1 x.f2 y.f0 y.f1 y.f2 = some r ∧ (r = true ↔ x = y) := by
  unfold laws_eqSecStep.f
  obtain ⟨x0, x1, x2⟩ := x
  obtain ⟨y0, y1, y2⟩ := y
  simp only [bytes_eq, bne_iff_ne, ne_eq]
  repeat' split
  all_goals first
    | exact ⟨_, rfl, by simp_all⟩
theorem eqSs_loop (l m : List S61) (hlm : l.length = m.length) (hl : l.length ≤ 4611686018427387904) : ∀ (d i : Nat), l.length - i = d → i ≤ l.length →
    T (fun k => laws_eqSecStepS.l0 k l m (i : Int)) (fun r => r = true ↔ l.drop i = m.drop i) := by
  intro d
  induction d with
  | zero =>
    intro i hd hi
    refine T.succ ?_
    simp only [laws_eqSecStepS.l0]
    refine T.neg (by omega) (T.ret ?_)
    rw [List.drop_of_length_le (by omega), List.drop_of_length_le (by omega)]
    simp
  | succ d ih =>
    intro i hd hi
    have hlt : i < l.length := by omega
    refine T.succ ?_
    simp only [laws_eqSecStepS.l0]
    refine T.pos (by omega) (T.pos (by omega) (T.pos (by omega) ?_))
    simp only [rd_ISs l i hlt, rd_ISs m i (by omega)]
    obtain ⟨r, hr, hr2⟩ := eqSs_f l[i] (m[i]'(by omega))
    simp only [hr, Option.bind_some]
    rw [List.drop_eq_getElem_cons hlt, List.drop_eq_getElem_cons (show i < m.length by omega)]
    refine T.ite (fun h => ?_) (fun h => T.ret ⟨ff, fun h1 => absurd (hr2.2 (List.cons.inj h1).1) h⟩)
    rw [wrap_succ hlt hl]
    exact (ih (i + 1) (by omega) (by omega)).mono (fun r hr => hr.trans ⟨fun h1 => by rw [hr2.1 h, h1], fun h1 => (List.cons.inj h1).2⟩)
theorem eqSsS_T (l m : List S61) (hl : l.length ≤ 4611686018427387904) : T (fun k => laws_eqSecStepS.f k l m) (fun r => r = true ↔ l = m) := by
  simp only [laws_eqSecStepS.f]
  refine T.ite (fun h => ?_) (fun h => T.ret ⟨ff, fun h1 => by subst h1; exact absurd rfl h⟩)
  have := eqSs_loop l m (by omega) hl _ 0 rfl (Nat.zero_le _)
  simpa using this
def MkSs (a : Int) (l : List S61) : Prop := ∀ j, (h : j < l.length) → l[j].f0 = (Int.tmod (a + 3 * (j : Int)) 3 == 0) ∧ l[j].f1 = a + 3 * (j : Int) + 1 ∧ l[j].f2 = mt (a + 3 * (j : Int) + 2)
theorem markSs_loop (a : Int) (ha : 0 ≤ a) : ∀ (d i : Nat) (y : List S61), y.length - i = d → i ≤ y.length → a + 3 * (y.length : Int) ≤ 4611686018427387904 → MkSs a (y.take i) →
    T (fun k => laws_markSecStepS.l0 k y (a + 3 * (i : Int)) (i : Int)) (fun r => r.1 = a + 3 * (y.length : Int) ∧ r.2.length = y.length ∧ MkSs a r.2) := by
  intro d
  induction d with
  | zero =>
    intro i y hd hi hb hm
    refine T.succ ?_
    simp only [laws_markSecStepS.l0]
    refine T.neg (by omega) (T.ret ⟨?_, rfl, ?_⟩)
    · simp only; omega
    · rwa [List.take_of_length_le (by omega)] at hm
  | succ d ih =>
    intro i y hd hi hb hm
    have hlt : i < y.length := by omega
    have w1 : wrap64 (a + 3 * (i : Int) + 1) = a + 3 * (i : Int) + 1 := wrap64_id (by omega) (by omega)
    have w2 : wrap64 (a + 3 * (i : Int) + 1 + 1) = a + 3 * (i : Int) + 2 := by rw [wrap64_id (by omega) (by omega)]; omega
    have w3 : wrap64 (a + 3 * (i : Int) + 2 + 1) = a + 3 * (i : Int) + 3 := by rw [wrap64_id (by omega) (by omega)]; omega
    have rs : ∀ (z : List S61) (v : S61), i < z.length → rd_T61 (z.set i v) (i : Int) = v := fun z v hz => by
      rw [rd_ISs _ i (by simpa using hz)]; simp
    refine T.succ ?_
    simp only [laws_markSecStepS.l0]
    refine T.pos (by omega) (T.pos (by omega) ?_)
    simp only [Option.bind_some, w1, w2, w3]
    refine T.bind_eq (mt_T (a + 3 * (i : Int) + 2) (by omega)) ?_
    simp only [Int.toNat_natCast, rs, hlt, List.length_set, List.set_set, wrap_succ hlt (show y.length ≤ 4611686018427387904 by omega)]
    have := ih (i + 1) (y.set i ⟨Int.tmod (a + 3 * (i : Int)) 3 == 0, a + 3 * (i : Int) + 1, mt (a + 3 * (i : Int) + 2)⟩) (by rw [List.length_set]; omega) (by rw [List.length_set]; omega) (by rw [List.length_set]; exact hb) (by
      rw [take_set_succ _ _ _ hlt]
      intro j hj
      rcases Nat.lt_or_ge j (y.take i).length with h | h
      · simp only [List.getElem_append_left h]
        exact hm j h
      · have e : j = i := by simp at hj h; omega
        subst e
        rw [List.getElem_append_right h]
        simp)
    rw [show a + 3 * ((i + 1 : Nat) : Int) = a + 3 * (i : Int) + 3 by omega] at this
    simpa only [List.length_set] using this
theorem heldSs_loop (a : Int) (ha : 0 ≤ a) (y : List S61) (hb : a + 3 * (y.length : Int) ≤ 4611686018427387904) (hm : MkSs a y) : ∀ (d i : Nat), y.length - i = d → i ≤ y.length →
    T (fun k => laws_heldSecStepS.l0 k y (a + 3 * (i : Int)) (i : Int)) (· = a + 3 * (y.length : Int)) := by
  intro d
  induction d with
  | zero =>
    intro i hd hi
    refine T.succ ?_
    simp only [laws_heldSecStepS.l0]
    refine T.neg (by omega) (T.ret ?_)
    omega
  | succ d ih =>
    intro i hd hi
    have hlt : i < y.length := by omega
    have hm := hm i hlt
    have w1 : wrap64 (a + 3 * (i : Int) + 1) = a + 3 * (i : Int) + 1 := wrap64_id (by omega) (by omega)
    have w2 : wrap64 (a + 3 * (i : Int) + 1 + 1) = a + 3 * (i : Int) + 2 := by rw [wrap64_id (by omega) (by omega)]; omega
    have w3 : wrap64 (a + 3 * (i : Int) + 2 + 1) = a + 3 * (i : Int) + 3 := by rw [wrap64_id (by omega) (by omega)]; omega
    refine T.succ ?_
    simp only [laws_heldSecStepS.l0]
    refine T.pos (by omega) (T.pos (by omega) ?_)
    simp only [rd_ISs y i hlt, w1, w2, w3, bytes_eq, wrap_succ hlt (show y.length ≤ 4611686018427387904 by omega)]
    refine T.neg (by rw [hm.1]; simp) (T.pos hm.2.1 ?_)
    refine T.bind_eq (mt_T (a + 3 * (i : Int) + 2) (by omega)) ?_
    refine T.pos hm.2.2 ?_
    have := ih (i + 1) (by omega) (by omega)
    rwa [show a + 3 * ((i + 1 : Nat) : Int) = a + 3 * (i : Int) + 3 by omega] at this
/-- Marked, a list of steps holds its marks. -/
theorem markSsS_T (y : List S61) (hb : y.length ≤ 1152921504606846976) :
    T (fun k => laws_markSecStepS.f k y 1) (fun r => 0 ≤ r.1 ∧ T (fun k => laws_heldSecStepS.f k r.2 1) (· = r.1)) := by
  have h1 := markSs_loop 1 (by omega) _ 0 y rfl (Nat.zero_le _) (by omega) (fun j hj => by simp at hj)
  have h1 : T (fun k => laws_markSecStepS.f k y 1) (fun r => r.1 = 1 + 3 * (y.length : Int) ∧ r.2.length = y.length ∧ MkSs 1 r.2) := by simpa [laws_markSecStepS.f] using h1
  refine h1.mono (fun r hr => ⟨by omega, ?_⟩)
  have h2 := heldSs_loop 1 (by omega) r.2 (by omega) hr.2.2 _ 0 rfl (Nat.zero_le _)
  rw [hr.1, ← hr.2.1]
  simpa [laws_heldSecStepS.f] using h2
end Go.Proofs.YthjocaegapchaaaX
