/-
  What the exact laws' own functions on lists of steps come to: sizes and copies.
  Conditions: sizes far below Go's bounds.
-/
import Derived.Test.YthjocaegapchaaaXExStep
import Derived.Test.YthjocaegapchaaaPx27
namespace Go.Proofs.YthjocaegapchaaaX
open Go.RowKit Go.Proofs.Ythjocaegapchaaa.P Go.Proofs.YthjocaegapchaaaW.PrintWords Go.Proofs.YthjocaegapchaaaW.PrintLast Go.Proofs.YthjocaegapchaaaW.PrintMore
set_option linter.unusedVariables false
set_option linter.unusedSimpArgs false

theorem rd_LSs (l : List S97) (i : Nat) (h : i < l.length) : rd_T97 l (i : Int) = l[i] := getD_nat l i h _
theorem szSs_loop (l : List S97) (hl : l.length ≤ 1048576) (hs : ∀ x ∈ l, x.f2.size ≤ 9223372036854775807) : ∀ (d i : Nat) (a : Int), l.length - i = d → i ≤ l.length → 0 ≤ a → a ≤ 1048576 →
    T (fun k => laws_szSecStepS.l0 k l a (i : Int)) (fun r => r < 0 ∨ (0 ≤ r ∧ r ≤ a)) := by
  intro d
  induction d with
  | zero =>
    intro i a hd hi h0 h1
    refine T.succ ?_
    simp only [laws_szSecStepS.l0]
    exact T.neg (by omega) (T.ret (by omega))
  | succ d ih =>
    intro i a hd hi h0 h1
    have hlt : i < l.length := by omega
    have hz := hs _ (List.getElem_mem hlt)
    refine T.succ ?_
    simp only [laws_szSecStepS.l0]
    refine T.pos (by omega) (T.pos (by omega) ?_)
    simp only [rd_LSs l i hlt, wrap_succ hlt (show l.length ≤ 4611686018427387904 by omega), laws_szSecStep.f, wrap64_id (x := a - (l[i].f2.size : Int)) (by omega) (by omega)]
    by_cases h : a - (l[i].f2.size : Int) < 0
    · simp only [if_pos h, Option.bind_some]
      exact T.pos (by omega) (T.ret (by omega))
    · simp only [if_neg h, Option.bind_some]
      exact (ih (i + 1) _ (by omega) (by omega) (by omega) (by omega)).mono (fun r hr => by omega)
theorem szSs_T (l : List S97) (hl : l.length ≤ 9223372036854775807) (hs : ∀ x ∈ l, x.f2.size ≤ 9223372036854775807) (a : Int) (h0 : 0 ≤ a) (h1 : a ≤ 1048576) :
    T (fun k => laws_szSecStepS.f k l a) (fun r => r < 0 ∨ (0 ≤ r ∧ r ≤ a ∧ (l.length : Int) ≤ a)) := by
  simp only [laws_szSecStepS.f, wrap64_id (x := a - (l.length : Int)) (by omega) (by omega)]
  refine T.ite (fun h => T.ret (by omega)) (fun h => ?_)
  exact (szSs_loop l (by omega) hs _ 0 _ rfl (Nat.zero_le _) (by omega) (by omega)).mono (fun r hr => by omega)
def toSs (x : S97) : S61 := ⟨x.f0, x.f1, x.f2⟩
theorem toSs_loop (l : List S97) (hl : l.length ≤ 1048576) : ∀ (d i : Nat) (y : List S61), l.length - i = d → i ≤ l.length → y.length = l.length → y.take i = (l.take i).map toSs →
    T (fun k => laws_toSecStepS.l0 k l y (i : Int)) (· = l.map toSs) := by
  intro d
  induction d with
  | zero =>
    intro i y hd hi hy ht
    refine T.succ ?_
    simp only [laws_toSecStepS.l0]
    refine T.neg (by omega) (T.ret ?_)
    rwa [List.take_of_length_le (by omega), List.take_of_length_le (by omega)] at ht
  | succ d ih =>
    intro i y hd hi hy ht
    have hlt : i < l.length := by omega
    refine T.succ ?_
    simp only [laws_toSecStepS.l0]
    refine T.pos (by omega) (T.pos (by omega) ?_)
    simp only [rd_LSs l i hlt, laws_toSecStep.f, Option.bind_some]
    refine T.pos (by omega) ?_
    rw [wrap_succ hlt (by omega), Int.toNat_natCast]
    exact ih (i + 1) _ (by omega) (by omega) (by rw [List.length_set]; exact hy) (by
      rw [take_set_succ _ _ _ (by omega), ht, List.take_succ_eq_append_getElem hlt, List.map_append]
      rfl)
theorem toSsS_T (l : List S97) (hl : l.length ≤ 1048576) : T (fun k => laws_toSecStepS.f k l) (· = l.map toSs) := by
  simp only [laws_toSecStepS.f]
  refine T.pos (by omega) (T.pos (by omega) ?_)
  exact toSs_loop l hl _ 0 _ rfl (Nat.zero_le _) (by simp) rfl
theorem markSsA_T (y : List S61) (a : Int) (ha : 0 ≤ a) (hb : a + 3 * (y.length : Int) ≤ 4611686018427387904) : T (fun k => laws_markSecStepS.f k y a) (fun r => r.1 = a + 3 * (y.length : Int)) := by
  have h1 := markSs_loop a ha _ 0 y rfl (Nat.zero_le _) hb (fun j hj => by simp at hj)
  have h1 : T (fun k => laws_markSecStepS.f k y a) (fun r => r.1 = a + 3 * (y.length : Int) ∧ r.2.length = y.length ∧ MkSs a r.2) := by simpa [laws_markSecStepS.f] using h1
  exact h1.mono (fun r hr => hr.1)
end Go.Proofs.YthjocaegapchaaaX
