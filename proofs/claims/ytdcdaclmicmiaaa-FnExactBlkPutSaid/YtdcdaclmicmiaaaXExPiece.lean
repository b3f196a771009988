/-
  What the exact laws' own functions on lists of BlkPiece come to.
  Conditions: sizes far below Go's bounds.
-/
import Derived.Test.YtdcdaclmicmiaaaXPure
import Derived.Test.YtdcdaclmicmiaaaPx11
import Derived.Test.YtdcdaclmicmiaaaPx21
namespace Go.Proofs.YtdcdaclmicmiaaaX
open Go.RowKit Go.Proofs.Ytdcdaclmicmiaaa.P Go.Proofs.YtdcdaclmicmiaaaW.PrintWords Go.Proofs.YtdcdaclmicmiaaaW.PrintLast Go.Proofs.YtdcdaclmicmiaaaW.PrintMore
set_option linter.unusedVariables false
set_option linter.unusedSimpArgs false

/-! ### lists of BlkPiece -/
theorem rd_IBlkPiece (l : List S55) (i : Nat) (h : i < l.length) : rd_T55 l (i : Int) = l[i] := getD_nat l i h _
theorem rd_LBlkPiece (l : List S66) (i : Nat) (h : i < l.length) : rd_T66 l (i : Int) = l[i] := getD_nat l i h _
def toBlkPiece (x : S66) : S55 := ⟨x.f0, x.f1, x.f2, x.f3⟩
theorem toBlkPieceS_loop (l : List S66) (hl : l.length ≤ 1048576) : ∀ (d i : Nat) (y : List S55), l.length - i = d → i ≤ l.length → y.length = l.length → y.take i = (l.take i).map toBlkPiece →
    T (fun k => laws_toBlkPieceS.l0 k l y (i : Int)) (· = l.map toBlkPiece) := by
  intro d
  induction d with
  | zero =>
    intro i y hd hi hy ht
    refine T.succ ?_
    simp only [laws_toBlkPieceS.l0]
    refine T.neg (by omega) (T.ret ?_)
    rwa [List.take_of_length_le (by omega), List.take_of_length_le (by omega)] at ht
  | succ d ih =>
    intro i y hd hi hy ht
    have hlt : i < l.length := by omega
    refine T.succ ?_
    simp only [laws_toBlkPieceS.l0]
    refine T.pos (by omega) (T.pos (by omega) ?_)
    simp only [rd_LBlkPiece l i hlt, laws_toBlkPiece.f, Option.bind_some]
    refine T.pos (by omega) ?_
    rw [wrap_succ hlt (by omega), Int.toNat_natCast]
    exact ih (i + 1) _ (by omega) (by omega) (by rw [List.length_set]; exact hy) (by
      rw [take_set_succ _ _ _ (by omega), ht, List.take_succ_eq_append_getElem hlt, List.map_append]
      rfl)
theorem toBlkPieceS_T (l : List S66) (hl : l.length ≤ 1048576) : T (fun k => laws_toBlkPieceS.f k l) (· = l.map toBlkPiece) := by
  simp only [laws_toBlkPieceS.f]
  refine T.pos (by omega) (T.pos (by omega) ?_)
  exact toBlkPieceS_loop l hl _ 0 _ rfl (Nat.zero_le _) (by simp) rfl
theorem szBlkPieceS_f (l : List S66) (a : Int) (h0 : 0 ≤ a) (h1 : a ≤ 1048576) (hl : l.length ≤ 9223372036854775807) : laws_szBlkPieceS.f l a = some (if a < (l.length : Int) then -1 else a - (l.length : Int)) := by
  unfold laws_szBlkPieceS.f
  rw [wrap64_id (x := a - (l.length : Int)) (by omega) (by omega)]
  by_cases h : a < (l.length : Int)
  · rw [if_pos h, if_pos (by omega)]
  · rw [if_neg h, if_neg (by omega)]
theorem eqBlkPiece_f (x y : S55) : ∃ r, laws_eqBlkPiece.f x.f0 x.f1 x.f2 x.f3 y.f0 y.f1 y.f2 y.f3 = some r ∧ (r = true ↔ x = y) := by
  unfold laws_eqBlkPiece.f
  obtain ⟨x0, x1, x2, x3⟩ := x
  obtain ⟨y0, y1, y2, y3⟩ := y
  simp only
  repeat' split
  all_goals first
    | exact ⟨_, rfl, by simp_all⟩
theorem eqBlkPieceS_loop (l m : List S55) (hlm : l.length = m.length) (hl : l.length ≤ 4611686018427387904) : ∀ (d i : Nat), l.length - i = d → i ≤ l.length →
    T (fun k => laws_eqBlkPieceS.l0 k l m (i : Int)) (fun r => r = true ↔ l.drop i = m.drop i) := by
  intro d
  induction d with
  | zero =>
    intro i hd hi
    refine T.succ ?_
    simp only [laws_eqBlkPieceS.l0]
    refine T.neg (by omega) (T.ret ?_)
    rw [List.drop_of_length_le (by omega), List.drop_of_length_le (by omega)]
    simp
  | succ d ih =>
    intro i hd hi
    have hlt : i < l.length := by omega
    refine T.succ ?_
    simp only [laws_eqBlkPieceS.l0]
    refine T.pos (by omega) (T.pos (by omega) (T.pos (by omega) ?_))
    simp only [rd_IBlkPiece l i hlt, rd_IBlkPiece m i (by omega)]
    obtain ⟨r, hr, hr2⟩ := eqBlkPiece_f l[i] (m[i]'(by omega))
    simp only [hr, Option.bind_some]
    rw [List.drop_eq_getElem_cons hlt, List.drop_eq_getElem_cons (show i < m.length by omega)]
    refine T.ite (fun h => ?_) (fun h => T.ret ⟨ff, fun h1 => absurd (hr2.2 (List.cons.inj h1).1) h⟩)
    rw [wrap_succ hlt hl]
    refine (ih (i + 1) (by omega) (by omega)).mono (fun r hr => hr.trans ⟨fun h1 => by rw [hr2.1 h, h1], fun h1 => (List.cons.inj h1).2⟩)
theorem eqBlkPieceS_T (l m : List S55) (hl : l.length ≤ 4611686018427387904) : T (fun k => laws_eqBlkPieceS.f k l m) (fun r => r = true ↔ l = m) := by
  simp only [laws_eqBlkPieceS.f]
  refine T.ite (fun h => ?_) (fun h => T.ret ⟨ff, fun h1 => absurd (by rw [h1]) h⟩)
  exact (eqBlkPieceS_loop l m (by omega) hl _ 0 rfl (Nat.zero_le _)).mono (fun r hr => by simpa using hr)
def MkBlkPiece (a : Int) (l : List S55) : Prop := ∀ j, (h : j < l.length) → l[j].f0 = a + 4 * (j : Int) ∧ l[j].f1 = a + 4 * (j : Int) + 1 ∧ l[j].f2 = a + 4 * (j : Int) + 2 ∧ l[j].f3 = a + 4 * (j : Int) + 3
theorem markBlkPieceS_loop (a : Int) (ha : 0 ≤ a) : ∀ (d i : Nat) (y : List S55), y.length - i = d → i ≤ y.length → a + 4 * (y.length : Int) ≤ 4611686018427387904 → MkBlkPiece a (y.take i) →
    T (fun k => laws_markBlkPieceS.l0 k y (a + 4 * (i : Int)) (i : Int)) (fun r => r.1 = a + 4 * (y.length : Int) ∧ r.2.length = y.length ∧ MkBlkPiece a r.2) := by
  intro d
  induction d with
  | zero =>
    intro i y hd hi hb hm
    refine T.succ ?_
    simp only [laws_markBlkPieceS.l0]
    refine T.neg (by omega) (T.ret ⟨?_, rfl, ?_⟩)
    · simp only; omega
    · rwa [List.take_of_length_le (by omega)] at hm
  | succ d ih =>
    intro i y hd hi hb hm
    have hlt : i < y.length := by omega
    have w1 : wrap64 (a + 4 * (i : Int) + 1) = a + 4 * (i : Int) + 1 := by rw [wrap64_id (by omega) (by omega)] <;> omega
    have w2 : wrap64 (a + 4 * (i : Int) + 1 + 1) = a + 4 * (i : Int) + 2 := by rw [wrap64_id (by omega) (by omega)] <;> omega
    have w3 : wrap64 (a + 4 * (i : Int) + 2 + 1) = a + 4 * (i : Int) + 3 := by rw [wrap64_id (by omega) (by omega)] <;> omega
    have w4 : wrap64 (a + 4 * (i : Int) + 3 + 1) = a + 4 * (i : Int) + 4 := by rw [wrap64_id (by omega) (by omega)] <;> omega
    have rs : ∀ (z : List S55) (v : S55), i < z.length → rd_T55 (z.set i v) (i : Int) = v := fun z v hz => by
      rw [rd_IBlkPiece _ i (by simpa using hz)]; simp
    refine T.succ ?_
    simp only [laws_markBlkPieceS.l0]
    refine T.pos (by omega) (T.pos (by omega) ?_)
    simp only [Option.bind_some, Int.toNat_natCast, w1, w2, w3, w4, rs, hlt, List.length_set, List.set_set, wrap_succ hlt (show y.length ≤ 4611686018427387904 by omega)]
    have := ih (i + 1) (y.set i ⟨a + 4 * (i : Int), a + 4 * (i : Int) + 1, a + 4 * (i : Int) + 2, a + 4 * (i : Int) + 3⟩) (by rw [List.length_set]; omega) (by rw [List.length_set]; omega) (by rw [List.length_set]; exact hb) (by
      rw [take_set_succ _ _ _ hlt]
      intro j hj
      rcases Nat.lt_or_ge j (y.take i).length with h | h
      · simp only [List.getElem_append_left h]
        exact hm j h
      · have e : j = i := by simp at hj h; omega
        subst e
        rw [List.getElem_append_right h]
        simp)
    rw [show a + 4 * ((i + 1 : Nat) : Int) = a + 4 * (i : Int) + 4 by omega] at this
    simpa only [List.length_set] using this
theorem markBlkPieceS_T (y : List S55) (a : Int) (ha : 0 ≤ a) (hb : a + 4 * (y.length : Int) ≤ 4611686018427387904) : T (fun k => laws_markBlkPieceS.f k y a) (fun r => r.1 = a + 4 * (y.length : Int) ∧ r.2.length = y.length ∧ MkBlkPiece a r.2) := by
  have := markBlkPieceS_loop a ha _ 0 y rfl (Nat.zero_le _) hb (fun j hj => by simp at hj)
  simpa [laws_markBlkPieceS.f] using this
theorem heldBlkPieceS_loop (a : Int) (ha : 0 ≤ a) (y : List S55) (hb : a + 4 * (y.length : Int) ≤ 4611686018427387904) (hm : MkBlkPiece a y) : ∀ (d i : Nat), y.length - i = d → i ≤ y.length →
    T (fun k => laws_heldBlkPieceS.l0 k y (a + 4 * (i : Int)) (i : Int)) (· = a + 4 * (y.length : Int)) := by
  intro d
  induction d with
  | zero =>
    intro i hd hi
    refine T.succ ?_
    simp only [laws_heldBlkPieceS.l0]
    refine T.neg (by omega) (T.ret ?_)
    omega
  | succ d ih =>
    intro i hd hi
    have hlt : i < y.length := by omega
    have hm := hm i hlt
    have w1 : wrap64 (a + 4 * (i : Int) + 1) = a + 4 * (i : Int) + 1 := by rw [wrap64_id (by omega) (by omega)] <;> omega
    have w2 : wrap64 (a + 4 * (i : Int) + 1 + 1) = a + 4 * (i : Int) + 2 := by rw [wrap64_id (by omega) (by omega)] <;> omega
    have w3 : wrap64 (a + 4 * (i : Int) + 2 + 1) = a + 4 * (i : Int) + 3 := by rw [wrap64_id (by omega) (by omega)] <;> omega
    have w4 : wrap64 (a + 4 * (i : Int) + 3 + 1) = a + 4 * (i : Int) + 4 := by rw [wrap64_id (by omega) (by omega)] <;> omega
    refine T.succ ?_
    simp only [laws_heldBlkPieceS.l0]
    refine T.pos (by omega) (T.pos (by omega) ?_)
    simp only [rd_IBlkPiece y i hlt, w1, w2, w3, w4, wrap_succ hlt (show y.length ≤ 4611686018427387904 by omega)]
    refine T.pos hm.1 ?_
    refine T.pos hm.2.1 ?_
    refine T.pos hm.2.2.1 ?_
    refine T.pos hm.2.2.2 ?_
    have := ih (i + 1) (by omega) (by omega)
    rwa [show a + 4 * ((i + 1 : Nat) : Int) = a + 4 * (i : Int) + 4 by omega] at this
theorem heldBlkPieceS_T (y : List S55) (a : Int) (ha : 0 ≤ a) (hb : a + 4 * (y.length : Int) ≤ 4611686018427387904) (hm : MkBlkPiece a y) : T (fun k => laws_heldBlkPieceS.f k y a) (· = a + 4 * (y.length : Int)) := by
  have := heldBlkPieceS_loop a ha y hb hm _ 0 rfl (Nat.zero_le _)
  simpa [laws_heldBlkPieceS.f] using this
end Go.Proofs.YtdcdaclmicmiaaaX
