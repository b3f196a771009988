/-
  What the exact laws' own functions on voters come to: sizes, copies, likeness.
  Conditions: sizes far below Go's bounds.
-/
import Derived.Test.YtncohokalilnbaaXExPp
import Derived.Test.YtncohokalilnbaaPx5
import Derived.Test.YtncohokalilnbaaPx7
import Derived.Test.YtncohokalilnbaaPx3
namespace Go.Proofs.YtncohokalilnbaaX
open Go.RowKit Go.Proofs.Ytncohokalilnbaa.P Go.Proofs.YtncohokalilnbaaW.PrintWords Go.Proofs.YtncohokalilnbaaW.PrintLast Go.Proofs.YtncohokalilnbaaW.PrintMore
set_option linter.unusedVariables false
set_option linter.unusedSimpArgs false

theorem rd_LPp (l : List S127) (i : Nat) (h : i < l.length) : rd_T127 l (i : Int) = l[i] := getD_nat l i h _
theorem rd_IPp (l : List S53) (i : Nat) (h : i < l.length) : rd_T53 l (i : Int) = l[i] := getD_nat l i h _
theorem szVoter_f (P : Int) (l : List S127) (a : Int) (h0 : 0 ≤ a) (h1 : a ≤ 1048576) (hl : l.length ≤ 9223372036854775807) : ∃ r, laws_szSynVoter.f P l a = some r ∧ (r < 0 ∨ (l.length : Int) ≤ a) := by
  unfold laws_szSynVoter.f laws_szSynPaperS.f
  rw [wrap64_id (x := a - (l.length : Int)) (by omega) (by omega)]
  by_cases h : a - (l.length : Int) < 0
  · rw [if_pos h]; exact ⟨-1, rfl, .inl (by omega)⟩
  · rw [if_neg h]
    simp only [Option.bind_some]
    rw [if_neg h]
    exact ⟨_, rfl, .inr (by omega)⟩
theorem toPp_loop (l : List S127) (hl : l.length ≤ 1048576) : ∀ (d i : Nat) (y : List S53), l.length - i = d → i ≤ l.length → y.length = l.length → y.take i = (l.take i).map toPp →
    T (fun k => laws_toSynPaperS.l0 k l y (i : Int)) (· = l.map toPp) := by
  intro d
  induction d with
  | zero =>
    intro i y hd hi hy ht
    refine T.succ ?_
    simp only [laws_toSynPaperS.l0]
    refine T.neg (by omega) (T.ret ?_)
    rwa [List.take_of_length_le (by omega), List.take_of_length_le (by omega)] at ht
  | succ d ih =>
    intro i y hd hi hy ht
    have hlt : i < l.length := by omega
    refine T.succ ?_
    simp only [laws_toSynPaperS.l0]
    refine T.pos (by omega) (T.pos (by omega) ?_)
    simp only [rd_LPp l i hlt, laws_toSynPaper.f, laws_toCmd.f, Option.bind_some]
    refine T.pos (by omega) ?_
    rw [wrap_succ hlt (by omega), Int.toNat_natCast]
    exact ih (i + 1) _ (by omega) (by omega) (by rw [List.length_set]; exact hy) (by
      rw [take_set_succ _ _ _ (by omega), ht, List.take_succ_eq_append_getElem hlt, List.map_append]
      rfl)
theorem toVoter_T (P : Int) (l : List S127) (hl : l.length ≤ 1048576) : T (fun k => laws_toSynVoter.f k P l) (· = (P, l.map toPp)) := by
  simp only [laws_toSynVoter.f, laws_toSynPaperS.f]
  refine T.bind_eq (a := l.map toPp) ?_ (T.ret rfl)
  refine T.pos (by omega) (T.pos (by omega) ?_)
  exact toPp_loop l hl _ 0 _ rfl (Nat.zero_le _) (by simp) rfl
theorem eqPp_loop (l m : List S53) (hlm : l.length = m.length) (hl : l.length ≤ 4611686018427387904) : ∀ (d i : Nat), l.length - i = d → i ≤ l.length →
    T (fun k => laws_eqSynPaperS.l0 k l m (i : Int)) (fun r => r = true ↔ l.drop i = m.drop i) := by
  intro d
  induction d with
  | zero =>
    intro i hd hi
    refine T.succ ?_
    simp only [laws_eqSynPaperS.l0]
    refine T.neg (by omega) (T.ret ?_)
    rw [List.drop_of_length_le (by omega), List.drop_of_length_le (by omega)]
    simp
  | succ d ih =>
    intro i hd hi
    have hlt : i < l.length := by omega
    refine T.succ ?_
    simp only [laws_eqSynPaperS.l0]
    refine T.pos (by omega) (T.pos (by omega) (T.pos (by omega) ?_))
    simp only [rd_IPp l i hlt, rd_IPp m i (by omega)]
    obtain ⟨r, hr, hr2⟩ := eqPp_f l[i] (m[i]'(by omega))
    simp only [hr, Option.bind_some]
    rw [List.drop_eq_getElem_cons hlt, List.drop_eq_getElem_cons (show i < m.length by omega)]
    refine T.ite (fun h => ?_) (fun h => T.ret ⟨ff, fun h1 => absurd (hr2.2 (List.cons.inj h1).1) h⟩)
    rw [wrap_succ hlt hl]
    exact (ih (i + 1) (by omega) (by omega)).mono (fun r hr => hr.trans ⟨fun h1 => by rw [hr2.1 h, h1], fun h1 => (List.cons.inj h1).2⟩)
theorem eqVoter_T (P Q : Int) (l m : List S53) (hl : l.length ≤ 4611686018427387904) : T (fun k => laws_eqSynVoter.f k P l Q m) (fun r => r = true ↔ P = Q ∧ l = m) := by
  simp only [laws_eqSynVoter.f, laws_eqSynPaperS.f]
  refine T.ite (fun h0 => ?_) (fun h0 => T.ret ⟨ff, fun h => absurd h.1 h0⟩)
  refine T.bind (P := fun r => r = true ↔ l = m) ?_ (fun r hr => ?_)
  · refine T.ite (fun h => ?_) (fun h => T.ret ⟨ff, fun h1 => by subst h1; exact absurd rfl h⟩)
    have := eqPp_loop l m (by omega) hl _ 0 rfl (Nat.zero_le _)
    simpa using this
  · exact T.ite (fun h => T.ret ⟨fun _ => ⟨h0, hr.1 h⟩, fun _ => rfl⟩) (fun h => T.ret ⟨ff, fun h1 => absurd (hr.2 h1.2) h⟩)
end Go.Proofs.YtncohokalilnbaaX
