/-
  What is found chosen, for the program and the reference alike.
  Conditions: lists of at most a million elements; what the reference looks at bears each slot once.
-/
import Derived.Test.YtncohokalilnbaaXCouncil
import Derived.Test.YtncohokalilnbaaXFind
import Derived.Test.YtncohokalilnbaaPx13
namespace Go.Proofs.YtncohokalilnbaaX
open Go.RowKit Go.Proofs.Ytncohokalilnbaa.P Go.Proofs.YtncohokalilnbaaW.PrintWords Go.Proofs.YtncohokalilnbaaW.PrintLast Go.Proofs.YtncohokalilnbaaW.PrintMore
set_option linter.unusedVariables false
set_option linter.unusedSimpArgs false

def sameB (p q : Pp) : Bool := (p.f0 == q.f0 && (p.f1 == q.f1 && (p.f2.f0 == q.f2.f0 && (p.f2.f1 == q.f2.f1 && (p.f2.f2 == q.f2.f2 && (p.f2.f3 == q.f2.f3 && (p.f2.f4 == q.f2.f4 && (p.f2.f5 == q.f2.f5 && (p.f2.f6 == q.f2.f6 && (p.f2.f7 == q.f2.f7 && (p.f2.f8 == q.f2.f8 && (p.f2.f9 == q.f2.f9))))))))))))
theorem same_iff (p q : Pp) : sameB p q = true ↔ p = q := by
  obtain ⟨a0, a1, ⟨b0, b1, b2, b3, b4, b5, b6, b7, b8, b9⟩⟩ := p
  obtain ⟨c0, c1, ⟨d0, d1, d2, d3, d4, d5, d6, d7, d8, d9⟩⟩ := q
  simp [sameB]
def okT (p : Pp) : Int × Int × Int × Int × Int × Int × Int × Int × Int × Int × Bool := (p.f2.f0, p.f2.f1, p.f2.f2, p.f2.f3, p.f2.f4, p.f2.f5, p.f2.f6, p.f2.f7, p.f2.f8, p.f2.f9, true)
def noT : Int × Int × Int × Int × Int × Int × Int × Int × Int × Int × Bool := (0, 0, 0, 0, 0, 0, 0, 0, 0, 0, false)
def hitB (s : Int) (M : List Pp) (p : Pp) : Bool := decide (p.f0 = s) && M.any (sameB p)
def orT (h : Option Pp) (r : Int × Int × Int × Int × Int × Int × Int × Int × Int × Int × Bool) : Int × Int × Int × Int × Int × Int × Int × Int × Int × Int × Bool := match h with
  | some p => okT p
  | none => r
def chosenT (s : Int) (V : List S84) : Int × Int × Int × Int × Int × Int × Int × Int × Int × Int × Bool :=
  orT ((rd_T84 V 1).f1.find? (hitB s (rd_T84 V 0).f1)) (orT ((rd_T84 V 2).f1.find? (hitB s (rd_T84 V 0).f1)) (orT ((rd_T84 V 2).f1.find? (hitB s (rd_T84 V 1).f1)) noT))
theorem impl_l2 (s : Int) (x19 : _) (x20 x21 : Int) (L M : List Pp) (x32 x33 : Int) (V : List S84) (R : List Int) (Sk : List S88) (W : List S93) (D : List S53) (x0 x1 : Int) (p : Pp) (r : Int × Int × Int × Int × Int × Int × Int × Int × Int × Int × Bool) (hM : M.length ≤ 1048576)
    (hr : T (fun k => impl_SynChosen.l1 k s x19 x20 x21 L x32 (wrap64 (x33 + 1)) V R Sk W D x0 x1) (· = r)) : ∀ (d i : Nat), M.length - i = d → i ≤ M.length →
    T (fun k => impl_SynChosen.l2 k s x19 x20 x21 L x32 x33 M (M.length : Int) (i : Int) V R Sk W D x0 x1 p.f0 p.f1 p.f2.f0 p.f2.f1 p.f2.f2 p.f2.f3 p.f2.f4 p.f2.f5 p.f2.f6 p.f2.f7 p.f2.f8 p.f2.f9) (· = if (decide (p.f0 = s) && (M.drop i).any (sameB p)) = true then okT p else r) := by
  intro d
  induction d with
  | zero =>
    intro i hd hi
    obtain rfl : i = M.length := by omega
    refine T.succ ?_
    simp only [impl_SynChosen.l2]
    refine T.neg (by omega) (hr.mono (fun q hq => ?_))
    rw [hq, List.drop_length, List.any_nil, Bool.and_false]
    rfl
  | succ d ih =>
    intro i hd hi
    have hlt : i < M.length := by omega
    refine T.succ ?_
    simp only [impl_SynChosen.l2, wrap_succ hlt (show M.length ≤ 4611686018427387904 by omega)]
    refine T.pos (by omega) (T.pos (by omega) (T.pos (by omega) ?_))
    have next := ih (i + 1) (by omega) (by omega)
    rw [List.drop_eq_getElem_cons hlt, List.any_cons, rdPp M i hlt]
    have e : (p.f0 == M[i].f0 && (p.f1 == M[i].f1 && (p.f2.f0 == M[i].f2.f0 && (p.f2.f1 == M[i].f2.f1 && (p.f2.f2 == M[i].f2.f2 && (p.f2.f3 == M[i].f2.f3 && (p.f2.f4 == M[i].f2.f4 && (p.f2.f5 == M[i].f2.f5 && (p.f2.f6 == M[i].f2.f6 && (p.f2.f7 == M[i].f2.f7 && (p.f2.f8 == M[i].f2.f8 && (p.f2.f9 == M[i].f2.f9)))))))))))) = sameB p M[i] := rfl
    rw [e]
    refine T.ite (fun h => ?_) (fun h => next.mono (fun q hq => ?_))
    · refine T.ite (fun h2 => T.ret ?_) (fun h2 => next.mono (fun q hq => ?_))
      · rw [h2, decide_eq_true h]
        rfl
      · rw [hq, Bool.eq_false_iff.2 h2, Bool.false_or]
    · rw [hq, decide_eq_false h, Bool.false_and, Bool.false_and]
theorem impl_l1 (s : Int) (x19 : _) (x20 x21 : Int) (L M : List Pp) (V : List S84) (R : List Int) (Sk : List S88) (W : List S93) (D : List S53) (x0 x1 : Int) (r : Int × Int × Int × Int × Int × Int × Int × Int × Int × Int × Bool) (hL : L.length ≤ 1048576) (hM : M.length ≤ 1048576) (h0 : 0 ≤ x1) (h1 : x1 < (V.length : Int)) (he : (rd_T84 V x1).f1 = M)
    (hr : T (fun k => impl_SynChosen.l0 k s x19 x20 (wrap64 (x21 + 1)) V R Sk W D) (· = r)) : ∀ (d i : Nat), L.length - i = d → i ≤ L.length →
    T (fun k => impl_SynChosen.l1 k s x19 x20 x21 L (L.length : Int) (i : Int) V R Sk W D x0 x1) (· = orT ((L.drop i).find? (hitB s M)) r) := by
  intro d
  induction d with
  | zero =>
    intro i hd hi
    obtain rfl : i = L.length := by omega
    refine T.succ ?_
    simp only [impl_SynChosen.l1]
    refine T.neg (by omega) (hr.mono (fun q hq => ?_))
    rw [hq, List.drop_length]
    rfl
  | succ d ih =>
    intro i hd hi
    have hlt : i < L.length := by omega
    have next := ih (i + 1) (by omega) (by omega)
    refine T.succ ?_
    simp only [impl_SynChosen.l1]
    refine T.pos (by omega) (T.pos (by omega) (T.pos (by omega) (T.pos h0 (T.pos h1 ?_))))
    rw [← wrap_succ hlt (by omega)] at next
    rw [he, rdPp L i hlt]
    refine (impl_l2 s x19 x20 x21 L M (L.length : Int) (i : Int) V R Sk W D x0 x1 L[i] _ hM next M.length 0 rfl (Nat.zero_le _)).mono (fun q hq => ?_)
    rw [hq, List.drop_eq_getElem_cons hlt, List.find?_cons, List.drop_zero]
    cases h : hitB s M L[i] with
    | true => unfold hitB at h; rw [if_pos h]; rfl
    | false => unfold hitB at h; rw [if_neg (by rw [h]; simp)]
theorem impl_chosen (s : Int) (V : List S84) (R : List Int) (Sk : List S88) (W : List S93) (D : List S53) (hD : D.length ≤ 1048576) (hW : W.length ≤ 1048576) (hW2 : ∀ x ∈ W, x.f15.length ≤ 1048576 ∧ x.f16.length ≤ 1048576 ∧ (-9223372036854775808 ≤ x.f1 ∧ x.f1 ≤ 9223372036854775807) ∧ (-9223372036854775808 ≤ x.f2 ∧ x.f2 ≤ 9223372036854775807)) (hV2 : ∀ x ∈ V, x.f1.length ≤ 1048576) : T (fun k => impl_SynChosen.f k V R Sk W D s) (· = if councilB V R Sk W D = true then chosenT s V else noT) := by
  simp only [impl_SynChosen.f]
  refine T.bind_eq (impl_council V R Sk W D hD hW hW2 hV2) ?_
  refine T.ite (fun h => ?_) (fun h => T.ret (by rw [if_neg h]; rfl))
  rw [if_pos h]
  have h3 : V.length = 3 := by
    unfold councilB at h
    rw [Bool.and_eq_true, decide_eq_true_eq] at h
    exact h.1.1
  have hv : ∀ i : Nat, i < 3 → (rd_T84 V (i : Int)).f1.length ≤ 1048576 := fun i hi => by
    have := hV2 _ (List.getElem_mem (show i < V.length by omega))
    rw [← getD_nat V i (by omega) z84] at this
    exact this
  refine T.bind_eq (T.ret rfl) ?_
  unfold chosenT
  refine T.succ ?_
  simp only [impl_SynChosen.l0]
  refine T.pos (by decide) (T.pos (by decide) (T.pos (by decide) (T.pos (by decide) (T.pos (show (1 : Int) < (V.length : Int) by omega) ?_))))
  refine impl_l1 s _ _ _ (rd_T84 V 1).f1 (rd_T84 V 0).f1 V R Sk W D _ _ _ (hv 1 (by omega)) (hv 0 (by omega)) (by decide) (show (0 : Int) < (V.length : Int) by omega) rfl ?_ _ 0 rfl (Nat.zero_le _)
  refine T.succ ?_
  simp only [impl_SynChosen.l0, wrap_one]
  refine T.pos (by decide) (T.pos (by decide) (T.pos (by decide) (T.pos (by decide) (T.pos (show (2 : Int) < (V.length : Int) by omega) ?_))))
  refine impl_l1 s _ _ _ (rd_T84 V 2).f1 (rd_T84 V 0).f1 V R Sk W D _ _ _ (hv 2 (by omega)) (hv 0 (by omega)) (by decide) (show (0 : Int) < (V.length : Int) by omega) rfl ?_ _ 0 rfl (Nat.zero_le _)
  refine T.succ ?_
  simp only [impl_SynChosen.l0, wrap_two]
  refine T.pos (by decide) (T.pos (by decide) (T.pos (by decide) (T.pos (by decide) (T.pos (show (2 : Int) < (V.length : Int) by omega) ?_))))
  refine impl_l1 s _ _ _ (rd_T84 V 2).f1 (rd_T84 V 1).f1 V R Sk W D _ _ _ (hv 2 (by omega)) (hv 1 (by omega)) (by decide) (show (1 : Int) < (V.length : Int) by omega) rfl ?_ _ 0 rfl (Nat.zero_le _)
  refine T.succ ?_
  simp only [impl_SynChosen.l0, wrap_three]
  exact T.neg (by decide) (T.ret rfl)
theorem spec_pair (s : Int) (V : List S84) (R : List Int) (Sk : List S88) (W : List S93) (D : List S53) (i j : Nat) (r : Int × Int × Int × Int × Int × Int × Int × Int × Int × Int × Bool) (hi : i < V.length) (hj : j < V.length) (hV2 : ∀ i : Nat, i < 3 → (rd_T84 V (i : Int)).f1.length ≤ 1048576) (hi3 : i < 3) (hj3 : j < 3) (hu : ∀ i : Nat, i < 3 → Uni (rd_T84 V (i : Int)).f1)
    (hr : T (fun k => spec_SynChosen.l1 k s (i : Int) (wrap64 ((j : Int) + 1)) V R Sk W D) (· = r)) : T (fun k => spec_SynChosen.j4 k s (i : Int) (j : Int) V R Sk W D) (· = orT ((rd_T84 V (i : Int)).f1.find? (hitB s (rd_T84 V (j : Int)).f1)) r) := by
  have hLl := hV2 i hi3
  have hMl := hV2 j hj3
  have hLu := hu i hi3
  have hMu := hu j hj3
  refine T.succ ?_
  simp only [spec_SynChosen.j4, spec_l21Paper.f]
  refine T.pos (by omega) (T.pos (by omega) ?_)
  have no : ∀ (a : Int), (rd_T84 V (i : Int)).f1.find? (hitB s (rd_T84 V (j : Int)).f1) = none → T (fun k => spec_SynChosen.j5 k s (i : Int) (j : Int) a false V R Sk W D) (· = orT ((rd_T84 V (i : Int)).f1.find? (hitB s (rd_T84 V (j : Int)).f1)) r) := fun a h => by
    refine T.succ ?_
    simp only [spec_SynChosen.j5]
    refine T.neg (by simp) (hr.mono (fun q hq => ?_))
    rw [hq, h]
    rfl
  generalize hL : (rd_T84 V (i : Int)).f1 = L at *
  generalize hM : (rd_T84 V (j : Int)).f1 = M at *
  refine T.bind (spec_find L s hLl _ 0 rfl (Nat.zero_le _) (fun j h => absurd h (Nat.not_lt_zero _))) (fun a ha => ?_)
  refine T.pos (by omega) (T.pos (by omega) ?_)
  refine T.bind (spec_find M s hMl _ 0 rfl (Nat.zero_le _) (fun j h => absurd h (Nat.not_lt_zero _))) (fun b hb => ?_)
  obtain ⟨rfl, ha⟩ | ⟨a, rfl, hal, has⟩ := ha
  · exact T.neg (by omega) (no _ (find_no ha))
  refine T.pos (by omega) ?_
  have hx : rd_T53 L (a : Int) ∈ L := by rw [rdPp L a hal]; exact List.getElem_mem hal
  have hfu := find_uni (G := fun p => M.any (sameB p)) hLu hx has
  obtain ⟨rfl, hb⟩ | ⟨b, rfl, hbl, hbs⟩ := hb
  · refine T.neg (by omega) (no _ ?_)
    unfold hitB
    rw [hfu, if_neg]
    intro h
    obtain ⟨q, hq, hq2⟩ := List.any_eq_true.1 h
    rw [same_iff] at hq2
    obtain ⟨c, hc, rfl⟩ := List.mem_iff_getElem.1 hq
    exact hb c hc (by rw [rdPp M c hc, ← hq2]; exact has)
  refine T.pos (by omega) (T.pos (by omega) (T.pos (by omega) (T.pos (by omega) (T.pos (by omega) ?_))))
  have hy : rd_T53 M (b : Int) ∈ M := by rw [rdPp M b hbl]; exact List.getElem_mem hbl
  have hany : M.any (sameB (rd_T53 L (a : Int))) = sameB (rd_T53 L (a : Int)) (rd_T53 M (b : Int)) := by
    apply Bool.eq_iff_iff.2
    rw [List.any_eq_true, same_iff]
    constructor
    · rintro ⟨q, hq, hq2⟩
      rw [same_iff] at hq2
      rw [hq2]
      exact hMu q hq _ hy (by rw [← hq2, has, hbs])
    · intro h
      exact ⟨_, hy, (same_iff _ _).2 h⟩
  refine T.succ ?_
  simp only [spec_SynChosen.j5]
  have e : ((rd_T53 L (a : Int)).f0 == (rd_T53 M (b : Int)).f0 && ((rd_T53 L (a : Int)).f1 == (rd_T53 M (b : Int)).f1 && ((rd_T53 L (a : Int)).f2.f0 == (rd_T53 M (b : Int)).f2.f0 && ((rd_T53 L (a : Int)).f2.f1 == (rd_T53 M (b : Int)).f2.f1 && ((rd_T53 L (a : Int)).f2.f2 == (rd_T53 M (b : Int)).f2.f2 && ((rd_T53 L (a : Int)).f2.f3 == (rd_T53 M (b : Int)).f2.f3 && ((rd_T53 L (a : Int)).f2.f4 == (rd_T53 M (b : Int)).f2.f4 && ((rd_T53 L (a : Int)).f2.f5 == (rd_T53 M (b : Int)).f2.f5 && ((rd_T53 L (a : Int)).f2.f6 == (rd_T53 M (b : Int)).f2.f6 && ((rd_T53 L (a : Int)).f2.f7 == (rd_T53 M (b : Int)).f2.f7 && ((rd_T53 L (a : Int)).f2.f8 == (rd_T53 M (b : Int)).f2.f8 && (rd_T53 L (a : Int)).f2.f9 == (rd_T53 M (b : Int)).f2.f9))))))))))) = sameB (rd_T53 L (a : Int)) (rd_T53 M (b : Int)) := rfl
  rw [e, ← hany]
  refine T.ite (fun h => ?_) (fun h => hr.mono (fun q hq => ?_))
  · rw [hL]
    refine T.pos (by omega) (T.pos (by omega) (T.pos (by omega) (T.pos (by omega) (T.ret ?_))))
    unfold hitB
    rw [hfu, if_pos h]
    rfl
  · unfold hitB
    rw [hq, hfu, if_neg h]
    rfl
theorem spec_chosen (s : Int) (V : List S84) (R : List Int) (Sk : List S88) (W : List S93) (D : List S53) (hD : D.length ≤ 1048576) (hW : W.length ≤ 1048576) (hV2 : ∀ x ∈ V, x.f1.length ≤ 1048576) : T (fun k => spec_SynChosen.f k V R Sk W D s) (· = if councilB V R Sk W D = true then chosenT s V else noT) := by
  simp only [spec_SynChosen.f]
  refine T.bind_eq (spec_council V R Sk W D hD hW hV2) ?_
  refine T.ite (fun h => ?_) (fun h => T.ret (by rw [if_neg h]; rfl))
  rw [if_pos h]
  unfold councilB at h
  rw [Bool.and_eq_true, decide_eq_true_eq, Bool.and_eq_true, List.all_eq_true] at h
  have h3 : V.length = 3 := h.1.1
  have hv : ∀ i : Nat, i < 3 → (rd_T84 V (i : Int)).f1.length ≤ 1048576 := fun i hi => by
    have := hV2 _ (List.getElem_mem (show i < V.length by omega))
    rw [← getD_nat V i (by omega) z84] at this
    exact this
  have hu : ∀ i : Nat, i < 3 → Uni (rd_T84 V (i : Int)).f1 := fun i hi => by
    have := h.2.1 i (List.mem_range.2 hi)
    unfold threeB at this
    rw [Bool.and_eq_true, voterB_iff] at this
    exact uni_of this.1.1
  have pair := fun i j r hi hj hr => spec_pair s V R Sk W D i j r (by omega) (by omega) hv hi hj hu hr
  unfold chosenT
  have next : ∀ (i : Int) (r : Int × Int × Int × Int × Int × Int × Int × Int × Int × Int × Bool), T (fun k => spec_SynChosen.l0 k s i V R Sk W D) (· = r) → T (fun k => spec_SynChosen.l0 k s i V R Sk W D) (· = r) := fun _ _ h => h
  refine T.succ ?_
  simp only [spec_SynChosen.j0]
  refine T.succ ?_
  simp only [spec_SynChosen.l0]
  refine T.pos (by omega) (T.succ ?_)
  simp only [spec_SynChosen.j2]
  refine T.succ ?_
  simp only [spec_SynChosen.l1]
  refine T.neg (by omega) (T.succ ?_)
  simp only [spec_SynChosen.l0, wrap_one]
  refine T.pos (by omega) (T.succ ?_)
  simp only [spec_SynChosen.j2]
  refine T.succ ?_
  simp only [spec_SynChosen.l1]
  refine T.pos (by omega) (pair 1 0 _ (by omega) (by omega) (T.succ ?_))
  simp only [spec_SynChosen.l1]
  refine T.neg (by rw [show wrap64 (((0 : Nat) : Int) + 1) = 1 from wrap_one]; decide) (T.succ ?_)
  rw [show wrap64 (((1 : Nat) : Int) + 1) = 2 from wrap_two]
  simp only [spec_SynChosen.l0]
  refine T.pos (by omega) (T.succ ?_)
  simp only [spec_SynChosen.j2]
  refine T.succ ?_
  simp only [spec_SynChosen.l1]
  refine T.pos (by omega) (pair 2 0 _ (by omega) (by omega) (T.succ ?_))
  simp only [spec_SynChosen.l1]
  refine T.pos (by rw [show wrap64 (((0 : Nat) : Int) + 1) = 1 from wrap_one]; decide) ?_
  rw [show wrap64 (((0 : Nat) : Int) + 1) = ((1 : Nat) : Int) from wrap_one]
  refine pair 2 1 _ (by omega) (by omega) (T.succ ?_)
  simp only [spec_SynChosen.l1]
  refine T.neg (by rw [show wrap64 (((1 : Nat) : Int) + 1) = 2 from wrap_two]; decide) (T.succ ?_)
  rw [show wrap64 (((2 : Nat) : Int) + 1) = 3 from wrap_three]
  simp only [spec_SynChosen.l0]
  exact T.neg (by omega) (T.ret rfl)
end Go.Proofs.YtncohokalilnbaaX
