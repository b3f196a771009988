/-
  When a council is right, for the program and the reference alike.
  Conditions: lists of at most a million elements.
-/
import Derived.Test.YtncohokalilnbaaXRounds
import Derived.Test.YtncohokalilnbaaXVoter
import Derived.Test.YtncohokalilnbaaXSeeker
import Derived.Test.YtncohokalilnbaaXWord
import Derived.Test.YtncohokalilnbaaPx11
import Derived.Test.YtncohokalilnbaaPx7
namespace Go.Proofs.YtncohokalilnbaaX
open Go.RowKit Go.Proofs.Ytncohokalilnbaa.P Go.Proofs.YtncohokalilnbaaW.PrintWords Go.Proofs.YtncohokalilnbaaW.PrintLast Go.Proofs.YtncohokalilnbaaW.PrintMore
set_option linter.unusedVariables false
set_option linter.unusedSimpArgs false

noncomputable def wordX (x : S93) : Bool := wordB x.f0 x.f1 x.f2 x.f3 x.f4 x.f5 x.f6.f0 x.f6.f1 x.f6.f2 x.f6.f3 x.f6.f4 x.f6.f5 x.f6.f6 x.f6.f7 x.f6.f8 x.f6.f9 x.f7 x.f8 x.f9 x.f10 x.f11 x.f12 x.f13 x.f14 x.f15 x.f16
def seekX (x : S88) : Bool := seekB x.f0 x.f1 x.f2 x.f3.f0 x.f3.f1 x.f3.f2 x.f3.f3 x.f3.f4 x.f3.f5 x.f3.f6 x.f3.f7 x.f3.f8 x.f3.f9 x.f4.f0 x.f4.f1 x.f4.f2.f0 x.f4.f2.f1 x.f4.f2.f2 x.f4.f2.f3 x.f4.f2.f4 x.f4.f2.f5 x.f4.f2.f6 x.f4.f2.f7 x.f4.f2.f8 x.f4.f2.f9 x.f5
noncomputable def threeB (V : List S84) (R : List Int) (Sk : List S88) (i : Nat) : Bool := voterB (rd_T84 V (i : Int)).f0 (rd_T84 V (i : Int)).f1 && (decide (0 ≤ rd R (i : Int) ∧ rd R (i : Int) ≤ 12498) && seekX (rd_T88 Sk (i : Int)))
noncomputable def councilB (V : List S84) (R : List Int) (Sk : List S88) (W : List S93) (D : List S53) : Bool :=
  decide (V.length = 3 ∧ R.length = 3 ∧ Sk.length = 3 ∧ W.length ≤ 60 ∧ D.length ≤ 240) && ((List.range 3).all (threeB V R Sk) && (W.all wordX && (D.all paperB && true)))
theorem spec_told (V : List S84) (R : List Int) (Sk : List S88) (W : List S93) (D : List S53) (hD : D.length ≤ 1048576) : T (fun k => (fun (k : Nat) (i : Int) => spec_SynCouncilOk.l2 k i V R Sk W D) k 0) (· = (D.all paperB && true)) := by
  refine allS (g := fun k i => spec_SynCouncilOk.l2 k i V R Sk W D) (F := paperB) (one := fun k x => spec_l21PaperOk.f x.f0 x.f1 x.f2.f0 x.f2.f1 x.f2.f2 x.f2.f3 x.f2.f4 x.f2.f5 x.f2.f6 x.f2.f7 x.f2.f8 x.f2.f9) (rest := fun _ => some true) D z53 (fun k i hi => ?_) (fun k => ?_) (fun x h => (T.congr (T.ret rfl) (fun _ => spec_paper x))) (T.ret rfl)
  · simp only [spec_SynCouncilOk.l2]
    rw [if_pos (by omega), if_pos (by omega), wrap_succ hi (by omega)]
    rfl
  · simp only [spec_SynCouncilOk.l2]
    rw [if_neg (by omega)]
theorem spec_radio (V : List S84) (R : List Int) (Sk : List S88) (W : List S93) (D : List S53) (hD : D.length ≤ 1048576) (hW : W.length ≤ 1048576) : T (fun k => (fun (k : Nat) (i : Int) => spec_SynCouncilOk.l1 k i V R Sk W D) k 0) (· = (W.all wordX && (D.all paperB && true))) := by
  refine allS (g := fun k i => spec_SynCouncilOk.l1 k i V R Sk W D) (F := wordX) (one := fun k x => spec_WordOk.f k x.f0 x.f1 x.f2 x.f3 x.f4 x.f5 x.f6.f0 x.f6.f1 x.f6.f2 x.f6.f3 x.f6.f4 x.f6.f5 x.f6.f6 x.f6.f7 x.f6.f8 x.f6.f9 x.f7 x.f8 x.f9 x.f10 x.f11 x.f12 x.f13 x.f14 x.f15 x.f16) (rest := fun k => (fun (k : Nat) (i : Int) => spec_SynCouncilOk.l2 k i V R Sk W D) k 0) W z93 (fun k i hi => ?_) (fun k => ?_) (fun x h => spec_word x.f0 x.f1 x.f2 x.f3 x.f4 x.f5 x.f6.f0 x.f6.f1 x.f6.f2 x.f6.f3 x.f6.f4 x.f6.f5 x.f6.f6 x.f6.f7 x.f6.f8 x.f6.f9 x.f7 x.f8 x.f9 x.f10 x.f11 x.f12 x.f13 x.f14 x.f15 x.f16) (spec_told V R Sk W D hD)
  · simp only [spec_SynCouncilOk.l1]
    rw [if_pos (by omega), if_pos (by omega), wrap_succ hi (by omega)]
    rfl
  · simp only [spec_SynCouncilOk.l1]
    rw [if_neg (by omega)]
theorem spec_three (V : List S84) (R : List Int) (Sk : List S88) (W : List S93) (D : List S53) (hD : D.length ≤ 1048576) (hW : W.length ≤ 1048576) (hV : V.length = 3) (hV2 : ∀ x ∈ V, x.f1.length ≤ 1048576) (hR : R.length = 3) (hS : Sk.length = 3) : ∀ (n i : Nat), 3 - i = n → i ≤ 3 →
    T (fun k => spec_SynCouncilOk.l0 k (i : Int) V R Sk W D) (· = (((List.range 3).drop i).all (threeB V R Sk) && (W.all wordX && (D.all paperB && true)))) := by
  intro n
  induction n with
  | zero =>
    intro i hn hi
    obtain rfl : i = 3 := by omega
    refine T.succ ?_
    simp only [spec_SynCouncilOk.l0]
    refine T.neg (by omega) ?_
    exact (spec_radio V R Sk W D hD hW).mono (fun r hr => hr)
  | succ n ih =>
    intro i hn hi
    have hlt : i < 3 := by omega
    refine T.succ ?_
    simp only [spec_SynCouncilOk.l0, l6In_f, Option.bind_some, wrap_succ hlt (show 3 ≤ 4611686018427387904 by omega)]
    rw [List.drop_eq_getElem_cons (show i < (List.range 3).length by simpa using hlt), List.all_cons, List.getElem_range]
    refine T.pos (by omega) (T.pos (by omega) (T.pos (by omega) ?_))
    have hv := hV2 _ (List.getElem_mem (show i < V.length by omega))
    rw [← getD_nat V i (by omega) z84] at hv
    have hF : threeB V R Sk i = (voterB (rd_T84 V (i : Int)).f0 (rd_T84 V (i : Int)).f1 && (decide (0 ≤ rd R (i : Int) ∧ rd R (i : Int) ≤ 12498) && seekX (rd_T88 Sk (i : Int)))) := rfl
    rw [hF]
    refine T.bind_eq (spec_voter (rd_T84 V (i : Int)).f0 (rd_T84 V (i : Int)).f1 (Nat.le_trans hv (by omega))) ?_
    refine T.ite (fun h => ?_) (fun h => T.ret (by rw [Bool.eq_false_iff.2 h]; rfl))
    rw [h, Bool.true_and]
    refine T.pos (by omega) ?_
    refine T.ite (fun h => ?_) (fun h => T.ret (by rw [Bool.eq_false_iff.2 h]; rfl))
    rw [h, Bool.true_and]
    refine T.pos (by omega) ?_
    refine T.bind_eq (a := seekX (rd_T88 Sk (i : Int))) (spec_seek (rd_T88 Sk (i : Int)).f0 (rd_T88 Sk (i : Int)).f1 (rd_T88 Sk (i : Int)).f2 (rd_T88 Sk (i : Int)).f3.f0 (rd_T88 Sk (i : Int)).f3.f1 (rd_T88 Sk (i : Int)).f3.f2 (rd_T88 Sk (i : Int)).f3.f3 (rd_T88 Sk (i : Int)).f3.f4 (rd_T88 Sk (i : Int)).f3.f5 (rd_T88 Sk (i : Int)).f3.f6 (rd_T88 Sk (i : Int)).f3.f7 (rd_T88 Sk (i : Int)).f3.f8 (rd_T88 Sk (i : Int)).f3.f9 (rd_T88 Sk (i : Int)).f4.f0 (rd_T88 Sk (i : Int)).f4.f1 (rd_T88 Sk (i : Int)).f4.f2.f0 (rd_T88 Sk (i : Int)).f4.f2.f1 (rd_T88 Sk (i : Int)).f4.f2.f2 (rd_T88 Sk (i : Int)).f4.f2.f3 (rd_T88 Sk (i : Int)).f4.f2.f4 (rd_T88 Sk (i : Int)).f4.f2.f5 (rd_T88 Sk (i : Int)).f4.f2.f6 (rd_T88 Sk (i : Int)).f4.f2.f7 (rd_T88 Sk (i : Int)).f4.f2.f8 (rd_T88 Sk (i : Int)).f4.f2.f9 (rd_T88 Sk (i : Int)).f5) ?_
    refine T.ite (fun h => ?_) (fun h => T.ret (by rw [Bool.eq_false_iff.2 h]; rfl))
    rw [h, Bool.true_and]
    exact ih (i + 1) (by omega) (by omega)
theorem spec_council (V : List S84) (R : List Int) (Sk : List S88) (W : List S93) (D : List S53) (hD : D.length ≤ 1048576) (hW : W.length ≤ 1048576) (hV2 : ∀ x ∈ V, x.f1.length ≤ 1048576) : T (fun k => spec_SynCouncilOk.f k V R Sk W D) (· = councilB V R Sk W D) := by
  have no : councilB V R Sk W D = false → T (fun k => spec_SynCouncilOk.j0 k true V R Sk W D) (· = councilB V R Sk W D) := fun h => by
    refine T.succ ?_
    simp only [spec_SynCouncilOk.j0, if_true]
    exact T.ret h.symm
  have nl : ∀ (p : Prop) [Decidable p], ¬ p → (V.length = 3 ∧ R.length = 3 ∧ Sk.length = 3 ∧ W.length ≤ 60 ∧ D.length ≤ 240 → p) → councilB V R Sk W D = false := fun p _ h1 h2 => by
    unfold councilB
    rw [decide_eq_false (fun h => h1 (h2 h)), Bool.false_and]
  simp only [spec_SynCouncilOk.f]
  refine T.ite (fun h1 => ?_) (fun h1 => no (nl _ h1 (fun h => by omega)))
  refine T.ite (fun h2 => ?_) (fun h2 => no (nl _ h2 (fun h => by omega)))
  refine T.ite (fun h3 => ?_) (fun h3 => no (nl _ h3 (fun h => by omega)))
  refine T.ite (fun h4 => no (nl (W.length ≤ 60) (by omega) (fun h => h.2.2.2.1))) (fun h4 => ?_)
  by_cases h5 : D.length ≤ 240
  · rw [decide_eq_false (show ¬ (D.length : Int) > 240 by omega)]
    refine T.succ ?_
    simp only [spec_SynCouncilOk.j0]
    refine T.neg (by simp) ?_
    refine (spec_three V R Sk W D hD hW (by omega) hV2 (by omega) (by omega) 3 0 rfl (by omega)).mono (fun r hr => ?_)
    rw [hr]
    unfold councilB
    rw [decide_eq_true (show V.length = 3 ∧ R.length = 3 ∧ Sk.length = 3 ∧ W.length ≤ 60 ∧ D.length ≤ 240 by omega), Bool.true_and]
    rfl
  · rw [decide_eq_true (show (D.length : Int) > 240 by omega)]
    exact no (nl _ h5 (fun h => h.2.2.2.2))
theorem impl_told (V : List S84) (R : List Int) (Sk : List S88) (W : List S93) (D : List S53) (hD : D.length ≤ 1048576) : T (fun k => (fun (k : Nat) (i : Int) => impl_SynCouncilOk.l2 k D (D.length : Int) i) k 0) (· = (D.all paperB && true)) := by
  refine allS (g := fun k i => impl_SynCouncilOk.l2 k D (D.length : Int) i) (F := paperB) (one := fun k x => impl_paperOk.f k x.f0 x.f1 x.f2.f0 x.f2.f1 x.f2.f2 x.f2.f3 x.f2.f4 x.f2.f5 x.f2.f6 x.f2.f7 x.f2.f8 x.f2.f9) (rest := fun _ => some true) D z53 (fun k i hi => ?_) (fun k => ?_) (fun x h => (impl_paper x)) (T.ret rfl)
  · simp only [impl_SynCouncilOk.l2]
    rw [if_pos (by omega), if_pos (by omega), if_pos (by omega), wrap_succ hi (by omega)]
    rfl
  · simp only [impl_SynCouncilOk.l2]
    rw [if_neg (by omega)]
theorem impl_radio (V : List S84) (R : List Int) (Sk : List S88) (W : List S93) (D : List S53) (hD : D.length ≤ 1048576) (hW : W.length ≤ 1048576) (hW2 : ∀ x ∈ W, x.f15.length ≤ 1048576 ∧ x.f16.length ≤ 1048576 ∧ (-9223372036854775808 ≤ x.f1 ∧ x.f1 ≤ 9223372036854775807) ∧ (-9223372036854775808 ≤ x.f2 ∧ x.f2 ≤ 9223372036854775807)) : T (fun k => (fun (k : Nat) (i : Int) => impl_SynCouncilOk.l1 k W (W.length : Int) i V R Sk W D) k 0) (· = (W.all wordX && (D.all paperB && true))) := by
  refine allS (g := fun k i => impl_SynCouncilOk.l1 k W (W.length : Int) i V R Sk W D) (F := wordX) (one := fun k x => impl_WordOk.f k x.f0 x.f1 x.f2 x.f3 x.f4 x.f5 x.f6.f0 x.f6.f1 x.f6.f2 x.f6.f3 x.f6.f4 x.f6.f5 x.f6.f6 x.f6.f7 x.f6.f8 x.f6.f9 x.f7 x.f8 x.f9 x.f10 x.f11 x.f12 x.f13 x.f14 x.f15 x.f16) (rest := fun k => (fun (k : Nat) (i : Int) => impl_SynCouncilOk.l2 k D (D.length : Int) i) k 0) W z93 (fun k i hi => ?_) (fun k => ?_) (fun x h => impl_word x.f0 x.f1 x.f2 x.f3 x.f4 x.f5 x.f6.f0 x.f6.f1 x.f6.f2 x.f6.f3 x.f6.f4 x.f6.f5 x.f6.f6 x.f6.f7 x.f6.f8 x.f6.f9 x.f7 x.f8 x.f9 x.f10 x.f11 x.f12 x.f13 x.f14 x.f15 x.f16 (hW2 x h).1 (hW2 x h).2.1 (hW2 x h).2.2.1 (hW2 x h).2.2.2) (impl_told V R Sk W D hD)
  · simp only [impl_SynCouncilOk.l1]
    rw [if_pos (by omega), if_pos (by omega), if_pos (by omega), wrap_succ hi (by omega)]
    rfl
  · simp only [impl_SynCouncilOk.l1]
    rw [if_neg (by omega)]
theorem impl_three (V : List S84) (R : List Int) (Sk : List S88) (W : List S93) (D : List S53) (hD : D.length ≤ 1048576) (hW : W.length ≤ 1048576) (hW2 : ∀ x ∈ W, x.f15.length ≤ 1048576 ∧ x.f16.length ≤ 1048576 ∧ (-9223372036854775808 ≤ x.f1 ∧ x.f1 ≤ 9223372036854775807) ∧ (-9223372036854775808 ≤ x.f2 ∧ x.f2 ≤ 9223372036854775807)) (hV : V.length = 3) (hV2 : ∀ x ∈ V, x.f1.length ≤ 1048576) (hR : R.length = 3) (hS : Sk.length = 3) : ∀ (n i : Nat), 3 - i = n → i ≤ 3 →
    T (fun k => impl_SynCouncilOk.l0 k (V.length : Int) (i : Int) V R Sk W D) (· = (((List.range 3).drop i).all (threeB V R Sk) && (W.all wordX && (D.all paperB && true)))) := by
  intro n
  induction n with
  | zero =>
    intro i hn hi
    obtain rfl : i = 3 := by omega
    refine T.succ ?_
    simp only [impl_SynCouncilOk.l0]
    refine T.neg (by omega) ?_
    exact (impl_radio V R Sk W D hD hW hW2).mono (fun r hr => hr)
  | succ n ih =>
    intro i hn hi
    have hlt : i < 3 := by omega
    refine T.succ ?_
    simp only [impl_SynCouncilOk.l0, in_f, Option.bind_some, wrap_succ hlt (show 3 ≤ 4611686018427387904 by omega)]
    rw [List.drop_eq_getElem_cons (show i < (List.range 3).length by simpa using hlt), List.all_cons, List.getElem_range]
    refine T.pos (by omega) (T.pos (by omega) (T.pos (by omega) ?_))
    have hv := hV2 _ (List.getElem_mem (show i < V.length by omega))
    rw [← getD_nat V i (by omega) z84] at hv
    have hF : threeB V R Sk i = (voterB (rd_T84 V (i : Int)).f0 (rd_T84 V (i : Int)).f1 && (decide (0 ≤ rd R (i : Int) ∧ rd R (i : Int) ≤ 12498) && seekX (rd_T88 Sk (i : Int)))) := rfl
    rw [hF]
    refine T.bind_eq (impl_voter (rd_T84 V (i : Int)).f0 (rd_T84 V (i : Int)).f1 (Nat.le_trans hv (by omega))) ?_
    refine T.ite (fun h => ?_) (fun h => T.ret (by rw [Bool.eq_false_iff.2 h]; rfl))
    rw [h, Bool.true_and]
    refine T.pos (by omega) ?_
    refine T.ite (fun h => ?_) (fun h => T.ret (by rw [Bool.eq_false_iff.2 h]; rfl))
    rw [h, Bool.true_and]
    refine T.pos (by omega) ?_
    refine T.bind_eq (a := seekX (rd_T88 Sk (i : Int))) (impl_seek (rd_T88 Sk (i : Int)).f0 (rd_T88 Sk (i : Int)).f1 (rd_T88 Sk (i : Int)).f2 (rd_T88 Sk (i : Int)).f3.f0 (rd_T88 Sk (i : Int)).f3.f1 (rd_T88 Sk (i : Int)).f3.f2 (rd_T88 Sk (i : Int)).f3.f3 (rd_T88 Sk (i : Int)).f3.f4 (rd_T88 Sk (i : Int)).f3.f5 (rd_T88 Sk (i : Int)).f3.f6 (rd_T88 Sk (i : Int)).f3.f7 (rd_T88 Sk (i : Int)).f3.f8 (rd_T88 Sk (i : Int)).f3.f9 (rd_T88 Sk (i : Int)).f4.f0 (rd_T88 Sk (i : Int)).f4.f1 (rd_T88 Sk (i : Int)).f4.f2.f0 (rd_T88 Sk (i : Int)).f4.f2.f1 (rd_T88 Sk (i : Int)).f4.f2.f2 (rd_T88 Sk (i : Int)).f4.f2.f3 (rd_T88 Sk (i : Int)).f4.f2.f4 (rd_T88 Sk (i : Int)).f4.f2.f5 (rd_T88 Sk (i : Int)).f4.f2.f6 (rd_T88 Sk (i : Int)).f4.f2.f7 (rd_T88 Sk (i : Int)).f4.f2.f8 (rd_T88 Sk (i : Int)).f4.f2.f9 (rd_T88 Sk (i : Int)).f5) ?_
    refine T.ite (fun h => ?_) (fun h => T.ret (by rw [Bool.eq_false_iff.2 h]; rfl))
    rw [h, Bool.true_and]
    exact ih (i + 1) (by omega) (by omega)
theorem impl_council (V : List S84) (R : List Int) (Sk : List S88) (W : List S93) (D : List S53) (hD : D.length ≤ 1048576) (hW : W.length ≤ 1048576) (hW2 : ∀ x ∈ W, x.f15.length ≤ 1048576 ∧ x.f16.length ≤ 1048576 ∧ (-9223372036854775808 ≤ x.f1 ∧ x.f1 ≤ 9223372036854775807) ∧ (-9223372036854775808 ≤ x.f2 ∧ x.f2 ≤ 9223372036854775807)) (hV2 : ∀ x ∈ V, x.f1.length ≤ 1048576) : T (fun k => impl_SynCouncilOk.f k V R Sk W D) (· = councilB V R Sk W D) := by
  have no : councilB V R Sk W D = false → T (fun k => impl_SynCouncilOk.j0 k true V R Sk W D) (· = councilB V R Sk W D) := fun h => by
    refine T.succ ?_
    simp only [impl_SynCouncilOk.j0, if_true]
    exact T.ret h.symm
  have nl : ∀ (p : Prop) [Decidable p], ¬ p → (V.length = 3 ∧ R.length = 3 ∧ Sk.length = 3 ∧ W.length ≤ 60 ∧ D.length ≤ 240 → p) → councilB V R Sk W D = false := fun p _ h1 h2 => by
    unfold councilB
    rw [decide_eq_false (fun h => h1 (h2 h)), Bool.false_and]
  simp only [impl_SynCouncilOk.f]
  refine T.ite (fun h1 => ?_) (fun h1 => no (nl _ h1 (fun h => by omega)))
  refine T.ite (fun h2 => ?_) (fun h2 => no (nl _ h2 (fun h => by omega)))
  refine T.ite (fun h3 => ?_) (fun h3 => no (nl _ h3 (fun h => by omega)))
  refine T.ite (fun h4 => no (nl (W.length ≤ 60) (by omega) (fun h => h.2.2.2.1))) (fun h4 => ?_)
  by_cases h5 : D.length ≤ 240
  · rw [decide_eq_false (show ¬ (D.length : Int) > 240 by omega)]
    refine T.succ ?_
    simp only [impl_SynCouncilOk.j0]
    refine T.neg (by simp) ?_
    refine (impl_three V R Sk W D hD hW hW2 (by omega) hV2 (by omega) (by omega) 3 0 rfl (by omega)).mono (fun r hr => ?_)
    rw [hr]
    unfold councilB
    rw [decide_eq_true (show V.length = 3 ∧ R.length = 3 ∧ Sk.length = 3 ∧ W.length ≤ 60 ∧ D.length ≤ 240 by omega), Bool.true_and]
    rfl
  · rw [decide_eq_true (show (D.length : Int) > 240 by omega)]
    exact no (nl _ h5 (fun h => h.2.2.2.2))
end Go.Proofs.YtncohokalilnbaaX
