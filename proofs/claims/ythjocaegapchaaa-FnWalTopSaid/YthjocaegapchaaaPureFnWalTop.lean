/-
  A transaction is done whole, or not at all, wherever power is lost, also while it is done again.
  Conditions: those of the pure statement, none beside.
-/
import Derived.Test.YthjocaegapchaaaPx28
import Derived.Test.YthjocaegapchaaaXWalTx
import Derived.Test.YthjocaegapchaaaXWalSteps
import Derived.Test.YthjocaegapchaaaXDrawDo
import Derived.Test.YthjocaegapchaaaXLpTexts
namespace Go.Proofs.Ythjocaegapchaaa.Pure
open Go.RowKit Go.Proofs.Ythjocaegapchaaa.P Go.Proofs.YthjocaegapchaaaX Go.Proofs.YthjocaegapchaaaW.PrintWords Go.Proofs.YthjocaegapchaaaW.PrintLast Go.Proofs.YthjocaegapchaaaW.PrintMore
set_option linter.unusedVariables false
set_option linter.unusedSimpArgs false

theorem steps_bad3 {K : Bs} {W : List Sw} {H : Bs} (h : ¬ (stepsB K W H).2 = true) : (stepsB K W H).1 = [] := by
  unfold stepsB at *
  split
  · next h1 =>
    rw [if_pos h1] at h
    cases hd : diffL H (wreadB K W).1 0 with
    | none => rfl
    | some D =>
      rw [hd] at h
      refine absurd ?_ h
      simp only [finL]
      split <;> rfl
  · rfl
theorem mendB_len (K : Bs) (W : List Sw) : (mendB K W).1.length ≤ 600 := by
  unfold mendB
  cases h : logB K W with
  | none => simp
  | some L =>
    have := (logB_good h).2.2.2.1
    simp only
    split
    · simp
    · simp only [applyL_len]; omega
theorem top_j5 (K : Bs) (W : List Sw) (H : Bs) (hK : K.length ≤ 1000) (hW : W.length ≤ 300) (hH : H.length ≤ 1000) (ok : (stepsB K W H).2 = true) (after : Int) (keep bits : List Int) :
    T (fun k => laws_FnWalTop.j5 k H after keep bits (wreadB K W).1 (stepsB K W H).1 K W) (· = true) := by
  refine T.succ ?_
  simp only [laws_FnWalTop.j5]
  refine T.bind_eq (impl_do K W _ (by omega) (by omega) true after keep) ?_
  have f1 := doB_few K W (stepsB K W H).1 true after keep
  have g1 := f1.1
  have g2 := f1.2
  refine T.bind_eq (impl_mend _ _ (by omega) (by omega)) ?_
  generalize hx : doB K W (stepsB K W H).1 true after keep = x at *
  refine T.bind_eq (impl_do x.1 x.2 _ (by omega) (by omega) true (keep.length : Int) bits) ?_
  have f2 := doB_few x.1 x.2 (mendB x.1 x.2).1 true (keep.length : Int) bits
  generalize hy : doB x.1 x.2 (mendB x.1 x.2).1 true (keep.length : Int) bits = y at *
  have g3 := f2.1
  have g4 := f2.2
  refine T.bind_eq (impl_mend y.1 y.2 (by omega) (by omega)) ?_
  refine T.bind_eq (impl_do y.1 y.2 _ (by omega) (by omega) false 0 []) ?_
  have f3 := doB_few y.1 y.2 (mendB y.1 y.2).1 false 0 []
  generalize hz : doB y.1 y.2 (mendB y.1 y.2).1 false 0 [] = z at *
  have g5 := f3.1
  have g6 := f3.2
  refine T.bind_eq (impl_wread z.1 z.2 (by omega) (by omega)) ?_
  refine T.ite (fun _ => T.ret rfl) (fun hw => ?_)
  obtain rfl : W = [] := List.eq_nil_of_length_eq_zero (by omega)
  obtain ⟨X, e1, e2⟩ := steps_cut ok after keep
  rw [e1] at hx
  subst hx
  have fin : ∀ A : Bs, A.length ≤ 1000 → (A = (wreadB K []).1 ∨ A = H) → Rd X A → T (fun k => laws_FnWalTop.j6 k H (wreadB K []).1 (mendB (X, ([] : List Sw)).1 (X, ([] : List Sw)).2).2 (mendB y.1 y.2).2 (wreadB z.1 z.2).1 (wreadB z.1 z.2).2 z.1 z.2) (· = true) := fun A hA hor hR => by
    obtain ⟨Y, a1, a2, a3⟩ := mend_cut hR (keep.length : Int) bits
    rw [a1] at hy
    subst hy
    obtain ⟨Z, b1, b2, b3, b4⟩ := mend_end a2
    rw [b1] at hz
    subst hz
    refine T.succ ?_
    simp only [laws_FnWalTop.j6]
    rw [a3, b2, b3]
    refine T.pos rfl (T.pos rfl (T.pos rfl (T.pos rfl ?_)))
    refine T.bind_eq (impl_look Z [] (Nat.le_trans g5 (by omega)) (Nat.le_trans g6 (by omega)) 0) ?_
    refine T.pos ((empty_iff _).2 b4) ?_
    refine T.bind (lpTexts_T2 A _ (by omega)) (fun r hr => ?_)
    refine T.ite (fun _ => T.ret rfl) (fun hn => ?_)
    refine T.bind (lpTexts_T2 A _ (by omega)) (fun r2 hr2 => T.ret (hr2.2 ?_))
    rcases hor with e | e
    · exact absurd (hr.2 e) hn
    · exact e
  rcases e2 with e2 | e2
  · exact fin _ (wreadB_le _ _) (.inl rfl) e2
  · exact fin H hH (.inr rfl) e2
theorem FnWalTop : laws_FnWalTop.Pure := by
  intro l m hl _ hw hm _ hv
  refine T.rounds (g := fun k => laws_FnWalTop.f k l m) ?_
  have main : ∀ b : Bool, T (fun k => laws_FnWalTop.j0 k l m b) (· = true) := fun b => by
    refine T.succ ?_
    simp only [laws_FnWalTop.j0]
    refine T.ite (fun _ => T.ret rfl) (fun _ => ?_)
    refine T.succ ?_
    simp only [laws_FnWalTop.j1]
    refine T.bind (drawWalSteps_T l hw hl) (fun d hd => ?_)
    refine T.bind (drawWalDo_T m hv hm) (fun d2 hd2 => ?_)
    refine T.bind (drawSecCut_T m hv hm) (fun d3 hd3 => ?_)
    obtain ⟨K, W, H⟩ := d
    have hK : K.length ≤ 1000 := hd.1
    have hW : W.length ≤ 300 := hd.2.1
    have hH : H.length ≤ 1000 := hd.2.2
    refine T.bind_eq (spec_steps K W H (by omega)) ?_
    refine T.bind_eq (spec_wread K W (by omega)) ?_
    refine T.bind_eq (impl_steps K W H (by omega) (by omega)) ?_
    refine T.neg (by simp) ?_
    have hS := stepsB_len K W H
    refine T.succ ?_
    simp only [laws_FnWalTop.j2]
    refine T.neg (by simp) ?_
    refine T.succ ?_
    simp only [laws_FnWalTop.j3]
    refine T.ite (fun ok => ?_) (fun bad => T.ret (by rw [steps_bad3 bad]; rfl))
    refine T.succ ?_
    simp only [laws_FnWalTop.j4]
    refine T.ite (fun h => ?_) (fun h => top_j5 K W H hK hW hH ok _ _ _)
    refine T.neg ?_ (top_j5 K W H hK hW hH ok _ _ _)
    rw [wrap64_id (by omega) (by omega)]
    omega
  simp only [laws_FnWalTop.f]
  exact T.ite (fun _ => main _) (fun _ => main _)
end Go.Proofs.Ythjocaegapchaaa.Pure
