/-
  Behind all steps of a transaction the homes say what they were to say, and nothing waits.
  Conditions: those of the pure statement, none beside.
-/
import Derived.Test.YthjocaegapchaaaPx25
import Derived.Test.YthjocaegapchaaaXWalTx
import Derived.Test.YthjocaegapchaaaXWalSteps
import Derived.Test.YthjocaegapchaaaXDrawTx
import Derived.Test.YthjocaegapchaaaXLpTexts
namespace Go.Proofs.Ythjocaegapchaaa.Pure
open Go.RowKit Go.Proofs.Ythjocaegapchaaa.P Go.Proofs.YthjocaegapchaaaX Go.Proofs.YthjocaegapchaaaW.PrintWords Go.Proofs.YthjocaegapchaaaW.PrintLast Go.Proofs.YthjocaegapchaaaW.PrintMore
set_option linter.unusedVariables false
set_option linter.unusedSimpArgs false

theorem steps_bad {K : Bs} {W : List Sw} {H : Bs} (h : ¬ (stepsB K W H).2 = true) : (stepsB K W H).1 = [] := by
  unfold stepsB at *
  split
  · next h1 =>
    rw [if_pos h1] at h
    cases hd : diffL H (wreadB K W).1 0 with
    | none => rfl
    | some D =>
      rw [hd] at h
      refine absurd ?_ h
      simp only [finL]
      split <;> rfl
  · rfl
theorem FnWalDone : laws_FnWalDone.Pure := by
  intro l hl _ hw
  refine T.rounds (g := fun k => laws_FnWalDone.f k l) ?_
  simp only [laws_FnWalDone.f]
  refine T.ite (fun _ => T.ret rfl) (fun _ => ?_)
  refine T.bind (drawWalSteps_T l hw hl) (fun d hd => ?_)
  obtain ⟨K, W, H⟩ := d
  have hK : K.length ≤ 1000 := hd.1
  have hW : W.length ≤ 300 := hd.2.1
  have hH : H.length ≤ 1000 := hd.2.2
  refine T.bind_eq (spec_steps K W H (by omega)) ?_
  refine T.bind_eq (impl_steps K W H (by omega) (by omega)) ?_
  refine T.neg (by simp) ?_
  have hS := stepsB_len K W H
  have j2 : ∀ b : Bool, b = true → T (fun k => laws_FnWalDone.j2 k b) (· = true) := fun b hb => by
    refine T.succ ?_
    simp only [laws_FnWalDone.j2]
    exact T.ret hb
  have key : ∀ (d i : Nat), (stepsB K W H).1.length - i = d → i ≤ (stepsB K W H).1.length → T (fun k => laws_FnWalDone.l0 k H (stepsB K W H).1 (stepsB K W H).1 (stepsB K W H).2 (i : Int) K W) (· = true) := by
    intro d
    induction d with
    | zero =>
      intro i hd hi
      refine T.succ ?_
      simp only [laws_FnWalDone.l0]
      refine T.neg (by omega) ?_
      refine T.ite (fun ok => ?_) (fun bad => T.ret (by rw [steps_bad bad]; rfl))
      obtain ⟨K2, W2, e1, e2, e3, e4, e5, e6⟩ := steps_done hW ok
      refine T.bind_eq (impl_do K W _ (by omega) (by omega) false 0 []) ?_
      rw [e1]
      refine T.bind_eq (impl_wread K2 W2 (by omega) (by omega)) ?_
      rw [e2]
      refine T.pos rfl ?_
      refine T.bind (lpTexts_T2 H H (by omega)) (fun r hr => ?_)
      obtain rfl : r = true := hr.2 rfl
      refine T.pos rfl ?_
      refine T.ite (fun _ => j2 _ rfl) (fun hn => ?_)
      have hz : W2 = [] := by
        rcases e6 with e | e
        · exact absurd (by rw [e]; rfl) hn
        · exact e
      refine T.pos (by rw [hz]; rfl) ?_
      refine T.bind_eq (impl_look K2 W2 (by omega) (by omega) 0) ?_
      exact j2 _ (by rw [beq_iff_eq]; exact (empty_iff _).2 e3)
    | succ d ih =>
      intro i hd hi
      refine T.succ ?_
      simp only [laws_FnWalDone.l0]
      refine T.pos (by omega) (T.pos (by omega) (T.pos (by omega) (T.neg (by simp) ?_)))
      rw [wrap_succ (n := (stepsB K W H).1.length) (by omega) (by omega)]
      exact ih (i + 1) (by omega) (by omega)
  refine T.succ ?_
  simp only [laws_FnWalDone.j0]
  refine T.neg (by simp) ?_
  exact key _ 0 rfl (Nat.zero_le _)
end Go.Proofs.Ythjocaegapchaaa.Pure
