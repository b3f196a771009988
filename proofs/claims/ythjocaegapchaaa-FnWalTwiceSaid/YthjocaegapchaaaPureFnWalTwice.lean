/-
  What is said already is not written again; and behind a transaction another one can be done.
  Conditions: those of the pure statement, none beside.
-/
import Derived.Test.YthjocaegapchaaaPx26
import Derived.Test.YthjocaegapchaaaXWalTx
import Derived.Test.YthjocaegapchaaaXWalSteps
import Derived.Test.YthjocaegapchaaaXDrawTx
import Derived.Test.YthjocaegapchaaaXLpTexts
namespace Go.Proofs.Ythjocaegapchaaa.Pure
open Go.RowKit Go.Proofs.Ythjocaegapchaaa.P Go.Proofs.YthjocaegapchaaaX Go.Proofs.YthjocaegapchaaaW.PrintWords Go.Proofs.YthjocaegapchaaaW.PrintLast Go.Proofs.YthjocaegapchaaaW.PrintMore
set_option linter.unusedVariables false
set_option linter.unusedSimpArgs false

theorem FnWalTwice : laws_FnWalTwice.Pure := by
  intro l m hl _ hw hm _ hv
  refine T.rounds (g := fun k => laws_FnWalTwice.f k l m) ?_
  have j2 : ∀ b : Bool, b = true → T (fun k => laws_FnWalTwice.j2 k b) (· = true) := fun b hb => by
    refine T.succ ?_
    simp only [laws_FnWalTwice.j2]
    exact T.ret hb
  have main : ∀ b : Bool, T (fun k => laws_FnWalTwice.j0 k l m b) (· = true) := fun b => by
    refine T.succ ?_
    simp only [laws_FnWalTwice.j0]
    refine T.ite (fun _ => T.ret rfl) (fun _ => ?_)
    refine T.bind (drawWalSteps_T l hw hl) (fun d hd => ?_)
    refine T.bind (drawWalSteps_T m hv hm) (fun d2 hd2 => ?_)
    obtain ⟨K, W, H⟩ := d
    have hK : K.length ≤ 1000 := hd.1
    have hW : W.length ≤ 300 := hd.2.1
    have hH : H.length ≤ 1000 := hd.2.2
    refine T.bind_eq (spec_steps K W H (by omega)) ?_
    refine T.bind_eq (impl_steps K W H (by omega) (by omega)) ?_
    refine T.neg (by simp) (T.pos rfl ?_)
    refine T.succ ?_
    simp only [laws_FnWalTwice.j1]
    refine T.ite (fun _ => T.pos (by simp) (T.ret (by simp))) (fun hok => ?_)
    have ok : (stepsB K W H).2 = true := by simpa using hok
    obtain ⟨K2, W2, e1, e2, e3, e4, e5, e6⟩ := steps_done hW ok
    obtain ⟨s1, -, -, -, -, D, s2, -⟩ := start_of ok
    have ag := steps_again (.inr trivial) e2 e3 s1 (diff_small _ _ _ _ s2)
    refine T.bind_eq (impl_do K W _ (by omega) (by omega) false 0 []) ?_
    rw [e1]
    refine T.bind_eq (impl_steps K2 W2 H (by omega) (by omega)) ?_
    refine T.bind_eq (impl_steps K2 W2 d2.2.2 (by omega) (by omega)) ?_
    refine T.bind_eq (impl_do K2 W2 _ (by omega) (by omega) false 0 []) ?_
    have hf := doB_few K2 W2 (stepsB K2 W2 d2.2.2).1 false 0 []
    have hf1 := hf.1
    have hf2 := hf.2
    refine T.bind_eq (impl_wread _ _ (by omega) (by omega)) ?_
    rw [ag]
    refine T.pos rfl (T.pos rfl ?_)
    refine T.ite (fun ok2 => ?_) (fun _ => j2 _ rfl)
    obtain ⟨K3, W3, f1, f2, f3, f4, f5, f6⟩ := steps_done e4 ok2
    have hlen := wreadB_le (doB K2 W2 (stepsB K2 W2 d2.2.2).1 false 0 []).1 (doB K2 W2 (stepsB K2 W2 d2.2.2).1 false 0 []).2
    refine T.bind (lpTexts_T2 _ _ (by omega)) (fun r hr => j2 r (hr.2 ?_))
    rw [f1, f2]
  simp only [laws_FnWalTwice.f]
  exact T.ite (fun _ => main _) (fun _ => main _)
end Go.Proofs.Ythjocaegapchaaa.Pure
