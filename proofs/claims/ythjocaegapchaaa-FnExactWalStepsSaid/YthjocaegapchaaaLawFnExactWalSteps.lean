-- printed by pprint.py (this session's program): the row of the law laws_FnExactWalSteps, out of its pure statement and its walk. Lean checks it.
import Derived.Test.YthjocaegapchaaaRows
import Derived.Test.YthjocaegapchaaaPx25
import Derived.Test.YthjocaegapchaaaPureFnExactWalSteps
import Derived.Test.YthjocaegapchaaaXOpen
import Derived.WalkKit
import Derived.ProofKit
import Derived.OpenShut
import Derived.ShutString
import Derived.ChangeOld
import Derived.Below
import Derived.SizedLaws
import Derived.Carry
namespace Go.Proofs.Ythjocaegapchaaa.fnExactWalSteps
open Go.ChangeShapes Go.WideShapes Go.ChangeAt Go.RowKit
open Go.ChangeMaps (open_string shut_string)
open Go.Proofs.Ythjocaegapchaaa.P Go.Proofs.YthjocaegapchaaaX
open Go.Proofs.YthjocaegapchaaaW.PrintWords
set_option linter.unusedVariables false
theorem own : ownKnob Try.prog.godebug = none := by kernel_rfl
theorem laidOut : laidOutB Try.prog = true := by kernel_rfl
theorem opens9 : Opens Try.prog 9 Kd.string (fun s => s.size ≤ maxLen) := opens_string Try.underlying9 (by kernel_rfl)
theorem opens22 : Opens Try.prog 22 (Kd.slice 9 Kd.string) (fun x => (x.length ≤ maxLen ∧ ∀ z_ ∈ x, z_.size ≤ maxLen)) := opens_slice Try.underlying22 (by kernel_rfl) opens9
theorem opens3 : Opens Try.prog 3 (Kd.int .i64) (fun n => (Lit.int .i64 n).wf = true) := opens_int Try.underlying3 (by kernel_rfl)
theorem opens105 : Opens Try.prog 105 k105 wf105 := opens_struct (fun x : S105 => (x.f0, x.f1)) (fun a => ⟨a.1, a.2⟩) (fun _ => rfl) Try.underlying105 (by kernel_rfl) (by kernel_rfl) (opensF_cons opens3 (opensF_one opens9))
instance : Inhabited S105 := ⟨z105⟩
theorem opens23 : Opens Try.prog 23 (Kd.slice 105 k105) (fun x => (x.length ≤ maxLen ∧ ∀ z_ ∈ x, wf105 z_)) := opens_slice Try.underlying23 (by kernel_rfl) opens105
theorem opens25 : Opens Try.prog 25 k25 wf25 := opens_struct (fun x : S25 => (x.f0, x.f1)) (fun a => ⟨a.1, a.2⟩) (fun _ => rfl) Try.underlying25 (by kernel_rfl) (by kernel_rfl) (opensF_cons opens22 (opensF_one opens23))
set_option maxRecDepth 100000 in
set_option maxHeartbeats 2000000 in
theorem lifted (os : Os) (started : os.Started) (H : Type) (enc : TypeId × Value → H) :
    ReturnsInHanded {} Try.checked os 5 .any (Rows.fnExactWalStepsSpec.pre6 enc Try.prog Try.f5 Rows.fnExactWalStepsRow.domain false) (Rows.fnExactWalStepsSpec.post enc Try.prog Try.f5 false true false false) := by
  refine returnsInHanded_of_change_sized (C := Try.checked) own started (by kernel_rfl) Try.func5
    (ChangeSpec.witness6 (enc := enc) (C := Try.checked) false ⟨#[], #[.agg #[.slice none 0 0, .slice none 0 0], .slice none 0 0], []⟩ 12 (by kernel_rfl) (by kernel_rfl) (by kernel_rfl) (by kernel_rfl)) ?_
  intro W0 base args ds gs before hval0 hW hcnd hsz0 _
  have hsz : (DataW.weightsEach Try.prog (Try.f5.params.toList ++ Rows.fnExactWalStepsSpec.plain.varTypes Try.prog) (ds ++ gs)).all (· ≤ reachBytes) = true := hsz0
  have hval : ∀ (j : Nat) t v, Try.f5.params[j]? = some t → args[j]? = some v → Value.okWide Try.prog W0 .any base t v := hval0
  have hW' := hW
  obtain ⟨p, q, hA0, hV, rfl, hfz, hnd⟩ := hW
  have hA : DataW.TrodAll enc Try.prog W0 0 (fun _ => true) true Try.f5.params.toList args.toList ds p := hA0
  rw [Try.params5] at hA hval hsz
  obtain ⟨v0, vs0, d0, ds0, p0, q0, hargs, rfl, rfl, h0, r0⟩ := trodAll_cons hA
  obtain ⟨v1, vs1, d1, ds1, p1, q1, rfl, rfl, rfl, h1, r1⟩ := trodAll_cons r0
  obtain ⟨rfl, rfl, rfl⟩ := trodAll_nil r1
  obtain rfl : args = #[v0, v1] := by cases args; simp_all
  obtain ⟨rfl, rfl⟩ := trodVars_none hV
  obtain ⟨cs0, rfl, _⟩ := okWide_struct Try.underlying25 (hval 0 25 v0 rfl rfl)
  have kk0 := h0
  have lt0 : ∀ x ∈ p0, x.block < W0.heap.size := by obtain ⟨m, hm⟩ := kk0; exact DataW.trod_lt m _ _ _ hm
  obtain ⟨x0, hK0, hw0⟩ : ∃ x, k25.K W0 x cs0.toList ∧ wf25 x := by
    obtain ⟨m, hm⟩ := h0
    exact opens25.2 _ _ _ _ _ _ _ _ _ hm
  obtain ⟨A0_0, c0_0, A0_1, c0_1, hcs0, hc0_0, hr0_0, hc0_1, hr0_1⟩ := k25_open hK0
  obtain rfl : cs0 = #[.slice A0_0 x0.f0.length c0_0, .slice A0_1 x0.f1.length c0_1] := by cases cs0; simpa using hcs0
  obtain ⟨b1, len1, cap1, rfl⟩ := okWide_slice Try.underlying22 (hval 1 22 v1 rfl rfl)
  have kk1 := h1
  have lt1 : ∀ x ∈ p1, x.block < W0.heap.size := by obtain ⟨m, hm⟩ := kk1; exact DataW.trod_lt m _ _ _ hm
  obtain ⟨x1, hK1, hw1⟩ : ∃ x, (Kd.slice 9 Kd.string).K W0 x [.slice b1 len1 cap1] ∧ (x.length ≤ maxLen ∧ ∀ z_ ∈ x, z_.size ≤ maxLen) := by
    obtain ⟨m, hm⟩ := h1
    exact opens22.2 _ _ _ _ _ _ _ _ _ hm
  obtain ⟨A1, c1, hcs1, hc1, hr1⟩ := hK1
  injection hcs1 with hcs1 _
  injection hcs1 with e1_ e2_ e3_
  subst e1_ e2_ e3_
  clear hA0 hval0 hsz0 hsz
  refine (P.laws_FnExactWalSteps.walk Pure.FnExactWalSteps A0_0 c0_0 x0.f0 A0_1 c0_1 x0.f1 b1 cap1 x1 W0 hw0 hw1 hr0_0 hc0_0 hr0_1 hc0_1 hr1 hc1).mono fun e W' ⟨he, bel⟩ => ?_
  subst he
  exact ⟨_, rfl, _, _, _, [], _, [], hW', trodAll_mk1 (shut_bool Try.underlying4 _), (trodAll_cons_mk (Below.trod laidOut (by kernel_rfl) (of_decide_eq_true (by kernel_rfl)) kk0 bel lt0) (trodAll_cons_mk (Below.trod laidOut (by kernel_rfl) (of_decide_eq_true (by kernel_rfl)) kk1 bel lt1) trodAll_mk0)), rfl, bel.frame _, fun h => by cases h⟩
theorem over : Rows.fnExactWalStepsRow.holds Try.pinned (OpenSpec.ofChange Rows.fnExactWalStepsSpec) :=
  OpenClaim.holds_of_wide 5 Try.f5 rfl rfl rfl rfl rfl rfl rfl ⟨rfl, rfl, rfl, rfl, rfl⟩ rfl rfl rfl rfl rfl (by kernel_rfl) Try.func5 (by kernel_rfl)
    (of_decide_eq_true (by kernel_rfl)) (by unfold Func.isWrapper; first | (rw [if_pos (by decide +kernel)]; kernel_rfl) | (rw [if_neg (by decide +kernel)]; exact ⟨rfl, rfl⟩))
    (fun os started H enc _ => lifted os started H enc)
theorem proved : Rows.FnExactWalStepsSaid := over
#print axioms proved
end Go.Proofs.Ythjocaegapchaaa.fnExactWalSteps
namespace Go.Proofs.Ythjocaegapchaaa
/-- The row, under a short name, for the claim. -/
theorem fnExactWalSteps_holds : Rows.FnExactWalStepsSaid := fnExactWalSteps.proved
end Go.Proofs.Ythjocaegapchaaa
