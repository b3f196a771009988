-- printed by pprint.py (this session's program): the row of the law laws_FnExactSecCut, out of its pure statement and its walk. Lean checks it.
import Derived.Test.YthkdhcaojhbfoaaRows
import Derived.Test.YthkdhcaojhbfoaaPx35
import Derived.Test.YthkdhcaojhbfoaaPureFnExactSecCut
import Derived.Test.YthkdhcaojhbfoaaXOpen
import Derived.WalkKit
import Derived.ProofKit
import Derived.OpenShut
import Derived.ShutString
import Derived.ChangeOld
import Derived.Below
import Derived.SizedLaws
import Derived.Carry
namespace Go.Proofs.Ythkdhcaojhbfoaa.fnExactSecCut
open Go.ChangeShapes Go.WideShapes Go.ChangeAt Go.RowKit
open Go.ChangeMaps (open_string shut_string)
open Go.Proofs.Ythkdhcaojhbfoaa.P Go.Proofs.YthkdhcaojhbfoaaX
open Go.Proofs.YthkdhcaojhbfoaaW.PrintWords
set_option linter.unusedVariables false
theorem own : ownKnob Try.prog.godebug = none := by kernel_rfl
theorem laidOut : laidOutB Try.prog = true := by kernel_rfl
theorem opens9 : Opens Try.prog 9 Kd.string (fun s => s.size ≤ maxLen) := opens_string Try.underlying9 (by kernel_rfl)
theorem opens23 : Opens Try.prog 23 (Kd.slice 9 Kd.string) (fun x => (x.length ≤ maxLen ∧ ∀ z_ ∈ x, z_.size ≤ maxLen)) := opens_slice Try.underlying23 (by kernel_rfl) opens9
theorem opens3 : Opens Try.prog 3 (Kd.int .i64) (fun n => (Lit.int .i64 n).wf = true) := opens_int Try.underlying3 (by kernel_rfl)
theorem opens79 : Opens Try.prog 79 k79 wf79 := opens_struct (fun x : S79 => (x.f0, x.f1)) (fun a => ⟨a.1, a.2⟩) (fun _ => rfl) Try.underlying79 (by kernel_rfl) (by kernel_rfl) (opensF_cons opens3 (opensF_one opens9))
instance : Inhabited S79 := ⟨z79⟩
theorem opens32 : Opens Try.prog 32 (Kd.slice 79 k79) (fun x => (x.length ≤ maxLen ∧ ∀ z_ ∈ x, wf79 z_)) := opens_slice Try.underlying32 (by kernel_rfl) opens79
theorem opens34 : Opens Try.prog 34 k34 wf34 := opens_struct (fun x : S34 => (x.f0, x.f1)) (fun a => ⟨a.1, a.2⟩) (fun _ => rfl) Try.underlying34 (by kernel_rfl) (by kernel_rfl) (opensF_cons opens23 (opensF_one opens32))
theorem opens49 : Opens Try.prog 49 (Kd.slice 3 (Kd.int .i64)) (fun x => (x.length ≤ maxLen ∧ ∀ z_ ∈ x, (Lit.int .i64 z_).wf = true)) := opens_slice Try.underlying49 (by kernel_rfl) opens3
set_option maxRecDepth 100000 in
set_option maxHeartbeats 2000000 in
theorem lifted (os : Os) (started : os.Started) (H : Type) (enc : TypeId × Value → H) :
    ReturnsInHanded {} Try.checked os 14 .any (Rows.fnExactSecCutSpec.pre6 enc Try.prog Try.f14 Rows.fnExactSecCutRow.domain false) (Rows.fnExactSecCutSpec.post enc Try.prog Try.f14 false true false false) := by
  refine returnsInHanded_of_change_sized (C := Try.checked) own started (by kernel_rfl) Try.func14
    (ChangeSpec.witness6 (enc := enc) (C := Try.checked) false ⟨#[], #[.agg #[.slice none 0 0, .slice none 0 0], .slice none 0 0], []⟩ 12 (by kernel_rfl) (by kernel_rfl) (by kernel_rfl) (by kernel_rfl)) ?_
  intro W0 base args ds gs before hval0 hW hcnd hsz0 _
  have hsz : (DataW.weightsEach Try.prog (Try.f14.params.toList ++ Rows.fnExactSecCutSpec.plain.varTypes Try.prog) (ds ++ gs)).all (· ≤ reachBytes) = true := hsz0
  have hval : ∀ (j : Nat) t v, Try.f14.params[j]? = some t → args[j]? = some v → Value.okWide Try.prog W0 .any base t v := hval0
  have hW' := hW
  obtain ⟨p, q, hA0, hV, rfl, hfz, hnd⟩ := hW
  have hA : DataW.TrodAll enc Try.prog W0 0 (fun _ => true) true Try.f14.params.toList args.toList ds p := hA0
  rw [Try.params14] at hA hval hsz
  obtain ⟨v0, vs0, d0, ds0, p0, q0, hargs, rfl, rfl, h0, r0⟩ := trodAll_cons hA
  obtain ⟨v1, vs1, d1, ds1, p1, q1, rfl, rfl, rfl, h1, r1⟩ := trodAll_cons r0
  obtain ⟨rfl, rfl, rfl⟩ := trodAll_nil r1
  obtain rfl : args = #[v0, v1] := by cases args; simp_all
  obtain ⟨rfl, rfl⟩ := trodVars_none hV
  obtain ⟨cs0, rfl, _⟩ := okWide_struct Try.underlying34 (hval 0 34 v0 rfl rfl)
  have kk0 := h0
  have lt0 : ∀ x ∈ p0, x.block < W0.heap.size := by obtain ⟨m, hm⟩ := kk0; exact DataW.trod_lt m _ _ _ hm
  obtain ⟨x0, hK0, hw0⟩ : ∃ x, k34.K W0 x cs0.toList ∧ wf34 x := by
    obtain ⟨m, hm⟩ := h0
    exact opens34.2 _ _ _ _ _ _ _ _ _ hm
  obtain ⟨A0_0, c0_0, A0_1, c0_1, hcs0, hc0_0, hr0_0, hc0_1, hr0_1⟩ := k34_open hK0
  obtain rfl : cs0 = #[.slice A0_0 x0.f0.length c0_0, .slice A0_1 x0.f1.length c0_1] := by cases cs0; simpa using hcs0
  obtain ⟨b1, len1, cap1, rfl⟩ := okWide_slice Try.underlying49 (hval 1 49 v1 rfl rfl)
  have kk1 := h1
  have lt1 : ∀ x ∈ p1, x.block < W0.heap.size := by obtain ⟨m, hm⟩ := kk1; exact DataW.trod_lt m _ _ _ hm
  obtain ⟨x1, hK1, hw1⟩ : ∃ x, (Kd.slice 3 (Kd.int .i64)).K W0 x [.slice b1 len1 cap1] ∧ (x.length ≤ maxLen ∧ ∀ z_ ∈ x, (Lit.int .i64 z_).wf = true) := by
    obtain ⟨m, hm⟩ := h1
    exact opens49.2 _ _ _ _ _ _ _ _ _ hm
  obtain ⟨A1, c1, hcs1, hc1, hr1⟩ := hK1
  injection hcs1 with hcs1 _
  injection hcs1 with e1_ e2_ e3_
  subst e1_ e2_ e3_
  clear hA0 hval0 hsz0 hsz
  refine (P.laws_FnExactSecCut.walk Pure.FnExactSecCut A0_0 c0_0 x0.f0 A0_1 c0_1 x0.f1 b1 cap1 x1 W0 hw0 hw1 hr0_0 hc0_0 hr0_1 hc0_1 hr1 hc1).mono fun e W' ⟨he, bel⟩ => ?_
  subst he
  exact ⟨_, rfl, _, _, _, [], _, [], hW', trodAll_mk1 (shut_bool Try.underlying4 _), (trodAll_cons_mk (Below.trod laidOut (by kernel_rfl) (of_decide_eq_true (by kernel_rfl)) kk0 bel lt0) (trodAll_cons_mk (Below.trod laidOut (by kernel_rfl) (of_decide_eq_true (by kernel_rfl)) kk1 bel lt1) trodAll_mk0)), rfl, bel.frame _, fun h => by cases h⟩
theorem over : Rows.fnExactSecCutRow.holds Try.pinned (OpenSpec.ofChange Rows.fnExactSecCutSpec) :=
  OpenClaim.holds_of_wide 14 Try.f14 rfl rfl rfl rfl rfl rfl rfl ⟨rfl, rfl, rfl, rfl, rfl⟩ rfl rfl rfl rfl rfl (by kernel_rfl) Try.func14 (by kernel_rfl)
    (of_decide_eq_true (by kernel_rfl)) (by unfold Func.isWrapper; first | (rw [if_pos (by decide +kernel)]; kernel_rfl) | (rw [if_neg (by decide +kernel)]; exact ⟨rfl, rfl⟩))
    (fun os started H enc _ => lifted os started H enc)
theorem proved : Rows.FnExactSecCutSaid := over
#print axioms proved
end Go.Proofs.Ythkdhcaojhbfoaa.fnExactSecCut
namespace Go.Proofs.Ythkdhcaojhbfoaa
/-- The row, under a short name, for the claim. -/
theorem fnExactSecCut_holds : Rows.FnExactSecCutSaid := fnExactSecCut.proved
end Go.Proofs.Ythkdhcaojhbfoaa
