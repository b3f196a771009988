-- printed by pprint.py (this session's program): the row of the law laws_FnExactWalDo, out of its pure statement and its walk. Lean checks it.
import Derived.Test.YthjocaegapchaaaRows
import Derived.Test.YthjocaegapchaaaPx28
import Derived.Test.YthjocaegapchaaaPureFnExactWalDo
import Derived.Test.YthjocaegapchaaaXOpen
import Derived.WalkKit
import Derived.ProofKit
import Derived.OpenShut
import Derived.ShutString
import Derived.ChangeOld
import Derived.Below
import Derived.SizedLaws
import Derived.Carry
namespace Go.Proofs.Ythjocaegapchaaa.fnExactWalDo
open Go.ChangeShapes Go.WideShapes Go.ChangeAt Go.RowKit
open Go.ChangeMaps (open_string shut_string)
open Go.Proofs.Ythjocaegapchaaa.P Go.Proofs.YthjocaegapchaaaX
open Go.Proofs.YthjocaegapchaaaW.PrintWords
set_option linter.unusedVariables false
theorem own : ownKnob Try.prog.godebug = none := by kernel_rfl
theorem laidOut : laidOutB Try.prog = true := by kernel_rfl
theorem opens9 : Opens Try.prog 9 Kd.string (fun s => s.size ≤ maxLen) := opens_string Try.underlying9 (by kernel_rfl)
theorem opens22 : Opens Try.prog 22 (Kd.slice 9 Kd.string) (fun x => (x.length ≤ maxLen ∧ ∀ z_ ∈ x, z_.size ≤ maxLen)) := opens_slice Try.underlying22 (by kernel_rfl) opens9
theorem opens3 : Opens Try.prog 3 (Kd.int .i64) (fun n => (Lit.int .i64 n).wf = true) := opens_int Try.underlying3 (by kernel_rfl)
theorem opens105 : Opens Try.prog 105 k105 wf105 := opens_struct (fun x : S105 => (x.f0, x.f1)) (fun a => ⟨a.1, a.2⟩) (fun _ => rfl) Try.underlying105 (by kernel_rfl) (by kernel_rfl) (opensF_cons opens3 (opensF_one opens9))
instance : Inhabited S105 := ⟨z105⟩
theorem opens23 : Opens Try.prog 23 (Kd.slice 105 k105) (fun x => (x.length ≤ maxLen ∧ ∀ z_ ∈ x, wf105 z_)) := opens_slice Try.underlying23 (by kernel_rfl) opens105
theorem opens25 : Opens Try.prog 25 k25 wf25 := opens_struct (fun x : S25 => (x.f0, x.f1)) (fun a => ⟨a.1, a.2⟩) (fun _ => rfl) Try.underlying25 (by kernel_rfl) (by kernel_rfl) (opensF_cons opens22 (opensF_one opens23))
theorem opens4 : Opens Try.prog 4 Kd.bool (fun _ => True) := opens_bool Try.underlying4 (by kernel_rfl)
theorem opens97 : Opens Try.prog 97 k97 wf97 := opens_struct (fun x : S97 => (x.f0, x.f1, x.f2)) (fun a => ⟨a.1, a.2.1, a.2.2⟩) (fun _ => rfl) Try.underlying97 (by kernel_rfl) (by kernel_rfl) (opensF_cons opens4 (opensF_cons opens3 (opensF_one opens9)))
instance : Inhabited S97 := ⟨z97⟩
theorem opens50 : Opens Try.prog 50 (Kd.slice 97 k97) (fun x => (x.length ≤ maxLen ∧ ∀ z_ ∈ x, wf97 z_)) := opens_slice Try.underlying50 (by kernel_rfl) opens97
theorem opens51 : Opens Try.prog 51 (Kd.slice 3 (Kd.int .i64)) (fun x => (x.length ≤ maxLen ∧ ∀ z_ ∈ x, (Lit.int .i64 z_).wf = true)) := opens_slice Try.underlying51 (by kernel_rfl) opens3
set_option maxRecDepth 100000 in
set_option maxHeartbeats 2000000 in
theorem lifted (os : Os) (started : os.Started) (H : Type) (enc : TypeId × Value → H) :
    ReturnsInHanded {} Try.checked os 7 .any (Rows.fnExactWalDoSpec.pre6 enc Try.prog Try.f7 Rows.fnExactWalDoRow.domain false) (Rows.fnExactWalDoSpec.post enc Try.prog Try.f7 false true false false) := by
  refine returnsInHanded_of_change_sized (C := Try.checked) own started (by kernel_rfl) Try.func7
    (ChangeSpec.witness6 (enc := enc) (C := Try.checked) false ⟨#[], #[.agg #[.slice none 0 0, .slice none 0 0], .slice none 0 0, .bool false, .int .i64 0, .slice none 0 0], []⟩ 12 (by kernel_rfl) (by kernel_rfl) (by kernel_rfl) (by kernel_rfl)) ?_
  intro W0 base args ds gs before hval0 hW hcnd hsz0 _
  have hsz : (DataW.weightsEach Try.prog (Try.f7.params.toList ++ Rows.fnExactWalDoSpec.plain.varTypes Try.prog) (ds ++ gs)).all (· ≤ reachBytes) = true := hsz0
  have hval : ∀ (j : Nat) t v, Try.f7.params[j]? = some t → args[j]? = some v → Value.okWide Try.prog W0 .any base t v := hval0
  have hW' := hW
  obtain ⟨p, q, hA0, hV, rfl, hfz, hnd⟩ := hW
  have hA : DataW.TrodAll enc Try.prog W0 0 (fun _ => true) true Try.f7.params.toList args.toList ds p := hA0
  rw [Try.params7] at hA hval hsz
  obtain ⟨v0, vs0, d0, ds0, p0, q0, hargs, rfl, rfl, h0, r0⟩ := trodAll_cons hA
  obtain ⟨v1, vs1, d1, ds1, p1, q1, rfl, rfl, rfl, h1, r1⟩ := trodAll_cons r0
  obtain ⟨v2, vs2, d2, ds2, p2, q2, rfl, rfl, rfl, h2, r2⟩ := trodAll_cons r1
  obtain ⟨v3, vs3, d3, ds3, p3, q3, rfl, rfl, rfl, h3, r3⟩ := trodAll_cons r2
  obtain ⟨v4, vs4, d4, ds4, p4, q4, rfl, rfl, rfl, h4, r4⟩ := trodAll_cons r3
  obtain ⟨rfl, rfl, rfl⟩ := trodAll_nil r4
  obtain rfl : args = #[v0, v1, v2, v3, v4] := by cases args; simp_all
  obtain ⟨rfl, rfl⟩ := trodVars_none hV
  obtain ⟨cs0, rfl, _⟩ := okWide_struct Try.underlying25 (hval 0 25 v0 rfl rfl)
  have kk0 := h0
  have lt0 : ∀ x ∈ p0, x.block < W0.heap.size := by obtain ⟨m, hm⟩ := kk0; exact DataW.trod_lt m _ _ _ hm
  obtain ⟨x0, hK0, hw0⟩ : ∃ x, k25.K W0 x cs0.toList ∧ wf25 x := by
    obtain ⟨m, hm⟩ := h0
    exact opens25.2 _ _ _ _ _ _ _ _ _ hm
  obtain ⟨A0_0, c0_0, A0_1, c0_1, hcs0, hc0_0, hr0_0, hc0_1, hr0_1⟩ := k25_open hK0
  obtain rfl : cs0 = #[.slice A0_0 x0.f0.length c0_0, .slice A0_1 x0.f1.length c0_1] := by cases cs0; simpa using hcs0
  obtain ⟨b1, len1, cap1, rfl⟩ := okWide_slice Try.underlying50 (hval 1 50 v1 rfl rfl)
  have kk1 := h1
  have lt1 : ∀ x ∈ p1, x.block < W0.heap.size := by obtain ⟨m, hm⟩ := kk1; exact DataW.trod_lt m _ _ _ hm
  obtain ⟨x1, hK1, hw1⟩ : ∃ x, (Kd.slice 97 k97).K W0 x [.slice b1 len1 cap1] ∧ (x.length ≤ maxLen ∧ ∀ z_ ∈ x, wf97 z_) := by
    obtain ⟨m, hm⟩ := h1
    exact opens50.2 _ _ _ _ _ _ _ _ _ hm
  obtain ⟨A1, c1, hcs1, hc1, hr1⟩ := hK1
  injection hcs1 with hcs1 _
  injection hcs1 with e1_ e2_ e3_
  subst e1_ e2_ e3_
  obtain ⟨a2, rfl, rfl, rfl⟩ := open_bool Try.underlying4 (hval 2 4 v2 rfl rfl) h2
  obtain ⟨a3, rfl, rfl, rfl, hw3⟩ := open_int Try.underlying3 (hval 3 3 v3 rfl rfl) h3
  obtain ⟨b4, len4, cap4, rfl⟩ := okWide_slice Try.underlying51 (hval 4 51 v4 rfl rfl)
  have kk4 := h4
  have lt4 : ∀ x ∈ p4, x.block < W0.heap.size := by obtain ⟨m, hm⟩ := kk4; exact DataW.trod_lt m _ _ _ hm
  obtain ⟨x4, hK4, hw4⟩ : ∃ x, (Kd.slice 3 (Kd.int .i64)).K W0 x [.slice b4 len4 cap4] ∧ (x.length ≤ maxLen ∧ ∀ z_ ∈ x, (Lit.int .i64 z_).wf = true) := by
    obtain ⟨m, hm⟩ := h4
    exact opens51.2 _ _ _ _ _ _ _ _ _ hm
  obtain ⟨A4, c4, hcs4, hc4, hr4⟩ := hK4
  injection hcs4 with hcs4 _
  injection hcs4 with e1_ e2_ e3_
  subst e1_ e2_ e3_
  clear hA0 hval0 hsz0 hsz
  refine (P.laws_FnExactWalDo.walk Pure.FnExactWalDo A0_0 c0_0 x0.f0 A0_1 c0_1 x0.f1 b1 cap1 x1 a2 a3 b4 cap4 x4 W0 hw0 hw1 hw3 hw4 hr0_0 hc0_0 hr0_1 hc0_1 hr1 hc1 hr4 hc4).mono fun e W' ⟨he, bel⟩ => ?_
  subst he
  exact ⟨_, rfl, _, _, _, [], _, [], hW', trodAll_mk1 (shut_bool Try.underlying4 _), (trodAll_cons_mk (Below.trod laidOut (by kernel_rfl) (of_decide_eq_true (by kernel_rfl)) kk0 bel lt0) (trodAll_cons_mk (Below.trod laidOut (by kernel_rfl) (of_decide_eq_true (by kernel_rfl)) kk1 bel lt1) (trodAll_cons_mk (shut_bool Try.underlying4 _) (trodAll_cons_mk (shut_int Try.underlying3 hw3) (trodAll_cons_mk (Below.trod laidOut (by kernel_rfl) (of_decide_eq_true (by kernel_rfl)) kk4 bel lt4) trodAll_mk0))))), rfl, bel.frame _, fun h => by cases h⟩
theorem over : Rows.fnExactWalDoRow.holds Try.pinned (OpenSpec.ofChange Rows.fnExactWalDoSpec) :=
  OpenClaim.holds_of_wide 7 Try.f7 rfl rfl rfl rfl rfl rfl rfl ⟨rfl, rfl, rfl, rfl, rfl⟩ rfl rfl rfl rfl rfl (by kernel_rfl) Try.func7 (by kernel_rfl)
    (of_decide_eq_true (by kernel_rfl)) (by unfold Func.isWrapper; first | (rw [if_pos (by decide +kernel)]; kernel_rfl) | (rw [if_neg (by decide +kernel)]; exact ⟨rfl, rfl⟩))
    (fun os started H enc _ => lifted os started H enc)
theorem proved : Rows.FnExactWalDoSaid := over
#print axioms proved
end Go.Proofs.Ythjocaegapchaaa.fnExactWalDo
namespace Go.Proofs.Ythjocaegapchaaa
/-- The row, under a short name, for the claim. -/
theorem fnExactWalDo_holds : Rows.FnExactWalDoSaid := fnExactWalDo.proved
end Go.Proofs.Ythjocaegapchaaa
