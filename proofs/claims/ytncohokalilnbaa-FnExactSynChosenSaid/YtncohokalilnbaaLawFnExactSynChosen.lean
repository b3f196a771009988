-- printed by pprint.py (this session's program): the row of the law laws_FnExactSynChosen, out of its pure statement and its walk. Lean checks it.
import Derived.Test.YtncohokalilnbaaRows
import Derived.Test.YtncohokalilnbaaPx14
import Derived.Test.YtncohokalilnbaaPureFnExactSynChosen
import Derived.Test.YtncohokalilnbaaXOpen
import Derived.WalkKit
import Derived.ProofKit
import Derived.OpenShut
import Derived.ShutString
import Derived.ChangeOld
import Derived.Below
import Derived.SizedLaws
import Derived.Carry
namespace Go.Proofs.Ytncohokalilnbaa.fnExactSynChosen
open Go.ChangeShapes Go.WideShapes Go.ChangeAt Go.RowKit
open Go.ChangeMaps (open_string shut_string)
open Go.Proofs.Ytncohokalilnbaa.P Go.Proofs.YtncohokalilnbaaX
open Go.Proofs.YtncohokalilnbaaW.PrintWords
set_option linter.unusedVariables false
theorem own : ownKnob Try.prog.godebug = none := by kernel_rfl
theorem laidOut : laidOutB Try.prog = true := by kernel_rfl
theorem opens3 : Opens Try.prog 3 (Kd.int .i64) (fun n => (Lit.int .i64 n).wf = true) := opens_int Try.underlying3 (by kernel_rfl)
theorem opens125 : Opens Try.prog 125 k125 wf125 := opens_struct (fun x : S125 => (x.f0, x.f1, x.f2, x.f3, x.f4, x.f5, x.f6, x.f7, x.f8, x.f9)) (fun a => ⟨a.1, a.2.1, a.2.2.1, a.2.2.2.1, a.2.2.2.2.1, a.2.2.2.2.2.1, a.2.2.2.2.2.2.1, a.2.2.2.2.2.2.2.1, a.2.2.2.2.2.2.2.2.1, a.2.2.2.2.2.2.2.2.2⟩) (fun _ => rfl) Try.underlying125 (by kernel_rfl) (by kernel_rfl) (opensF_cons opens3 (opensF_cons opens3 (opensF_cons opens3 (opensF_cons opens3 (opensF_cons opens3 (opensF_cons opens3 (opensF_cons opens3 (opensF_cons opens3 (opensF_cons opens3 (opensF_one opens3))))))))))
theorem opens127 : Opens Try.prog 127 k127 wf127 := opens_struct (fun x : S127 => (x.f0, x.f1, x.f2)) (fun a => ⟨a.1, a.2.1, a.2.2⟩) (fun _ => rfl) Try.underlying127 (by kernel_rfl) (by kernel_rfl) (opensF_cons opens3 (opensF_cons opens3 (opensF_one opens125)))
instance : Inhabited S127 := ⟨z127⟩
theorem opens36 : Opens Try.prog 36 (Kd.slice 127 k127) (fun x => (x.length ≤ maxLen ∧ ∀ z_ ∈ x, wf127 z_)) := opens_slice Try.underlying36 (by kernel_rfl) opens127
theorem opens123 : Opens Try.prog 123 k123 wf123 := opens_struct (fun x : S123 => (x.f0, x.f1)) (fun a => ⟨a.1, a.2⟩) (fun _ => rfl) Try.underlying123 (by kernel_rfl) (by kernel_rfl) (opensF_cons opens3 (opensF_one opens36))
instance : Inhabited S123 := ⟨z123⟩
theorem opens33 : Opens Try.prog 33 (Kd.slice 123 k123) (fun x => (x.length ≤ maxLen ∧ ∀ z_ ∈ x, wf123 z_)) := opens_slice Try.underlying33 (by kernel_rfl) opens123
theorem opens23 : Opens Try.prog 23 (Kd.slice 3 (Kd.int .i64)) (fun x => (x.length ≤ maxLen ∧ ∀ z_ ∈ x, (Lit.int .i64 z_).wf = true)) := opens_slice Try.underlying23 (by kernel_rfl) opens3
theorem opens129 : Opens Try.prog 129 k129 wf129 := opens_struct (fun x : S129 => (x.f0, x.f1, x.f2, x.f3, x.f4, x.f5)) (fun a => ⟨a.1, a.2.1, a.2.2.1, a.2.2.2.1, a.2.2.2.2.1, a.2.2.2.2.2⟩) (fun _ => rfl) Try.underlying129 (by kernel_rfl) (by kernel_rfl) (opensF_cons opens3 (opensF_cons opens3 (opensF_cons opens3 (opensF_cons opens125 (opensF_cons opens127 (opensF_one opens23))))))
instance : Inhabited S129 := ⟨z129⟩
theorem opens34 : Opens Try.prog 34 (Kd.slice 129 k129) (fun x => (x.length ≤ maxLen ∧ ∀ z_ ∈ x, wf129 z_)) := opens_slice Try.underlying34 (by kernel_rfl) opens129
theorem opens182 : Opens Try.prog 182 k182 wf182 := opens_struct (fun x : S182 => (x.f0, x.f1, x.f2, x.f3)) (fun a => ⟨a.1, a.2.1, a.2.2.1, a.2.2.2⟩) (fun _ => rfl) Try.underlying182 (by kernel_rfl) (by kernel_rfl) (opensF_cons opens3 (opensF_cons opens3 (opensF_cons opens3 (opensF_one opens3))))
instance : Inhabited S182 := ⟨z182⟩
theorem opens131 : Opens Try.prog 131 (Kd.slice 182 k182) (fun x => (x.length ≤ maxLen ∧ ∀ z_ ∈ x, wf182 z_)) := opens_slice Try.underlying131 (by kernel_rfl) opens182
theorem opens184 : Opens Try.prog 184 k184 wf184 := opens_struct (fun x : S184 => (x.f0, x.f1)) (fun a => ⟨a.1, a.2⟩) (fun _ => rfl) Try.underlying184 (by kernel_rfl) (by kernel_rfl) (opensF_cons opens3 (opensF_one opens3))
instance : Inhabited S184 := ⟨z184⟩
theorem opens132 : Opens Try.prog 132 (Kd.slice 184 k184) (fun x => (x.length ≤ maxLen ∧ ∀ z_ ∈ x, wf184 z_)) := opens_slice Try.underlying132 (by kernel_rfl) opens184
theorem opens134 : Opens Try.prog 134 k134 wf134 := opens_struct (fun x : S134 => (x.f0, x.f1, x.f2, x.f3, x.f4, x.f5, x.f6, x.f7, x.f8, x.f9, x.f10, x.f11, x.f12, x.f13, x.f14, x.f15, x.f16)) (fun a => ⟨a.1, a.2.1, a.2.2.1, a.2.2.2.1, a.2.2.2.2.1, a.2.2.2.2.2.1, a.2.2.2.2.2.2.1, a.2.2.2.2.2.2.2.1, a.2.2.2.2.2.2.2.2.1, a.2.2.2.2.2.2.2.2.2.1, a.2.2.2.2.2.2.2.2.2.2.1, a.2.2.2.2.2.2.2.2.2.2.2.1, a.2.2.2.2.2.2.2.2.2.2.2.2.1, a.2.2.2.2.2.2.2.2.2.2.2.2.2.1, a.2.2.2.2.2.2.2.2.2.2.2.2.2.2.1, a.2.2.2.2.2.2.2.2.2.2.2.2.2.2.2.1, a.2.2.2.2.2.2.2.2.2.2.2.2.2.2.2.2⟩) (fun _ => rfl) Try.underlying134 (by kernel_rfl) (by kernel_rfl) (opensF_cons opens3 (opensF_cons opens3 (opensF_cons opens3 (opensF_cons opens3 (opensF_cons opens3 (opensF_cons opens3 (opensF_cons opens125 (opensF_cons opens3 (opensF_cons opens3 (opensF_cons opens3 (opensF_cons opens3 (opensF_cons opens3 (opensF_cons opens3 (opensF_cons opens3 (opensF_cons opens3 (opensF_cons opens131 (opensF_one opens132)))))))))))))))))
instance : Inhabited S134 := ⟨z134⟩
theorem opens35 : Opens Try.prog 35 (Kd.slice 134 k134) (fun x => (x.length ≤ maxLen ∧ ∀ z_ ∈ x, wf134 z_)) := opens_slice Try.underlying35 (by kernel_rfl) opens134
theorem opens38 : Opens Try.prog 38 k38 wf38 := opens_struct (fun x : S38 => (x.f0, x.f1, x.f2, x.f3, x.f4)) (fun a => ⟨a.1, a.2.1, a.2.2.1, a.2.2.2.1, a.2.2.2.2⟩) (fun _ => rfl) Try.underlying38 (by kernel_rfl) (by kernel_rfl) (opensF_cons opens33 (opensF_cons opens23 (opensF_cons opens34 (opensF_cons opens35 (opensF_one opens36)))))
set_option maxRecDepth 100000 in
set_option maxHeartbeats 2000000 in
theorem lifted (os : Os) (started : os.Started) (H : Type) (enc : TypeId × Value → H) :
    ReturnsInHanded {} Try.checked os 5 .any (Rows.fnExactSynChosenSpec.pre6 enc Try.prog Try.f5 Rows.fnExactSynChosenRow.domain false) (Rows.fnExactSynChosenSpec.post enc Try.prog Try.f5 false true false false) := by
  refine returnsInHanded_of_change_sized (C := Try.checked) own started (by kernel_rfl) Try.func5
    (ChangeSpec.witness6 (enc := enc) (C := Try.checked) false ⟨#[], #[.agg #[.slice none 0 0, .slice none 0 0, .slice none 0 0, .slice none 0 0, .slice none 0 0], .int .i64 0], []⟩ 12 (by kernel_rfl) (by kernel_rfl) (by kernel_rfl) (by kernel_rfl)) ?_
  intro W0 base args ds gs before hval0 hW hcnd hsz0 _
  have hsz : (DataW.weightsEach Try.prog (Try.f5.params.toList ++ Rows.fnExactSynChosenSpec.plain.varTypes Try.prog) (ds ++ gs)).all (· ≤ reachBytes) = true := hsz0
  have hval : ∀ (j : Nat) t v, Try.f5.params[j]? = some t → args[j]? = some v → Value.okWide Try.prog W0 .any base t v := hval0
  have hW' := hW
  obtain ⟨p, q, hA0, hV, rfl, hfz, hnd⟩ := hW
  have hA : DataW.TrodAll enc Try.prog W0 0 (fun _ => true) true Try.f5.params.toList args.toList ds p := hA0
  rw [Try.params5] at hA hval hsz
  obtain ⟨v0, vs0, d0, ds0, p0, q0, hargs, rfl, rfl, h0, r0⟩ := trodAll_cons hA
  obtain ⟨v1, vs1, d1, ds1, p1, q1, rfl, rfl, rfl, h1, r1⟩ := trodAll_cons r0
  obtain ⟨rfl, rfl, rfl⟩ := trodAll_nil r1
  obtain rfl : args = #[v0, v1] := by cases args; simp_all
  obtain ⟨rfl, rfl⟩ := trodVars_none hV
  obtain ⟨cs0, rfl, _⟩ := okWide_struct Try.underlying38 (hval 0 38 v0 rfl rfl)
  have kk0 := h0
  have lt0 : ∀ x ∈ p0, x.block < W0.heap.size := by obtain ⟨m, hm⟩ := kk0; exact DataW.trod_lt m _ _ _ hm
  obtain ⟨x0, hK0, hw0⟩ : ∃ x, k38.K W0 x cs0.toList ∧ wf38 x := by
    obtain ⟨m, hm⟩ := h0
    exact opens38.2 _ _ _ _ _ _ _ _ _ hm
  obtain ⟨A0_0, c0_0, A0_1, c0_1, A0_2, c0_2, A0_3, c0_3, A0_4, c0_4, hcs0, hc0_0, hr0_0, hc0_1, hr0_1, hc0_2, hr0_2, hc0_3, hr0_3, hc0_4, hr0_4⟩ := k38_open hK0
  obtain rfl : cs0 = #[.slice A0_0 x0.f0.length c0_0, .slice A0_1 x0.f1.length c0_1, .slice A0_2 x0.f2.length c0_2, .slice A0_3 x0.f3.length c0_3, .slice A0_4 x0.f4.length c0_4] := by cases cs0; simpa using hcs0
  obtain ⟨a1, rfl, rfl, rfl, hw1⟩ := open_int Try.underlying3 (hval 1 3 v1 rfl rfl) h1
  clear hA0 hval0 hsz0 hsz
  refine (P.laws_FnExactSynChosen.walk Pure.FnExactSynChosen A0_0 c0_0 x0.f0 A0_1 c0_1 x0.f1 A0_2 c0_2 x0.f2 A0_3 c0_3 x0.f3 A0_4 c0_4 x0.f4 a1 W0 hw0 hw1 hr0_0 hc0_0 hr0_1 hc0_1 hr0_2 hc0_2 hr0_3 hc0_3 hr0_4 hc0_4).mono fun e W' ⟨he, bel⟩ => ?_
  subst he
  exact ⟨_, rfl, _, _, _, [], _, [], hW', trodAll_mk1 (shut_bool Try.underlying4 _), (trodAll_cons_mk (Below.trod laidOut (by kernel_rfl) (of_decide_eq_true (by kernel_rfl)) kk0 bel lt0) (trodAll_cons_mk (shut_int Try.underlying3 hw1) trodAll_mk0)), rfl, bel.frame _, fun h => by cases h⟩
theorem over : Rows.fnExactSynChosenRow.holds Try.pinned (OpenSpec.ofChange Rows.fnExactSynChosenSpec) :=
  OpenClaim.holds_of_wide 5 Try.f5 rfl rfl rfl rfl rfl rfl rfl ⟨rfl, rfl, rfl, rfl, rfl⟩ rfl rfl rfl rfl rfl (by kernel_rfl) Try.func5 (by kernel_rfl)
    (of_decide_eq_true (by kernel_rfl)) (by unfold Func.isWrapper; first | (rw [if_pos (by decide +kernel)]; kernel_rfl) | (rw [if_neg (by decide +kernel)]; exact ⟨rfl, rfl⟩))
    (fun os started H enc _ => lifted os started H enc)
theorem proved : Rows.FnExactSynChosenSaid := over
#print axioms proved
end Go.Proofs.Ytncohokalilnbaa.fnExactSynChosen
namespace Go.Proofs.Ytncohokalilnbaa
/-- The row, under a short name, for the claim. -/
theorem fnExactSynChosen_holds : Rows.FnExactSynChosenSaid := fnExactSynChosen.proved
end Go.Proofs.Ytncohokalilnbaa
