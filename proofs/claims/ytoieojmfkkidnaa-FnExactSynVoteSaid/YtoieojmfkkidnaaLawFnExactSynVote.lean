-- printed by pprint.py (this session's program): the row of the law laws_FnExactSynVote, out of its pure statement and its walk. Lean checks it.
import Derived.Test.YtoieojmfkkidnaaRows
import Derived.Test.YtoieojmfkkidnaaPx11
import Derived.Test.YtoieojmfkkidnaaPureFnExactSynVote
import Derived.Test.YtoieojmfkkidnaaXOpen
import Derived.WalkKit
import Derived.ProofKit
import Derived.OpenShut
import Derived.ShutString
import Derived.ChangeOld
import Derived.Below
import Derived.SizedLaws
import Derived.Carry
namespace Go.Proofs.Ytoieojmfkkidnaa.fnExactSynVote
open Go.ChangeShapes Go.WideShapes Go.ChangeAt Go.RowKit
open Go.ChangeMaps (open_string shut_string)
open Go.Proofs.Ytoieojmfkkidnaa.P Go.Proofs.YtoieojmfkkidnaaX
open Go.Proofs.YtoieojmfkkidnaaW.PrintWords
set_option linter.unusedVariables false
theorem own : ownKnob Try.prog.godebug = none := by kernel_rfl
theorem laidOut : laidOutB Try.prog = true := by kernel_rfl
theorem opens3 : Opens Try.prog 3 (Kd.int .i64) (fun n => (Lit.int .i64 n).wf = true) := opens_int Try.underlying3 (by kernel_rfl)
theorem opens32 : Opens Try.prog 32 k32 wf32 := opens_struct (fun x : S32 => (x.f0, x.f1, x.f2, x.f3, x.f4, x.f5, x.f6, x.f7, x.f8, x.f9)) (fun a => ⟨a.1, a.2.1, a.2.2.1, a.2.2.2.1, a.2.2.2.2.1, a.2.2.2.2.2.1, a.2.2.2.2.2.2.1, a.2.2.2.2.2.2.2.1, a.2.2.2.2.2.2.2.2.1, a.2.2.2.2.2.2.2.2.2⟩) (fun _ => rfl) Try.underlying32 (by kernel_rfl) (by kernel_rfl) (opensF_cons opens3 (opensF_cons opens3 (opensF_cons opens3 (opensF_cons opens3 (opensF_cons opens3 (opensF_cons opens3 (opensF_cons opens3 (opensF_cons opens3 (opensF_cons opens3 (opensF_one opens3))))))))))
theorem opens57 : Opens Try.prog 57 k57 wf57 := opens_struct (fun x : S57 => (x.f0, x.f1, x.f2)) (fun a => ⟨a.1, a.2.1, a.2.2⟩) (fun _ => rfl) Try.underlying57 (by kernel_rfl) (by kernel_rfl) (opensF_cons opens3 (opensF_cons opens3 (opensF_one opens32)))
instance : Inhabited S57 := ⟨z57⟩
theorem opens45 : Opens Try.prog 45 (Kd.slice 57 k57) (fun x => (x.length ≤ maxLen ∧ ∀ z_ ∈ x, wf57 z_)) := opens_slice Try.underlying45 (by kernel_rfl) opens57
theorem opens47 : Opens Try.prog 47 k47 wf47 := opens_struct (fun x : S47 => (x.f0, x.f1)) (fun a => ⟨a.1, a.2⟩) (fun _ => rfl) Try.underlying47 (by kernel_rfl) (by kernel_rfl) (opensF_cons opens3 (opensF_one opens45))
theorem opens146 : Opens Try.prog 146 k146 wf146 := opens_struct (fun x : S146 => (x.f0, x.f1, x.f2, x.f3)) (fun a => ⟨a.1, a.2.1, a.2.2.1, a.2.2.2⟩) (fun _ => rfl) Try.underlying146 (by kernel_rfl) (by kernel_rfl) (opensF_cons opens3 (opensF_cons opens3 (opensF_cons opens3 (opensF_one opens3))))
instance : Inhabited S146 := ⟨z146⟩
theorem opens33 : Opens Try.prog 33 (Kd.slice 146 k146) (fun x => (x.length ≤ maxLen ∧ ∀ z_ ∈ x, wf146 z_)) := opens_slice Try.underlying33 (by kernel_rfl) opens146
theorem opens148 : Opens Try.prog 148 k148 wf148 := opens_struct (fun x : S148 => (x.f0, x.f1)) (fun a => ⟨a.1, a.2⟩) (fun _ => rfl) Try.underlying148 (by kernel_rfl) (by kernel_rfl) (opensF_cons opens3 (opensF_one opens3))
instance : Inhabited S148 := ⟨z148⟩
theorem opens34 : Opens Try.prog 34 (Kd.slice 148 k148) (fun x => (x.length ≤ maxLen ∧ ∀ z_ ∈ x, wf148 z_)) := opens_slice Try.underlying34 (by kernel_rfl) opens148
theorem opens36 : Opens Try.prog 36 k36 wf36 := opens_struct (fun x : S36 => (x.f0, x.f1, x.f2, x.f3, x.f4, x.f5, x.f6, x.f7, x.f8, x.f9, x.f10, x.f11, x.f12, x.f13, x.f14, x.f15, x.f16)) (fun a => ⟨a.1, a.2.1, a.2.2.1, a.2.2.2.1, a.2.2.2.2.1, a.2.2.2.2.2.1, a.2.2.2.2.2.2.1, a.2.2.2.2.2.2.2.1, a.2.2.2.2.2.2.2.2.1, a.2.2.2.2.2.2.2.2.2.1, a.2.2.2.2.2.2.2.2.2.2.1, a.2.2.2.2.2.2.2.2.2.2.2.1, a.2.2.2.2.2.2.2.2.2.2.2.2.1, a.2.2.2.2.2.2.2.2.2.2.2.2.2.1, a.2.2.2.2.2.2.2.2.2.2.2.2.2.2.1, a.2.2.2.2.2.2.2.2.2.2.2.2.2.2.2.1, a.2.2.2.2.2.2.2.2.2.2.2.2.2.2.2.2⟩) (fun _ => rfl) Try.underlying36 (by kernel_rfl) (by kernel_rfl) (opensF_cons opens3 (opensF_cons opens3 (opensF_cons opens3 (opensF_cons opens3 (opensF_cons opens3 (opensF_cons opens3 (opensF_cons opens32 (opensF_cons opens3 (opensF_cons opens3 (opensF_cons opens3 (opensF_cons opens3 (opensF_cons opens3 (opensF_cons opens3 (opensF_cons opens3 (opensF_cons opens3 (opensF_cons opens33 (opensF_one opens34)))))))))))))))))
set_option maxRecDepth 100000 in
set_option maxHeartbeats 2000000 in
theorem lifted (os : Os) (started : os.Started) (H : Type) (enc : TypeId × Value → H) :
    ReturnsInHanded {} Try.checked os 9 .any (Rows.fnExactSynVoteSpec.pre6 enc Try.prog Try.f9 Rows.fnExactSynVoteRow.domain false) (Rows.fnExactSynVoteSpec.post enc Try.prog Try.f9 false true false false) := by
  refine returnsInHanded_of_change_sized (C := Try.checked) own started (by kernel_rfl) Try.func9
    (ChangeSpec.witness6 (enc := enc) (C := Try.checked) false ⟨#[], #[.agg #[.int .i64 0, .slice none 0 0], .int .i64 0, .agg #[.int .i64 0, .int .i64 0, .int .i64 0, .int .i64 0, .int .i64 0, .int .i64 0, .int .i64 0, .int .i64 0, .int .i64 0, .int .i64 0, .int .i64 0, .int .i64 0, .int .i64 0, .int .i64 0, .int .i64 0, .int .i64 0, .int .i64 0, .int .i64 0, .int .i64 0, .int .i64 0, .int .i64 0, .int .i64 0, .int .i64 0, .int .i64 0, .slice none 0 0, .slice none 0 0]], []⟩ 12 (by kernel_rfl) (by kernel_rfl) (by kernel_rfl) (by kernel_rfl)) ?_
  intro W0 base args ds gs before hval0 hW hcnd hsz0 _
  have hsz : (DataW.weightsEach Try.prog (Try.f9.params.toList ++ Rows.fnExactSynVoteSpec.plain.varTypes Try.prog) (ds ++ gs)).all (· ≤ reachBytes) = true := hsz0
  have hval : ∀ (j : Nat) t v, Try.f9.params[j]? = some t → args[j]? = some v → Value.okWide Try.prog W0 .any base t v := hval0
  have hW' := hW
  obtain ⟨p, q, hA0, hV, rfl, hfz, hnd⟩ := hW
  have hA : DataW.TrodAll enc Try.prog W0 0 (fun _ => true) true Try.f9.params.toList args.toList ds p := hA0
  rw [Try.params9] at hA hval hsz
  obtain ⟨v0, vs0, d0, ds0, p0, q0, hargs, rfl, rfl, h0, r0⟩ := trodAll_cons hA
  obtain ⟨v1, vs1, d1, ds1, p1, q1, rfl, rfl, rfl, h1, r1⟩ := trodAll_cons r0
  obtain ⟨v2, vs2, d2, ds2, p2, q2, rfl, rfl, rfl, h2, r2⟩ := trodAll_cons r1
  obtain ⟨rfl, rfl, rfl⟩ := trodAll_nil r2
  obtain rfl : args = #[v0, v1, v2] := by cases args; simp_all
  obtain ⟨rfl, rfl⟩ := trodVars_none hV
  obtain ⟨cs0, rfl, _⟩ := okWide_struct Try.underlying47 (hval 0 47 v0 rfl rfl)
  have kk0 := h0
  have lt0 : ∀ x ∈ p0, x.block < W0.heap.size := by obtain ⟨m, hm⟩ := kk0; exact DataW.trod_lt m _ _ _ hm
  obtain ⟨x0, hK0, hw0⟩ : ∃ x, k47.K W0 x cs0.toList ∧ wf47 x := by
    obtain ⟨m, hm⟩ := h0
    exact opens47.2 _ _ _ _ _ _ _ _ _ hm
  obtain ⟨A0_1, c0_1, hcs0, hc0_1, hr0_1⟩ := k47_open hK0
  obtain rfl : cs0 = #[.int .i64 x0.f0, .slice A0_1 x0.f1.length c0_1] := by cases cs0; simpa using hcs0
  obtain ⟨a1, rfl, rfl, rfl, hw1⟩ := open_int Try.underlying3 (hval 1 3 v1 rfl rfl) h1
  obtain ⟨cs2, rfl, _⟩ := okWide_struct Try.underlying36 (hval 2 36 v2 rfl rfl)
  have kk2 := h2
  have lt2 : ∀ x ∈ p2, x.block < W0.heap.size := by obtain ⟨m, hm⟩ := kk2; exact DataW.trod_lt m _ _ _ hm
  obtain ⟨x2, hK2, hw2⟩ : ∃ x, k36.K W0 x cs2.toList ∧ wf36 x := by
    obtain ⟨m, hm⟩ := h2
    exact opens36.2 _ _ _ _ _ _ _ _ _ hm
  obtain ⟨A2_24, c2_24, A2_25, c2_25, hcs2, hc2_24, hr2_24, hc2_25, hr2_25⟩ := k36_open hK2
  obtain rfl : cs2 = #[.int .i64 x2.f0, .int .i64 x2.f1, .int .i64 x2.f2, .int .i64 x2.f3, .int .i64 x2.f4, .int .i64 x2.f5, .int .i64 x2.f6.f0, .int .i64 x2.f6.f1, .int .i64 x2.f6.f2, .int .i64 x2.f6.f3, .int .i64 x2.f6.f4, .int .i64 x2.f6.f5, .int .i64 x2.f6.f6, .int .i64 x2.f6.f7, .int .i64 x2.f6.f8, .int .i64 x2.f6.f9, .int .i64 x2.f7, .int .i64 x2.f8, .int .i64 x2.f9, .int .i64 x2.f10, .int .i64 x2.f11, .int .i64 x2.f12, .int .i64 x2.f13, .int .i64 x2.f14, .slice A2_24 x2.f15.length c2_24, .slice A2_25 x2.f16.length c2_25] := by cases cs2; simpa using hcs2
  clear hA0 hval0 hsz0 hsz
  refine (P.laws_FnExactSynVote.walk Pure.FnExactSynVote x0.f0 A0_1 c0_1 x0.f1 a1 x2.f0 x2.f1 x2.f2 x2.f3 x2.f4 x2.f5 x2.f6.f0 x2.f6.f1 x2.f6.f2 x2.f6.f3 x2.f6.f4 x2.f6.f5 x2.f6.f6 x2.f6.f7 x2.f6.f8 x2.f6.f9 x2.f7 x2.f8 x2.f9 x2.f10 x2.f11 x2.f12 x2.f13 x2.f14 A2_24 c2_24 x2.f15 A2_25 c2_25 x2.f16 W0 hw0 hw1 hw2 hr0_1 hc0_1 hr2_24 hc2_24 hr2_25 hc2_25).mono fun e W' ⟨he, bel⟩ => ?_
  subst he
  exact ⟨_, rfl, _, _, _, [], _, [], hW', trodAll_mk1 (shut_bool Try.underlying4 _), (trodAll_cons_mk (Below.trod laidOut (by kernel_rfl) (of_decide_eq_true (by kernel_rfl)) kk0 bel lt0) (trodAll_cons_mk (shut_int Try.underlying3 hw1) (trodAll_cons_mk (Below.trod laidOut (by kernel_rfl) (of_decide_eq_true (by kernel_rfl)) kk2 bel lt2) trodAll_mk0))), rfl, bel.frame _, fun h => by cases h⟩
theorem over : Rows.fnExactSynVoteRow.holds Try.pinned (OpenSpec.ofChange Rows.fnExactSynVoteSpec) :=
  OpenClaim.holds_of_wide 9 Try.f9 rfl rfl rfl rfl rfl rfl rfl ⟨rfl, rfl, rfl, rfl, rfl⟩ rfl rfl rfl rfl rfl (by kernel_rfl) Try.func9 (by kernel_rfl)
    (of_decide_eq_true (by kernel_rfl)) (by unfold Func.isWrapper; first | (rw [if_pos (by decide +kernel)]; kernel_rfl) | (rw [if_neg (by decide +kernel)]; exact ⟨rfl, rfl⟩))
    (fun os started H enc _ => lifted os started H enc)
theorem proved : Rows.FnExactSynVoteSaid := over
#print axioms proved
end Go.Proofs.Ytoieojmfkkidnaa.fnExactSynVote
namespace Go.Proofs.Ytoieojmfkkidnaa
/-- The row, under a short name, for the claim. -/
theorem fnExactSynVote_holds : Rows.FnExactSynVoteSaid := fnExactSynVote.proved
end Go.Proofs.Ytoieojmfkkidnaa
