/-
  The program's SynChosen answers as the reference's, for all arguments.
  Conditions: those of the pure statement, none beside.
-/
import Derived.Test.YtncohokalilnbaaPx14
import Derived.Test.YtncohokalilnbaaXChosen
import Derived.Test.YtncohokalilnbaaXExCouncil
namespace Go.Proofs.Ytncohokalilnbaa.Pure
open Go.RowKit Go.Proofs.Ytncohokalilnbaa.P Go.Proofs.YtncohokalilnbaaX Go.Proofs.YtncohokalilnbaaW.PrintWords Go.Proofs.YtncohokalilnbaaW.PrintLast Go.Proofs.YtncohokalilnbaaW.PrintMore
set_option linter.unusedVariables false
set_option linter.unusedSimpArgs false

theorem FnExactSynChosen : laws_FnExactSynChosen.Pure := by
  intro V R Sk W D s hw _
  have hm : maxLen ≤ 9223372036854775807 := by decide
  have wV := hw.1
  have wR : R.length ≤ maxLen := hw.2.1.1
  have wS := hw.2.2.1
  have wW := hw.2.2.2.1
  have wD : D.length ≤ maxLen := hw.2.2.2.2.1
  simp only at wV wS wW
  refine T.rounds (g := fun k => laws_FnExactSynChosen.f k V R Sk W D s) ?_
  simp only [laws_FnExactSynChosen.f]
  refine T.bind (szCouncil_T V R Sk W D (by omega) (fun x h => Nat.le_trans (wV.2 x h).2.1 hm) (by omega) (by omega) (fun x h => Nat.le_trans (wS.2 x h).2.2.2.2.2.1 hm) (by omega) (fun x h => ⟨Nat.le_trans (wW.2 x h).2.2.2.2.2.2.2.2.2.2.2.2.2.2.2.1.1 hm, Nat.le_trans (wW.2 x h).2.2.2.2.2.2.2.2.2.2.2.2.2.2.2.2.1 hm⟩) (by omega)) (fun r hr => ?_)
  refine T.ite (fun _ => T.ret rfl) (fun h => ?_)
  obtain hr | ⟨⟨sV, sV2⟩, sR, ⟨sS, sS2⟩, ⟨sW, sW2⟩, sD⟩ := hr
  · exact absurd hr h
  have tC := toCouncil_T V R Sk W D sV sV2 sR sS sS2 sW sW2 sD
  have kV2 : ∀ x ∈ V.map toV, x.f1.length ≤ 1048576 := fun x hx => by
    obtain ⟨y, hy, rfl⟩ := List.mem_map.1 hx
    simpa [toV] using sV2 y hy
  have kS2 : ∀ x ∈ Sk.map toSk, x.f5.length ≤ 1048576 := fun x hx => by
    obtain ⟨y, hy, rfl⟩ := List.mem_map.1 hx
    exact sS2 y hy
  have kW2 : ∀ x ∈ W.map toWd, x.f15.length ≤ 1048576 ∧ x.f16.length ≤ 1048576 ∧ (-9223372036854775808 ≤ x.f1 ∧ x.f1 ≤ 9223372036854775807) ∧ (-9223372036854775808 ≤ x.f2 ∧ x.f2 ≤ 9223372036854775807) := fun x hx => by
    obtain ⟨y, hy, rfl⟩ := List.mem_map.1 hx
    exact ⟨by simpa [toWd] using (sW2 y hy).1, by simpa [toWd] using (sW2 y hy).2, wf_i64 (wW.2 y hy).2.1, wf_i64 (wW.2 y hy).2.2.1⟩
  have sp := spec_chosen s (V.map toV) R (Sk.map toSk) (W.map toWd) (D.map toPp) (by simpa using sD) (by simpa using sW) kV2
  have im := impl_chosen s (V.map toV) R (Sk.map toSk) (W.map toWd) (D.map toPp) (by simpa using sD) (by simpa using sW) kW2 kV2
  generalize (if councilB (V.map toV) R (Sk.map toSk) (W.map toWd) (D.map toPp) = true then chosenT s (V.map toV) else noT) = x at sp im
  obtain ⟨x0, x1, x2, x3, x4, x5, x6, x7, x8, x9, x10⟩ := x
  refine T.bind_eq tC ?_
  refine T.bind_eq sp ?_
  refine T.bind_eq tC ?_
  refine T.bind_eq im ?_
  obtain ⟨r, hr, hr2⟩ := eqCm_f ⟨x0, x1, x2, x3, x4, x5, x6, x7, x8, x9⟩ ⟨x0, x1, x2, x3, x4, x5, x6, x7, x8, x9⟩
  obtain rfl : r = true := hr2.2 rfl
  simp only at hr
  simp only [hr, Option.bind_some]
  refine T.pos trivial ?_
  refine T.neg (by simp) ?_
  refine T.bind_eq tC ?_
  refine T.bind_eq (eqCouncil_same (V.map toV) R (Sk.map toSk) (W.map toWd) (D.map toPp) (by simpa using sV) kV2 sR (by simpa using sS) kS2 (by simpa using sW) (fun x h => ⟨(kW2 x h).1, (kW2 x h).2.1⟩) (by simpa using sD)) ?_
  exact T.pos rfl (T.ret rfl)
end Go.Proofs.Ytncohokalilnbaa.Pure
