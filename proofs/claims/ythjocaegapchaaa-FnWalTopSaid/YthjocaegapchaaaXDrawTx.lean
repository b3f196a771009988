/-
  Drawn transactions: how long a disk and its homes come out.
  Conditions: Go's bounds of the drawn bytes.
-/
import Derived.Test.YthjocaegapchaaaXDrawWal3
import Derived.Test.YthjocaegapchaaaPx15
namespace Go.Proofs.YthjocaegapchaaaX
open Go.RowKit Go.Proofs.Ythjocaegapchaaa.P Go.Proofs.YthjocaegapchaaaW.PrintWords Go.Proofs.YthjocaegapchaaaW.PrintLast Go.Proofs.YthjocaegapchaaaW.PrintMore
set_option linter.unusedVariables false
set_option linter.unusedSimpArgs false

theorem steps_l0 (K : Bs) (W : List Sw) : ∀ (d i : Nat) (H : Bs), H.length ≤ 1000 → H.length - i = d → i ≤ H.length → T (fun k => spec_DrawWalSteps.l0 k H (i : Int) K W) (fun r => r.1 = K ∧ r.2.1 = W ∧ r.2.2.length ≤ 1000) := by
  intro d
  induction d with
  | zero =>
    intro i H hl hd hi
    refine T.succ ?_
    simp only [spec_DrawWalSteps.l0]
    exact T.neg (by omega) (T.ret ⟨rfl, rfl, hl⟩)
  | succ d ih =>
    intro i H hl hd hi
    refine T.succ ?_
    simp only [spec_DrawWalSteps.l0]
    refine T.pos (by omega) (T.pos (by omega) ?_)
    rw [wrap_succ (n := H.length) (by omega) (by omega)]
    exact ih (i + 1) _ (by rw [List.length_set]; omega) (by rw [List.length_set]; omega) (by rw [List.length_set]; omega)
theorem steps_j0 {b : List Int} (hc : Code b) (now K : Bs) (W : List Sw) (hn : now.length = 250) {p : Int} (h0 : 0 ≤ p) (h1 : p ≤ 100000000) : T (fun k => spec_DrawWalSteps.j0 k now b p K W) (fun r => r.1 = K ∧ r.2.1 = W ∧ r.2.2.length ≤ 1000) := by
  refine T.succ ?_
  simp only [spec_DrawWalSteps.j0]
  refine T.bind (homes_T hc now (by omega) h0 h1) (fun H ⟨g1, g2, g3, g4⟩ => ?_)
  refine T.bind (pick_T hc (by omega) (by omega) 16 (by omega) (by omega)) (fun q ⟨a, b, c⟩ => ?_)
  refine T.ite (fun _ => ?_) (fun _ => ?_)
  · refine T.bind (pick_T hc (by omega) (by omega) 9 (by omega) (by omega)) (fun q2 ⟨a2, b2, c2⟩ => ?_)
    have := b2 (by omega)
    refine T.bind (pick_T hc (by omega) (by omega) 2 (by omega) (by omega)) (fun q3 ⟨a3, b3, c3⟩ => ?_)
    have := b3 (by omega)
    rw [wrap64_id (x := 15 + q3.1) (by omega) (by omega)]
    refine T.bind (many6_T _ _ (by decide) (by omega) (by omega)) (fun s _ => ?_)
    exact T.pos a2 (T.pos (by omega) (T.ret ⟨rfl, rfl, by rw [List.length_set]; omega⟩))
  refine T.ite (fun _ => ?_) (fun _ => ?_)
  · exact T.pos (by omega) (T.ret ⟨rfl, rfl, by rw [List.length_drop]; omega⟩)
  refine T.ite (fun _ => ?_) (fun _ => T.ret ⟨rfl, rfl, by show H.1.length ≤ _; omega⟩)
  exact steps_l0 K W _ 0 H.1 (by omega) rfl (Nat.zero_le _)
theorem drawWalSteps_T (l : List Int) (hw : ∀ x ∈ l, (Lit.int .u8 x).wf = true) (hl : l.length ≤ maxLen) : T (fun k => spec_DrawWalSteps.f k l) (fun r => r.1.length ≤ 1000 ∧ r.2.1.length ≤ 300 ∧ r.2.2.length ≤ 1000) := by
  simp only [spec_DrawWalSteps.f]
  obtain ⟨b, hc, hb⟩ := open_code hw hl
  simp only [hb, Option.bind_some]
  refine T.bind (walAny_T2 hc (by omega) (by omega)) (fun d ⟨hd, h0, h1⟩ => ?_)
  have k1 : d.1.length ≤ 1000 := hd.1
  have k2 : d.2.1.length ≤ 300 := hd.2
  refine T.bind_eq (spec_wread d.1 d.2.1 (by omega)) ?_
  refine T.ite (fun h => ?_) (fun h => ?_)
  · exact (steps_j0 hc _ d.1 d.2.1 (wreadB_250 h) h0 (by omega)).mono (fun r hr => ⟨by rw [hr.1]; exact k1, by rw [hr.2.1]; exact k2, hr.2.2⟩)
  · refine T.pos (by omega) ?_
    exact (steps_j0 hc _ d.1 d.2.1 (by rw [List.length_replicate]) h0 (by omega)).mono (fun r hr => ⟨by rw [hr.1]; exact k1, by rw [hr.2.1]; exact k2, hr.2.2⟩)
end Go.Proofs.YthjocaegapchaaaX
