/-
  The drawn disks of sectors: they always come, and are short.
  Conditions: bytes.
-/
import Derived.Test.YthjocaegapchaaaXSec2
import Derived.Test.YthjocaegapchaaaXSecFew
import Derived.Test.YthjocaegapchaaaXDrawText
import Derived.Test.YthjocaegapchaaaPx12
namespace Go.Proofs.YthjocaegapchaaaX
open Go.RowKit Go.Proofs.Ythjocaegapchaaa.P Go.Proofs.YthjocaegapchaaaW.PrintWords Go.Proofs.YthjocaegapchaaaW.PrintLast Go.Proofs.YthjocaegapchaaaW.PrintMore
set_option linter.unusedVariables false
set_option linter.unusedSimpArgs false

theorem drawSec_loop {b : List Int} (hc : Code b) : ∀ (d : Nat) (n : Int) (K : List ByteArray) (W : List Sw) (p : Int), n = d → n ≤ 1000 → Few K W → 0 ≤ p → p ≤ 10000000000 - 5 * d →
    T (fun k => spec_l72Sec.l0 k n b p K W) (fun r => Few r.1 r.2.1 ∧ p ≤ r.2.2 ∧ r.2.2 ≤ p + 5 * d) := by
  intro d
  induction d with
  | zero =>
    intro n K W p hn _ hf h0 h1
    refine T.succ ?_
    simp only [spec_l72Sec.l0]
    exact T.neg (by omega) (T.ret ⟨hf, by simp, by simp⟩)
  | succ d ih =>
    intro n K W p hn hn1 hf h0 h1
    refine T.succ ?_
    simp only [spec_l72Sec.l0]
    refine T.pos (by omega) ?_
    refine T.bind (pick_T hc h0 (by omega) 7 (by omega) (by omega)) (fun q1 ⟨a1, b1, c1⟩ => ?_)
    refine T.bind (text_T hc (by omega) (by omega) 16 (by omega) (by omega)) (fun q2 hq2 => ?_)
    refine T.bind_eq (spec_sput K W (by have := hf.1; omega) (by have := hf.2; omega) q1.1 q2.1) ?_
    refine T.bind (pick_T hc (by omega) (by omega) 4 (by omega) (by omega)) (fun q3 ⟨a3, b3, c3⟩ => ?_)
    rw [wrap64_id (x := n - 1) (by omega) (by omega)]
    have hp := few_put hf q1.1 q2.1
    refine T.ite (fun h => ?_) (fun h => ?_)
    · refine T.bind_eq (spec_flush _ _) ?_
      exact (ih (n - 1) _ _ q3.2 (by omega) (by omega) (few_flush hp) (by omega) (by omega)).mono (fun r hr => ⟨hr.1, by omega, by omega⟩)
    · exact (ih (n - 1) _ _ q3.2 (by omega) (by omega) hp (by omega) (by omega)).mono (fun r hr => ⟨hr.1, by omega, by omega⟩)
theorem new_few (a : Int) : ∃ K W, spec_SecNew.f a = some (K, W) ∧ Few K W := by
  simp only [spec_SecNew.f, l6In_f, Option.bind_some, decide_eq_true_eq]
  by_cases h : 0 ≤ a ∧ a ≤ 512
  · rw [if_pos h, if_pos (by omega), if_pos (by omega)]
    exact ⟨_, _, rfl, by rw [List.length_replicate]; omega, by simp⟩
  · rw [if_neg h]
    exact ⟨_, _, rfl, by simp, by simp⟩
theorem new_few0 (a : Int) : ∃ K W, spec_SecNew.f a = some (K, W) ∧ Few K W ∧ W = [] := by
  simp only [spec_SecNew.f, l6In_f, Option.bind_some, decide_eq_true_eq]
  by_cases h : 0 ≤ a ∧ a ≤ 512
  · rw [if_pos h, if_pos (by omega), if_pos (by omega)]
    exact ⟨_, _, rfl, ⟨by rw [List.length_replicate]; omega, by simp⟩, rfl⟩
  · rw [if_neg h]
    exact ⟨_, _, rfl, ⟨by simp, by simp⟩, rfl⟩
theorem drawSec_T {b : List Int} (hc : Code b) {p : Int} (h0 : 0 ≤ p) (h1 : p ≤ 1000000000) : T (fun k => spec_l72Sec.f k b p) (fun r => Few r.1 r.2.1 ∧ 0 ≤ r.2.2 ∧ r.2.2 ≤ p + 100) := by
  simp only [spec_l72Sec.f]
  refine T.bind (pick_T hc h0 (by omega) 7 (by omega) (by omega)) (fun q1 ⟨a1, b1, c1⟩ => ?_)
  obtain ⟨K, W, hKW, hf⟩ := new_few q1.1
  simp only [hKW, Option.bind_some]
  refine T.bind (pick_T hc (by omega) (by omega) 8 (by omega) (by omega)) (fun q2 ⟨a2, b2, c2⟩ => ?_)
  have := b2 (by omega)
  exact (drawSec_loop hc q2.1.toNat q2.1 K W q2.2 (by omega) (by omega) hf (by omega) (by omega)).mono (fun r hr => ⟨hr.1, by omega, by omega⟩)
end Go.Proofs.YthjocaegapchaaaX
