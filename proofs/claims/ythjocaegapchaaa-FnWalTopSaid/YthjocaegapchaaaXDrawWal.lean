/-
  The drawn disks with transactions: they always come, and few writes wait.
  Conditions: bytes.
-/
import Derived.Test.YthjocaegapchaaaXWalInv
import Derived.Test.YthjocaegapchaaaXDrawText
import Derived.Test.YthjocaegapchaaaPx11
namespace Go.Proofs.YthjocaegapchaaaX
open Go.RowKit Go.Proofs.Ythjocaegapchaaa.P Go.Proofs.YthjocaegapchaaaW.PrintWords Go.Proofs.YthjocaegapchaaaW.PrintLast Go.Proofs.YthjocaegapchaaaW.PrintMore
set_option linter.unusedVariables false
set_option linter.unusedSimpArgs false

theorem homes_loop {b : List Int} (hc : Code b) (now : Bs) : ∀ (d : Nat) (n : Int) (H : Bs) (p : Int) (c : Nat), n = d → n ≤ 10 → H.length ≤ 1000 → cntL H now 0 ≤ c → 0 ≤ p → p ≤ 1000000000 - 10 * d →
    T (fun k => spec_l72Homes.l0 k H n b p) (fun r => r.1.length = H.length ∧ cntL r.1 now 0 ≤ c + d ∧ p ≤ r.2 ∧ r.2 ≤ p + 6 * d) := by
  intro d
  induction d with
  | zero =>
    intro n H p c hn hn1 hl hcn h0 h1
    refine T.succ ?_
    simp only [spec_l72Homes.l0]
    refine T.neg (by omega) ?_
    refine T.succ ?_
    simp only [spec_l72Homes.j1]
    exact T.neg (by simp) (T.ret ⟨rfl, hcn, by simp, by simp⟩)
  | succ d ih =>
    intro n H p c hn hn1 hl hcn h0 h1
    refine T.succ ?_
    simp only [spec_l72Homes.l0]
    refine T.pos (by omega) ?_
    by_cases hz : (H.length : Int) > 0
    · rw [decide_eq_true hz]
      refine T.succ ?_
      simp only [spec_l72Homes.j1]
      refine T.pos (by simp) ?_
      refine T.bind (pick_T hc h0 (by omega) 5 (by omega) (by omega)) (fun q1 ⟨a1, b1, c1⟩ => ?_)
      rw [wrap64_id (x := (H.length : Int) / 5) (by omega) (by omega), wrap64_id (x := (H.length : Int) / 5 + 1) (by omega) (by omega)]
      refine T.bind (pick_T hc (by omega) (by omega) ((H.length : Int) / 5 + 1) (by omega) (by omega)) (fun q2 ⟨a2, b2, c2⟩ => ?_)
      refine T.neg (by omega) ?_
      refine T.bind (text_T hc (by omega) (by omega) 15 (by omega) (by omega)) (fun q3 h3 => ?_)
      have g1 := b1 (by omega)
      have g2 := b2 (by omega)
      have m0 : 0 ≤ q1.1 * q2.1 := Int.mul_nonneg a1 a2
      have m1 : q1.1 * q2.1 ≤ 4 * q2.1 := Int.mul_le_mul_of_nonneg_right (by omega) a2
      rw [wrap64_id (x := q1.1 * q2.1) (by omega) (by omega)]
      have t := tmod_range (a := q1.1 * q2.1) (n := (H.length : Int)) m0 (by omega)
      refine T.pos t.1 (T.pos t.2 ?_)
      rw [wrap64_id (x := n - 1) (by omega) (by omega)]
      have hs := cntL_set now q3.1 H 0 ((q1.1 * q2.1).tmod (H.length : Int)).toNat
      refine (ih (n - 1) (H.set ((q1.1 * q2.1).tmod (H.length : Int)).toNat q3.1) q3.2 (c + 1) (by omega) (by omega) (by rw [List.length_set]; exact hl) (by omega) (by omega) (by omega)).mono (fun r hr => ?_)
      rw [List.length_set] at hr
      exact ⟨hr.1, by omega, by omega, by omega⟩
    · rw [decide_eq_false hz]
      refine T.succ ?_
      simp only [spec_l72Homes.j1]
      exact T.neg (by simp) (T.ret ⟨rfl, by show cntL H now 0 ≤ _; omega, by show p ≤ p; omega, by show p ≤ _; omega⟩)
theorem homes_T {b : List Int} (hc : Code b) (now : Bs) (hl : now.length ≤ 1000) {p : Int} (h0 : 0 ≤ p) (h1 : p ≤ 100000000) :
    T (fun k => spec_l72Homes.f k b p now) (fun r => r.1.length = now.length ∧ cntL r.1 now 0 ≤ 5 ∧ p ≤ r.2 ∧ r.2 ≤ p + 40) := by
  simp only [spec_l72Homes.f, Option.bind_some, List.length_nil, List.nil_append]
  refine T.pos (by omega) ?_
  refine T.bind (pick_T hc h0 (by omega) 6 (by omega) (by omega)) (fun q ⟨a, b, c⟩ => ?_)
  have := b (by omega)
  have z := cntL_same now _ 0 rfl
  rw [List.drop_zero] at z
  exact (homes_loop hc now q.1.toNat q.1 now q.2 0 (by omega) (by omega) hl (by omega) (by omega) (by omega)).mono (fun r hr => ⟨hr.1, by omega, by omega, by omega⟩)
end Go.Proofs.YthjocaegapchaaaX
