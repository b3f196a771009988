/-
  The drawn texts: they always come.
  Conditions: bytes; lengths at most a hundred.
-/
import Derived.Test.YthjocaegapchaaaXPick
import Derived.Test.YthjocaegapchaaaPx11
namespace Go.Proofs.YthjocaegapchaaaX
open Go.RowKit Go.Proofs.Ythjocaegapchaaa.P Go.Proofs.YthjocaegapchaaaW.PrintWords Go.Proofs.YthjocaegapchaaaW.PrintLast Go.Proofs.YthjocaegapchaaaW.PrintMore
set_option linter.unusedVariables false
set_option linter.unusedSimpArgs false

theorem many6_loop : ∀ (d b : Nat) (x y : ByteArray) (n : Int), 0 ≤ n → n < (2 : Int) ^ d → n ≤ 1000000 → x.size ≤ b → y.size ≤ b → b * 2 ^ d ≤ 1099511627776 →
    T (fun k => spec_l6Many.l0 k x n y) (fun _ => True) := by
  intro d
  induction d with
  | zero =>
    intro b x y n h0 h1 _ hx hy hb
    refine T.succ ?_
    simp only [spec_l6Many.l0]
    refine T.neg (by simp at h1; omega) (T.ret trivial)
  | succ d ih =>
    intro b x y n h0 h1 h2 hx hy hb
    have hb2 : 2 * b * 2 ^ d ≤ 1099511627776 := by
      rw [Nat.pow_succ] at hb
      rwa [Nat.mul_comm 2 b, Nat.mul_assoc, Nat.mul_comm 2 (2 ^ d)]
    have hbb : 2 * b ≤ 1099511627776 := Nat.le_trans (Nat.le_mul_of_pos_right (2 * b) (Nat.two_pow_pos d)) hb2
    refine T.succ ?_
    simp only [spec_l6Many.l0]
    refine T.ite (fun h => ?_) (fun h => T.ret trivial)
    have e : Int.tdiv n 2 = n / 2 := Int.tdiv_eq_ediv_of_nonneg h0
    have hq : n / 2 < (2 : Int) ^ d := by
      rw [Int.pow_succ] at h1
      omega
    rw [e, wrap64_id (by omega) (by omega)]
    refine T.ite (fun h3 => ?_) (fun h3 => ?_)
    · refine T.pos (by omega) (T.pos (by omega) ?_)
      exact ih (2 * b) _ _ _ (by omega) hq (by omega) (by rw [ByteArray.size_append]; omega) (by rw [ByteArray.size_append]; omega) hb2
    · refine T.pos (by omega) ?_
      exact ih (2 * b) _ _ _ (by omega) hq (by omega) (by rw [ByteArray.size_append]; omega) (by omega) hb2
theorem many6_T (x : ByteArray) (n : Int) (hx : x.size ≤ 1048576) (h0 : 0 ≤ n) (h1 : n ≤ 1000) : T (fun k => spec_l6Many.f k x n) (fun _ => True) := by
  simp only [spec_l6Many.f]
  exact many6_loop 10 1048576 x _ n h0 (by omega) (by omega) hx (by simp [ByteArray.size]) (by decide)
theorem text_T {b : List Int} (hc : Code b) {p : Int} (h0 : 0 ≤ p) (h1 : p ≤ 100000000000) (m : Int) (hm0 : 0 ≤ m) (hm1 : m ≤ 100) : T (fun k => spec_l72Text.f k b p m) (fun r => r.2 = p + 3) := by
  have e : Int.tdiv m 3 = m / 3 := Int.tdiv_eq_ediv_of_nonneg hm0
  simp only [spec_l72Text.f, spec_l6Rd_of.f, e, wrap64_id (x := m / 3) (by omega) (by omega), wrap64_id (x := m / 3 + 1) (by omega) (by omega), List.length_cons, List.length_nil]
  refine T.bind (P := fun r : ByteArray × Int => r.1.size ≤ 1048576 ∧ r.2 = p + 1) ?_ (fun q hq => ?_)
  · refine T.bind (pick_T hc h0 (by omega) 4 (by omega) (by omega)) (fun q1 ⟨a1, b1, c1⟩ => ?_)
    have := b1 (by omega)
    refine T.pos a1 (T.pos (by omega) (T.ret ⟨?_, c1⟩))
    obtain h | h | h | h : q1.1 = 0 ∨ q1.1 = 1 ∨ q1.1 = 2 ∨ q1.1 = 3 := by omega
    all_goals (simp only [h]; decide)
  obtain ⟨hs, hq⟩ := hq
  refine T.bind (pick_T hc (by omega) (by omega) 4 (by omega) (by omega)) (fun q2 ⟨a2, b2, c2⟩ => ?_)
  refine T.bind (pick_T hc (by omega) (by omega) (m / 3 + 1) (by omega) (by omega)) (fun q3 ⟨a3, b3, c3⟩ => ?_)
  have g2 := b2 (by omega)
  have g3 := b3 (by omega)
  have m0 : 0 ≤ q2.1 * q3.1 := Int.mul_nonneg a2 a3
  have m1 : q2.1 * q3.1 ≤ 3 * q3.1 := Int.mul_le_mul_of_nonneg_right (by omega) a3
  rw [wrap64_id (x := q2.1 * q3.1) (by omega) (by omega)]
  refine T.bind (many6_T q.1 _ hs m0 (by omega)) (fun s _ => T.ret ?_)
  show q3.2 = p + 3
  omega
end Go.Proofs.YthjocaegapchaaaX
