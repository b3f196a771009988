/-
  The drawn disks with transactions, in the midst of one: they always come, and few writes wait.
  Conditions: bytes.
-/
import Derived.Test.YthjocaegapchaaaXDrawWal
import Derived.Test.YthjocaegapchaaaPx11
namespace Go.Proofs.YthjocaegapchaaaX
open Go.RowKit Go.Proofs.Ythjocaegapchaaa.P Go.Proofs.YthjocaegapchaaaW.PrintWords Go.Proofs.YthjocaegapchaaaW.PrintLast Go.Proofs.YthjocaegapchaaaW.PrintMore
set_option linter.unusedVariables false
set_option linter.unusedSimpArgs false

theorem bits_loop2 {b : List Int} (hc : Code b) : ∀ (d : Nat) (n : Int) (l : List Int) (p : Int), n = d → n ≤ 1000 → l.length + d ≤ 2000 → 0 ≤ p → p ≤ 100000000 - d →
    T (fun k => spec_l72Bits.l0 k l n b p) (fun r => p ≤ r.2 ∧ r.2 ≤ p + d) := by
  intro d
  induction d with
  | zero =>
    intro n l p hn _ hl h0 h1
    refine T.succ ?_
    simp only [spec_l72Bits.l0]
    exact T.neg (by omega) (T.ret ⟨by simp, by simp⟩)
  | succ d ih =>
    intro n l p hn hn1 hl h0 h1
    refine T.succ ?_
    simp only [spec_l72Bits.l0, Option.bind_some]
    refine T.pos (by omega) ?_
    refine T.bind (pick_T hc h0 (by omega) 5 (by omega) (by omega)) (fun q ⟨a, b, c⟩ => ?_)
    have := b (by omega)
    refine T.pos a (T.pos (by simp only [List.length_cons, List.length_nil]; omega) (T.pos (by omega) ?_))
    rw [wrap64_id (x := n - 1) (by omega) (by omega)]
    exact (ih (n - 1) _ q.2 (by omega) (by omega) (by simp; omega) (by omega) (by omega)).mono (fun r hr => ⟨by omega, by omega⟩)
theorem bits_T {b : List Int} (hc : Code b) {p : Int} (h0 : 0 ≤ p) (h1 : p ≤ 10000000) : T (fun k => spec_l72Bits.f k b p 8) (fun r => p ≤ r.2 ∧ r.2 ≤ p + 20) := by
  simp only [spec_l72Bits.f, show wrap64 ((8 : Int) + 1) = 9 from wrap64_id (by omega) (by omega)]
  refine T.bind (pick_T hc h0 (by omega) 9 (by omega) (by omega)) (fun q ⟨a, b, c⟩ => ?_)
  have := b (by omega)
  exact (bits_loop2 hc q.1.toNat q.1 [] q.2 (by omega) (by omega) (by simp; omega) (by omega) (by omega)).mono (fun r hr => ⟨by omega, by omega⟩)
theorem wreadB_le (K : Bs) (W : List Sw) : (wreadB K W).1.length ≤ 1000 := by
  unfold wreadB
  cases hL : logB K W with
  | none => simp
  | some L =>
    have := (logB_good hL).2.1
    simp only [wr_length, List.length_drop]; omega
def Mid (m : Nat) (p : Int) (r : Bs × List Sw × Int) : Prop := Inv 501 m (r.1, r.2.1) ∧ p ≤ r.2.2 ∧ r.2.2 ≤ p + 200
theorem wal_j2 {b : List Int} (hc : Code b) (K : Bs) (W : List Sw) (m : Nat) (h : Inv 501 m (K, W)) {p : Int} (h0 : 0 ≤ p) (h1 : p ≤ 1000000) : T (fun k => spec_l72Wal.j2 k b p K W) (Mid (m + 16) p) := by
  have hl : K.length = 501 := h.2.1
  refine T.succ ?_
  simp only [spec_l72Wal.j2]
  refine T.bind_eq (spec_wread K W (by omega)) ?_
  refine T.bind (homes_T hc _ (wreadB_le K W) h0 (by omega)) (fun H ⟨_, hH, g0, g1⟩ => ?_)
  refine T.bind_eq (spec_steps K W H.1 (by omega)) ?_
  have hS := stepsB_few K W H.1 5 hH
  generalize (stepsB K W H.1).1 = S at hS ⊢
  refine T.bind (pick_T hc (by omega) (by omega) 4 (by omega) (by omega)) (fun q ⟨a, b, c⟩ => ?_)
  have fin : ∀ (S' : List Stp) (cut : Bool) (after : Int) (keep : List Int), S'.length ≤ 16 → Inv 501 (m + 16) ((doB K W S' cut after keep).1, (doB K W S' cut after keep).2) := fun S' cut after keep hS' =>
    inv_le (inv_do h S' (by omega) cut after keep) (by omega)
  refine T.ite (fun _ => T.ret ⟨inv_le h (by omega), by show p ≤ q.2; omega, by show q.2 ≤ _; omega⟩) (fun _ => ?_)
  refine T.ite (fun _ => ?_) (fun _ => ?_)
  · rw [wrap64_id (x := (S.length : Int) + 1) (by omega) (by omega)]
    refine T.bind (pick_T hc (by omega) (by omega) ((S.length : Int) + 1) (by omega) (by omega)) (fun q2 ⟨a2, b2, c2⟩ => ?_)
    refine T.bind (bits_T hc (by omega) (by omega)) (fun q3 ⟨g3, g4⟩ => ?_)
    refine T.bind_eq (spec_do K W S true q2.1 q3.1) (T.ret ⟨fin S true q2.1 q3.1 (by omega), by show p ≤ q3.2; omega, by show q3.2 ≤ _; omega⟩)
  refine T.ite (fun _ => ?_) (fun _ => ?_)
  · rw [wrap64_id (x := (S.length : Int) + 1) (by omega) (by omega)]
    refine T.bind (pick_T hc (by omega) (by omega) ((S.length : Int) + 1) (by omega) (by omega)) (fun q2 ⟨a2, b2, c2⟩ => ?_)
    have := b2 (by omega)
    refine T.pos a2 (T.pos (by omega) ?_)
    refine T.bind_eq (spec_do K W (S.take q2.1.toNat) false 0 []) (T.ret ⟨fin _ false 0 [] (by rw [List.length_take]; omega), by show p ≤ q2.2; omega, by show q2.2 ≤ _; omega⟩)
  · refine T.succ ?_
    simp only [spec_l72Wal.j3]
    refine T.bind (pick_T hc (by omega) (by omega) 4 (by omega) (by omega)) (fun q2 ⟨a2, b2, c2⟩ => ?_)
    refine T.bind (bits_T hc (by omega) (by omega)) (fun q3 ⟨g3, g4⟩ => ?_)
    refine T.bind_eq (spec_do K W S true _ q3.1) (T.ret ⟨fin S true _ q3.1 (by omega), by show p ≤ q3.2; omega, by show q3.2 ≤ _; omega⟩)
theorem wal_loop {b : List Int} (hc : Code b) : ∀ (d : Nat) (n : Int) (K : Bs) (W : List Sw) (m : Nat) (p : Int), n = d → n ≤ 10 → Inv 501 m (K, W) → 0 ≤ p → p ≤ 500000 - 100 * d →
    T (fun k => spec_l72Wal.l0 k n b p K W) (fun r => Inv 501 (m + 16 * d + 16) (r.1, r.2.1) ∧ 0 ≤ r.2.2 ∧ r.2.2 ≤ p + 100 * d + 200) := by
  intro d
  induction d with
  | zero =>
    intro n K W m p hn hn1 h h0 h1
    refine T.succ ?_
    simp only [spec_l72Wal.l0]
    refine T.neg (by omega) ?_
    exact (wal_j2 hc K W m h h0 (by omega)).mono (fun r hr => ⟨inv_le hr.1 (by omega), by have := hr.2; omega, by have := hr.2; omega⟩)
  | succ d ih =>
    intro n K W m p hn hn1 h h0 h1
    have hl : K.length = 501 := h.2.1
    refine T.succ ?_
    simp only [spec_l72Wal.l0]
    refine T.pos (by omega) ?_
    refine T.succ ?_
    simp only [spec_l72Wal.j1]
    refine T.bind_eq (spec_wread K W (by omega)) ?_
    refine T.bind (homes_T hc _ (wreadB_le K W) h0 (by omega)) (fun H ⟨_, hH, g0, g1⟩ => ?_)
    refine T.bind_eq (spec_steps K W H.1 (by omega)) ?_
    have hS := stepsB_few K W H.1 5 hH
    generalize (stepsB K W H.1).1 = S at hS ⊢
    refine T.bind_eq (spec_do K W S false 0 []) ?_
    rw [wrap64_id (x := n - 1) (by omega) (by omega)]
    have hd := inv_le (inv_do h S (by omega) false 0 []) (show m + S.length ≤ m + 16 by omega)
    refine (ih (n - 1) (doB K W S false 0 []).1 (doB K W S false 0 []).2 (m + 16) H.2 (by omega) (by omega) hd (by omega) (by omega)).mono (fun r hr => ⟨inv_le hr.1 (by omega), by omega, by omega⟩)
end Go.Proofs.YthjocaegapchaaaX
