/-
  The drawn disks with transactions, some spoilt: they always come, and few writes wait.
  Conditions: bytes.
-/
import Derived.Test.YthjocaegapchaaaXDrawWal2
import Derived.Test.YthjocaegapchaaaXDrawSec0
import Derived.Test.YthjocaegapchaaaPx12
namespace Go.Proofs.YthjocaegapchaaaX
open Go.RowKit Go.Proofs.Ythjocaegapchaaa.P Go.Proofs.YthjocaegapchaaaW.PrintWords Go.Proofs.YthjocaegapchaaaW.PrintLast Go.Proofs.YthjocaegapchaaaW.PrintMore
set_option linter.unusedVariables false
set_option linter.unusedSimpArgs false

theorem sput_le (K : Bs) (W : List Sw) (a : Int) (s : ByteArray) : (sputB K W a s).2.1.length ≤ W.length + 1 := by
  unfold sputB
  split
  · split
    · simp
    · simp
  · simp
theorem flush_le (K : Bs) (W : List Sw) : (flushB K W).2.length ≤ 0 := by
  unfold flushB
  split <;> simp
theorem secW_loop {b : List Int} (hc : Code b) : ∀ (d : Nat) (n : Int) (K : Bs) (W : List Sw) (p : Int), n = d → n ≤ 1000 → Few K W → 0 ≤ p → p ≤ 10000000000 - 5 * d →
    T (fun k => spec_l72Sec.l0 k n b p K W) (fun r => r.2.1.length ≤ W.length + d) := by
  intro d
  induction d with
  | zero =>
    intro n K W p hn _ hf h0 h1
    refine T.succ ?_
    simp only [spec_l72Sec.l0]
    exact T.neg (by omega) (T.ret (by simp))
  | succ d ih =>
    intro n K W p hn hn1 hf h0 h1
    refine T.succ ?_
    simp only [spec_l72Sec.l0]
    refine T.pos (by omega) ?_
    refine T.bind (pick_T hc h0 (by omega) 7 (by omega) (by omega)) (fun q1 ⟨a1, b1, c1⟩ => ?_)
    refine T.bind (text_T hc (by omega) (by omega) 16 (by omega) (by omega)) (fun q2 hq2 => ?_)
    refine T.bind_eq (spec_sput K W (by have := hf.1; omega) (by have := hf.2; omega) q1.1 q2.1) ?_
    refine T.bind (pick_T hc (by omega) (by omega) 4 (by omega) (by omega)) (fun q3 ⟨a3, b3, c3⟩ => ?_)
    rw [wrap64_id (x := n - 1) (by omega) (by omega)]
    have hp := few_put hf q1.1 q2.1
    have hw := sput_le K W q1.1 q2.1
    refine T.ite (fun h => ?_) (fun h => ?_)
    · refine T.bind_eq (spec_flush _ _) ?_
      have hz := flush_le (sputB K W q1.1 q2.1).1 (sputB K W q1.1 q2.1).2.1
      exact (ih (n - 1) _ _ q3.2 (by omega) (by omega) (few_flush hp) (by omega) (by omega)).mono (fun r hr => by omega)
    · exact (ih (n - 1) _ _ q3.2 (by omega) (by omega) hp (by omega) (by omega)).mono (fun r hr => by omega)
theorem of_T {b : List Int} (hc : Code b) {p : Int} (h0 : 0 ≤ p) (h1 : p ≤ 1000000000) (l : List ByteArray) (hl : 1 ≤ l.length) (hl2 : l.length ≤ 100) : T (fun k => spec_l6Rd_of.f k b p l) (fun r => r.2 = p + 1) := by
  simp only [spec_l6Rd_of.f]
  refine T.bind (pick_T hc h0 (by omega) (l.length : Int) (by omega) (by omega)) (fun q ⟨a, b, c⟩ => ?_)
  have := b (by omega)
  exact T.pos a (T.pos (by omega) (T.ret c))
def WDrawn (r : Bs × List Sw × Int) : Prop := r.1.length ≤ 1000 ∧ r.2.1.length ≤ 300
theorem wal_T {b : List Int} (hc : Code b) {p : Int} (h0 : 0 ≤ p) (h1 : p ≤ 1000) : T (fun k => spec_l72Wal.f k b p) (fun r => Inv 501 200 (r.1, r.2.1) ∧ 0 ≤ r.2.2 ∧ r.2.2 ≤ p + 2000) := by
  simp only [spec_l72Wal.f]
  have e : spec_WalNew.f = some (List.replicate 501 (⟨#[]⟩ : ByteArray), ([] : List Sw)) := by
    simp only [spec_WalNew.f, spec_SecNew.f, l6In_f, Option.bind_some]
    rw [if_pos (by decide), if_pos (by decide), if_pos (by decide)]
    rfl
  rw [e]
  simp only [Option.bind_some]
  refine T.bind (pick_T hc h0 (by omega) 3 (by omega) (by omega)) (fun q ⟨a, b, c⟩ => ?_)
  have := b (by omega)
  rw [wrap64_id (x := 1 + q.1) (by omega) (by omega)]
  have i0 : Inv 501 0 (List.replicate 501 (⟨#[]⟩ : ByteArray), ([] : List Sw)) := by
    refine ⟨(sok_iff _ _).2 ⟨⟨by simp only [List.length_replicate]; omega, by simp⟩, fun s hs => ?_, fun x hx => by cases hx⟩, by simp only [List.length_replicate], by simp⟩
    rw [List.eq_of_mem_replicate hs]
    show ((ByteArray.size ⟨#[]⟩ : Nat) : Int) ≤ 16
    decide
  exact (wal_loop hc (1 + q.1).toNat (1 + q.1) _ _ 0 q.2 (by omega) (by omega) i0 (by omega) (by omega)).mono (fun r hr => ⟨inv_le hr.1 (by omega), by omega, by omega⟩)
theorem walAny_T2 {b : List Int} (hc : Code b) {p : Int} (h0 : 0 ≤ p) (h1 : p ≤ 1000) : T (fun k => spec_l72WalAny.f k b p) (fun r => WDrawn r ∧ 0 ≤ r.2.2 ∧ r.2.2 ≤ 10000) := by
  simp only [spec_l72WalAny.f]
  refine T.bind (wal_T hc h0 h1) (fun d ⟨hi, d0, d1⟩ => ?_)
  have k1 : d.1.length = 501 := hi.2.1
  have k2 : d.2.1.length ≤ 200 := hi.2.2
  refine T.bind (pick_T hc d0 (by omega) 12 (by omega) (by omega)) (fun q ⟨a, b, c⟩ => ?_)
  refine T.ite (fun _ => ?_) (fun _ => ?_)
  · refine T.bind (of_T hc (by omega) (by omega) _ (by simp) (by simp)) (fun q2 hq2 => ?_)
    exact T.pos (by omega) (T.ret ⟨⟨by simp only [List.length_set]; omega, by show d.2.1.length ≤ _; omega⟩, by show 0 ≤ q2.2; omega, by show q2.2 ≤ _; omega⟩)
  refine T.ite (fun _ => ?_) (fun _ => ?_)
  · refine T.bind (of_T hc (by omega) (by omega) _ (by simp) (by simp)) (fun q2 hq2 => ?_)
    exact T.pos (by omega) (T.ret ⟨⟨by simp only [List.length_set]; omega, by show d.2.1.length ≤ _; omega⟩, by show 0 ≤ q2.2; omega, by show q2.2 ≤ _; omega⟩)
  refine T.ite (fun _ => ?_) (fun _ => T.ret ⟨⟨by show d.1.length ≤ _; omega, by show d.2.1.length ≤ _; omega⟩, by show 0 ≤ q.2; omega, by show q.2 ≤ _; omega⟩)
  refine T.bind (P := fun r => (Few r.1 r.2.1 ∧ 0 ≤ r.2.2 ∧ r.2.2 ≤ 10000) ∧ r.2.1.length ≤ 20) ?_ (fun r hr => T.ret ⟨⟨by show r.1.length ≤ _; have := hr.1.1.1; omega, by show r.2.1.length ≤ _; have := hr.2; omega⟩, hr.1.2.1, hr.1.2.2⟩)
  simp only [spec_l72Sec.f]
  refine T.bind (pick_T hc (by omega) (by omega) 7 (by omega) (by omega)) (fun q1 ⟨a1, b1, c1⟩ => ?_)
  obtain ⟨K, W, hKW, hf, hW⟩ := new_few0 q1.1
  simp only [hKW, Option.bind_some]
  refine T.bind (pick_T hc (by omega) (by omega) 8 (by omega) (by omega)) (fun q2 ⟨a2, b2, c2⟩ => ?_)
  have := b2 (by omega)
  have t1 := drawSec_loop hc q2.1.toNat q2.1 K W q2.2 (by omega) (by omega) hf (by omega) (by omega)
  have t2 := secW_loop hc q2.1.toNat q2.1 K W q2.2 (by omega) (by omega) hf (by omega) (by omega)
  exact (t1.and t2).mono (fun r hr => ⟨⟨hr.1.1, by have := hr.1.2; omega, by have := hr.1.2; omega⟩, by have := hr.2; rw [hW] at this; simp at this; omega⟩)
theorem walAny_T {b : List Int} (hc : Code b) {p : Int} (h0 : 0 ≤ p) (h1 : p ≤ 1000) : T (fun k => spec_l72WalAny.f k b p) WDrawn := (walAny_T2 hc h0 h1).mono (fun _ hr => hr.1)
end Go.Proofs.YthjocaegapchaaaX
