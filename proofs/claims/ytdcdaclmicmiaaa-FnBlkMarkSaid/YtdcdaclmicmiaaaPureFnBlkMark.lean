/-
  The last call of a client never falls. (P12)
  Conditions: those of the pure statement, none beside.
-/
import Derived.Test.YtdcdaclmicmiaaaPx25
import Derived.Test.YtdcdaclmicmiaaaXDrawMark
import Derived.Test.YtdcdaclmicmiaaaXLpLast
namespace Go.Proofs.Ytdcdaclmicmiaaa.Pure
open Go.RowKit Go.Proofs.Ytdcdaclmicmiaaa.P Go.Proofs.YtdcdaclmicmiaaaX Go.Proofs.YtdcdaclmicmiaaaW.PrintWords Go.Proofs.YtdcdaclmicmiaaaW.PrintLast Go.Proofs.YtdcdaclmicmiaaaW.PrintMore
set_option linter.unusedVariables false
set_option linter.unusedSimpArgs false

theorem callB_nil (c : Int) : callB [] c = 0 := by unfold callB; split <;> rfl
theorem call_mark (L : List La) (c v : Int) (hv : v ≤ 11) (x : Int) (hx0 : 0 ≤ x) (hx : x < 4) :
    callB L x ≤ callB (markB L c v) x ∧ (x ≠ c → callB (markB L c v) x = callB L x) ∧ (x = c → 0 < (markB L c v).length → 0 < v → v ≤ callB (markB L c v) x) := by
  unfold markB
  by_cases h : lok L = true
  · rw [if_pos h]
    by_cases h1 : (0 ≤ c ∧ c ≤ 3) ∧ (1 ≤ v ∧ v ≤ 99999) ∧ callB L c < v
    · rw [if_pos h1]
      obtain ⟨i1, i2, _⟩ := insM_asc ⟨c, v⟩ ⟨h1.1, h1.2.1⟩ L ((lok_iff L).1 h).asc
      have e : ∀ y, callB (insM ⟨c, v⟩ false L) y = if y = c then v else callB L y := fun y => by
        unfold callB
        rw [if_pos ((lok_iff _).2 (LOk.of_asc i1)), if_pos h]
        exact i2 y
      rw [e x]
      by_cases hxc : x = c
      · subst hxc
        rw [if_pos rfl]
        exact ⟨by omega, fun hn => absurd rfl hn, fun _ _ _ => Int.le_refl _⟩
      · rw [if_neg hxc]
        exact ⟨Int.le_refl _, fun _ => rfl, fun hn => absurd hn hxc⟩
    · rw [if_neg h1]
      exact ⟨Int.le_refl _, fun _ => rfl, fun e _ hv0 => by subst e; omega⟩
  · rw [if_neg h]
    have e : callB L x = 0 := by unfold callB; rw [if_neg h]
    rw [callB_nil, e]
    exact ⟨Int.le_refl _, fun _ => rfl, fun _ h0 => by simp at h0⟩
theorem mark_loop (L : List La) (hL : L.length ≤ 10) (c v : Int) (hv : v ≤ 11) : ∀ (n : Nat) (i : Int), (4 - i).toNat = n → 0 ≤ i →
    T (fun k => laws_FnBlkMark.l0 k L c v (markB L c v) i) (· = true) := by
  have hle := markB_le L c v
  intro n
  induction n with
  | zero =>
    intro i hn h0
    refine T.succ ?_
    simp only [laws_FnBlkMark.l0]
    exact T.neg (by omega) (T.ret rfl)
  | succ n ih =>
    intro i hn h0
    refine T.succ ?_
    simp only [laws_FnBlkMark.l0]
    refine T.pos (by omega) ?_
    obtain ⟨h1, h2, h3⟩ := call_mark L c v hv i h0 (by omega)
    refine T.bind_eq (impl_call L (by omega) i) ?_
    refine T.bind_eq (impl_call _ (by omega) i) ?_
    rw [wrap64_id (x := i + 1) (by omega) (by omega)]
    have next := ih (i + 1) (by omega) (by omega)
    refine T.neg (by omega) ?_
    refine T.ite (fun e => ?_) (fun e => T.pos (h2 e) next)
    refine T.ite (fun hlen => T.ite (fun hv0 => T.neg (by have := h3 e (by omega) (by omega); omega) next) (fun _ => next)) (fun _ => next)
theorem FnBlkMark : laws_FnBlkMark.Pure := by
  intro l hl _ hw
  refine T.rounds (g := fun k => laws_FnBlkMark.f k l) ?_
  simp only [laws_FnBlkMark.f]
  refine T.ite (fun _ => T.ret rfl) (fun _ => ?_)
  refine T.bind (drawMark_T l hw hl) (fun dr hdr => ?_)
  obtain ⟨L, c, v⟩ := dr
  obtain ⟨hL, hv⟩ := hdr
  simp only at hL hv ⊢
  have hle := markB_le L c v
  refine T.bind_eq (spec_mark L (by omega) c v) ?_
  refine T.bind_eq (impl_mark L (by omega) c v) ?_
  refine T.bind (lpL_T _ _ (by omega)) (fun r hr => ?_)
  obtain rfl : r = true := hr.2 rfl
  exact T.pos rfl (mark_loop L hL c v hv _ 0 rfl (by omega))
end Go.Proofs.Ytdcdaclmicmiaaa.Pure
