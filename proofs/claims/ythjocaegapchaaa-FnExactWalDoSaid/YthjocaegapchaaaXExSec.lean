/-
  Marked disks of sectors are held.
  Conditions: sizes far below Go's bounds.
-/
import Derived.Test.YthjocaegapchaaaXExHeldTx
import Derived.Test.YthjocaegapchaaaPx27
namespace Go.Proofs.YthjocaegapchaaaX
open Go.RowKit Go.Proofs.Ythjocaegapchaaa.P Go.Proofs.YthjocaegapchaaaW.PrintWords Go.Proofs.YthjocaegapchaaaW.PrintLast Go.Proofs.YthjocaegapchaaaW.PrintMore
set_option linter.unusedVariables false
set_option linter.unusedSimpArgs false

theorem heldSw_loop (a : Int) (ha : 0 ≤ a) (y : List S75) (hb : a + 2 * (y.length : Int) ≤ 4611686018427387904) (hm : MkSw a y) : ∀ (d i : Nat), y.length - i = d → i ≤ y.length →
    T (fun k => laws_heldSecWriteS.l0 k y (a + 2 * (i : Int)) (i : Int)) (· = a + 2 * (y.length : Int)) := by
  intro d
  induction d with
  | zero =>
    intro i hd hi
    refine T.succ ?_
    simp only [laws_heldSecWriteS.l0]
    refine T.neg (by omega) (T.ret ?_)
    omega
  | succ d ih =>
    intro i hd hi
    have hlt : i < y.length := by omega
    have hm := hm i hlt
    have w1 : wrap64 (a + 2 * (i : Int) + 1) = a + 2 * (i : Int) + 1 := wrap64_id (by omega) (by omega)
    have w2 : wrap64 (a + 2 * (i : Int) + 1 + 1) = a + 2 * (i : Int) + 2 := by rw [wrap64_id (by omega) (by omega)]; omega
    refine T.succ ?_
    simp only [laws_heldSecWriteS.l0]
    refine T.pos (by omega) (T.pos (by omega) ?_)
    simp only [rd_ISw y i hlt, w1, w2, bytes_eq, wrap_succ hlt (show y.length ≤ 4611686018427387904 by omega)]
    refine T.pos hm.1 ?_
    refine T.bind_eq (mt_T (a + 2 * (i : Int) + 1) (by omega)) ?_
    refine T.pos hm.2 ?_
    have := ih (i + 1) (by omega) (by omega)
    rwa [show a + 2 * ((i + 1 : Nat) : Int) = a + 2 * (i : Int) + 2 by omega] at this
theorem heldSw_T (y : List S75) (a : Int) (ha : 0 ≤ a) (hb : a + 2 * (y.length : Int) ≤ 4611686018427387904) (hm : MkSw a y) : T (fun k => laws_heldSecWriteS.f k y a) (· = a + 2 * (y.length : Int)) := by
  have := heldSw_loop a ha y hb hm _ 0 rfl (Nat.zero_le _)
  simpa [laws_heldSecWriteS.f] using this
/-- Marked, a disk holds its marks. -/
theorem markSecDisk_T (K : List ByteArray) (W : List S75) (hK : K.length ≤ 1152921504606846976) (hW : W.length ≤ 1152921504606846976) :
    T (fun k => laws_markSecDisk.f k K W 1) (fun r => (0 ≤ r.1 ∧ r.1 ≤ 3 * 1152921504606846976 + 1) ∧ T (fun k => laws_heldSecDisk.f k r.2.1 r.2.2 1) (· = r.1)) := by
  refine (markSecDiskA_T K W hK hW).mono (fun r hr => ⟨hr.1, ?_⟩)
  obtain ⟨_, h0, ⟨h2, h3⟩, g2, g3⟩ := hr
  simp only [laws_heldSecDisk.f]
  refine T.bind_eq (heldTx_T r.2.1 1 (by omega) (by omega) h3) ?_
  rw [h2]
  refine T.neg (by omega) ?_
  refine T.bind_eq (heldSw_T r.2.2 (1 + (K.length : Int)) (by omega) (by omega) g3) ?_
  rw [g2, h0]
  exact T.neg (by omega) (T.ret rfl)
end Go.Proofs.YthjocaegapchaaaX
