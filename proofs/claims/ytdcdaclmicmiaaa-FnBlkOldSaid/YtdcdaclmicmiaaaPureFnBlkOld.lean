/-
  A write in an epoch never changes what earlier epochs say. (P10)
  Conditions: those of the pure statement, none beside.
-/
import Derived.Test.YtdcdaclmicmiaaaPx32
import Derived.Test.YtdcdaclmicmiaaaXBlk3
import Derived.Test.YtdcdaclmicmiaaaXDrawBlk
namespace Go.Proofs.Ytdcdaclmicmiaaa.Pure
open Go.RowKit Go.Proofs.Ytdcdaclmicmiaaa.P Go.Proofs.YtdcdaclmicmiaaaX Go.Proofs.YtdcdaclmicmiaaaW.PrintWords Go.Proofs.YtdcdaclmicmiaaaW.PrintLast Go.Proofs.YtdcdaclmicmiaaaW.PrintMore
set_option linter.unusedVariables false
set_option linter.unusedSimpArgs false

theorem old_loop (L : List Pc) (hL : L.length ≤ 1000) (p : Pc) : ∀ (n : Nat) (i : Int), (9 - i).toNat = n → 0 ≤ i →
    T (fun k => laws_FnBlkOld.l0 k L p.f0 p.f1 p.f2 (putB L p).1 (putB L p).2 i) (· = true) := by
  have hle := putB_le L p
  have stop : ∀ i, T (fun k => laws_FnBlkOld.j1 k L p.f0 p.f1 p.f2 (putB L p).1 (putB L p).2 i false) (· = true) := fun i => by
    refine T.succ ?_
    simp only [laws_FnBlkOld.j1]
    exact T.neg (by simp) (T.ret rfl)
  intro n
  induction n with
  | zero =>
    intro i hn h0
    refine T.succ ?_
    simp only [laws_FnBlkOld.l0]
    exact T.ite (fun _ => T.neg (by omega) (stop _)) (fun _ => stop _)
  | succ n ih =>
    intro i hn h0
    refine T.succ ?_
    simp only [laws_FnBlkOld.l0]
    refine T.ite (fun hlt => T.ite (fun h9 => ?_) (fun _ => stop _)) (fun _ => stop _)
    refine T.succ ?_
    simp only [laws_FnBlkOld.j1]
    refine T.ite (fun ok => ?_) (fun _ => T.ret rfl)
    refine T.bind_eq (impl_get _ (by omega) p.f0 p.f1 i) ?_
    refine T.bind_eq (spec_get L (by omega) p.f0 p.f1 i) ?_
    refine T.pos (put_others ok p.f0 p.f1 i (by unfold hit; omega)) ?_
    rw [wrap64_id (x := i + 1) (by omega) (by omega)]
    exact ih (i + 1) (by omega) (by omega)
theorem FnBlkOld : laws_FnBlkOld.Pure := by
  intro l hl _ hw
  refine T.rounds (g := fun k => laws_FnBlkOld.f k l) ?_
  simp only [laws_FnBlkOld.f]
  refine T.ite (fun _ => T.ret rfl) (fun _ => ?_)
  refine T.bind (drawPut_T l hw hl) (fun dr hdr => ?_)
  obtain ⟨L, d, b, e, v⟩ := dr
  have hL : L.length ≤ 1000 := hdr
  simp only
  refine T.bind_eq (spec_put L (by omega) ⟨d, b, e, v⟩) ?_
  refine T.bind_eq (impl_put L (by omega) ⟨d, b, e, v⟩) ?_
  refine T.neg (by simp) ?_
  exact old_loop L hL ⟨d, b, e, v⟩ _ 0 rfl (by omega)
end Go.Proofs.Ytdcdaclmicmiaaa.Pure
