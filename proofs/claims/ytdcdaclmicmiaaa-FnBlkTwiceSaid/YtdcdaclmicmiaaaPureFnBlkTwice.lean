/-
  A write that is done twice is done once. (P14)
  Conditions: those of the pure statement, none beside.
-/
import Derived.Test.YtdcdaclmicmiaaaPx29
import Derived.Test.YtdcdaclmicmiaaaXBlk3
import Derived.Test.YtdcdaclmicmiaaaXDrawBlk
import Derived.Test.YtdcdaclmicmiaaaXLpPieces
namespace Go.Proofs.Ytdcdaclmicmiaaa.Pure
open Go.RowKit Go.Proofs.Ytdcdaclmicmiaaa.P Go.Proofs.YtdcdaclmicmiaaaX Go.Proofs.YtdcdaclmicmiaaaW.PrintWords Go.Proofs.YtdcdaclmicmiaaaW.PrintLast Go.Proofs.YtdcdaclmicmiaaaW.PrintMore
set_option linter.unusedVariables false
set_option linter.unusedSimpArgs false

theorem FnBlkTwice : laws_FnBlkTwice.Pure := by
  intro l hl _ hw
  refine T.rounds (g := fun k => laws_FnBlkTwice.f k l) ?_
  simp only [laws_FnBlkTwice.f]
  refine T.ite (fun _ => T.ret rfl) (fun _ => ?_)
  refine T.bind (drawPut_T l hw hl) (fun dr hdr => ?_)
  obtain ⟨L, d, b, e, v⟩ := dr
  have hL : L.length ≤ 1000 := hdr
  simp only
  refine T.bind_eq (spec_put L (by omega) ⟨d, b, e, v⟩) ?_
  refine T.bind_eq (impl_put L (by omega) ⟨d, b, e, v⟩) ?_
  have hle := putB_le L ⟨d, b, e, v⟩
  refine T.neg (by simp) ?_
  refine T.bind (lpP_T _ _ (by omega)) (fun r hr => ?_)
  obtain rfl : r = true := hr.2 rfl
  refine T.succ ?_
  simp only [laws_FnBlkTwice.j0]
  refine T.neg (by simp) ?_
  refine T.bind_eq (impl_put (putB L ⟨d, b, e, v⟩).1 (by omega) ⟨d, b, e, v⟩) ?_
  refine T.ite (fun ok => ?_) (fun _ => T.ret rfl)
  have h2 := put_twice ok
  refine T.pos (by rw [h2]; exact ok) ?_
  refine T.bind (lpP_T _ _ (by rw [h2]; omega)) (fun r hr => ?_)
  obtain rfl : r = true := hr.2 (by rw [h2])
  exact T.ret rfl
end Go.Proofs.Ytdcdaclmicmiaaa.Pure
