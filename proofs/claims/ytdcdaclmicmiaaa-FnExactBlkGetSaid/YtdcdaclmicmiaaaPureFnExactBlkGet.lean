/-
  The program's BlkGet returns what the reference's returns, for all arguments.
  Conditions: those of the pure statement, none beside.
-/
import Derived.Test.YtdcdaclmicmiaaaPx24
import Derived.Test.YtdcdaclmicmiaaaXBlk2
import Derived.Test.YtdcdaclmicmiaaaXExPiece
namespace Go.Proofs.Ytdcdaclmicmiaaa.Pure
open Go.RowKit Go.Proofs.Ytdcdaclmicmiaaa.P Go.Proofs.YtdcdaclmicmiaaaX Go.Proofs.YtdcdaclmicmiaaaW.PrintWords Go.Proofs.YtdcdaclmicmiaaaW.PrintLast Go.Proofs.YtdcdaclmicmiaaaW.PrintMore
set_option linter.unusedVariables false
set_option linter.unusedSimpArgs false

theorem FnExactBlkGet : laws_FnExactBlkGet.Pure := by
  intro l d b e hw _ _ _
  have hl : l.length ≤ 9223372036854775807 := hw.1
  refine T.rounds (g := fun k => laws_FnExactBlkGet.f k l d b e) ?_
  simp only [laws_FnExactBlkGet.f, szBlkPieceS_f l 1048576 (by omega) (by omega) hl, Option.bind_some]
  by_cases hb : (1048576 : Int) < (l.length : Int)
  · rw [if_pos hb]
    exact T.pos (by omega) (T.ret rfl)
  rw [if_neg hb]
  refine T.neg (by omega) ?_
  have hl : l.length ≤ 1048576 := by omega
  refine T.bind_eq (toBlkPieceS_T l hl) ?_
  refine T.bind_eq (spec_get _ (by simp; omega) d b e) ?_
  refine T.bind_eq (toBlkPieceS_T l hl) ?_
  refine T.bind_eq (impl_get _ (by simp; omega) d b e) ?_
  refine T.pos rfl ?_
  refine T.bind_eq (toBlkPieceS_T l hl) ?_
  refine T.bind (eqBlkPieceS_T _ _ (by simp; omega)) (fun r hr => ?_)
  exact T.pos (hr.2 rfl) (T.ret rfl)
end Go.Proofs.Ytdcdaclmicmiaaa.Pure
