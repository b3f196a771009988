/-
  The program's BlkOk returns what the reference's returns, for all arguments.
  Conditions: those of the pure statement, none beside.
-/
import Derived.Test.YtdcdaclmicmiaaaPx23
import Derived.Test.YtdcdaclmicmiaaaXBlk
import Derived.Test.YtdcdaclmicmiaaaXExPiece
namespace Go.Proofs.Ytdcdaclmicmiaaa.Pure
open Go.RowKit Go.Proofs.Ytdcdaclmicmiaaa.P Go.Proofs.YtdcdaclmicmiaaaX Go.Proofs.YtdcdaclmicmiaaaW.PrintWords Go.Proofs.YtdcdaclmicmiaaaW.PrintLast Go.Proofs.YtdcdaclmicmiaaaW.PrintMore
set_option linter.unusedVariables false
set_option linter.unusedSimpArgs false

theorem FnExactBlkOk : laws_FnExactBlkOk.Pure := by
  intro l  hw
  have hl : l.length ≤ 9223372036854775807 := hw.1
  refine T.rounds (g := fun k => laws_FnExactBlkOk.f k l ) ?_
  simp only [laws_FnExactBlkOk.f, szBlkPieceS_f l 1048576 (by omega) (by omega) hl, Option.bind_some]
  by_cases hb : (1048576 : Int) < (l.length : Int)
  · rw [if_pos hb]
    exact T.pos (by omega) (T.ret rfl)
  rw [if_neg hb]
  refine T.neg (by omega) ?_
  have hl : l.length ≤ 1048576 := by omega
  refine T.bind_eq (toBlkPieceS_T l hl) ?_
  refine T.bind_eq (spec_ok_eq _) ?_
  refine T.bind_eq (toBlkPieceS_T l hl) ?_
  refine T.bind_eq (impl_ok_eq _ (by simp; omega)) ?_
  refine T.neg (by simp) ?_
  refine T.bind_eq (toBlkPieceS_T l hl) ?_
  refine T.bind (eqBlkPieceS_T _ _ (by simp; omega)) (fun r hr => ?_)
  exact T.pos (hr.2 rfl) (T.ret rfl)
end Go.Proofs.Ytdcdaclmicmiaaa.Pure
