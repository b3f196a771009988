/-
  The program's BlkPut returns what the reference's returns, for all arguments, in new memory.
  Conditions: those of the pure statement, none beside.
-/
import Derived.Test.YtdcdaclmicmiaaaPx33
import Derived.Test.YtdcdaclmicmiaaaXBlk2
import Derived.Test.YtdcdaclmicmiaaaXExPiece
namespace Go.Proofs.Ytdcdaclmicmiaaa.Pure
open Go.RowKit Go.Proofs.Ytdcdaclmicmiaaa.P Go.Proofs.YtdcdaclmicmiaaaX Go.Proofs.YtdcdaclmicmiaaaW.PrintWords Go.Proofs.YtdcdaclmicmiaaaW.PrintLast Go.Proofs.YtdcdaclmicmiaaaW.PrintMore
set_option linter.unusedVariables false
set_option linter.unusedSimpArgs false

theorem FnExactBlkPut : laws_FnExactBlkPut.Pure := by
  intro l a b c d hw _ _ _ _
  have hl : l.length ≤ 9223372036854775807 := hw.1
  refine T.rounds (g := fun k => laws_FnExactBlkPut.f k l a b c d) ?_
  simp only [laws_FnExactBlkPut.f, szBlkPieceS_f l 1048576 (by omega) (by omega) hl, Option.bind_some]
  by_cases hb : (1048576 : Int) < (l.length : Int)
  · rw [if_pos hb]
    exact T.pos (by omega) (T.ret rfl)
  rw [if_neg hb]
  refine T.neg (by omega) ?_
  have hl : l.length ≤ 1048576 := by omega
  have hx : (l.map toBlkPiece).length ≤ 1048576 := by simp; omega
  have hg : ((putB (l.map toBlkPiece) ⟨a, b, c, d⟩).1).length ≤ 1048577 := by
    unfold putB; have := insL_le ⟨a, b, c, d⟩ (l.map toBlkPiece) false; simp only [Bool.false_eq_true, if_false] at this; split
    · split <;> simp only <;> omega
    · simp
  refine T.bind_eq (toBlkPieceS_T l hl) ?_
  refine T.bind_eq (spec_put _ (by omega) ⟨a, b, c, d⟩) ?_
  refine T.bind_eq (toBlkPieceS_T l hl) ?_
  refine T.bind_eq (impl_put _ (by omega) ⟨a, b, c, d⟩) ?_
  refine T.bind (eqBlkPieceS_T _ _ (by have := hg; omega)) (fun r hr => ?_)
  obtain rfl : r = true := hr.2 rfl
  refine T.pos rfl ?_
  refine T.succ ?_
  simp only [laws_FnExactBlkPut.j0]
  refine T.neg (by simp) ?_
  refine T.bind_eq (toBlkPieceS_T l hl) ?_
  refine T.bind (eqBlkPieceS_T _ _ (by have := hx; omega)) (fun r hr => ?_)
  obtain rfl : r = true := hr.2 rfl
  refine T.pos rfl ?_
  refine T.bind (markBlkPieceS_T _ 1 (by omega) (by have := hx; omega)) (fun m1 hm1 => ?_)
  refine T.neg (by have := hm1.1; omega) ?_
  refine T.bind (eqBlkPieceS_T _ _ (by have := hg; omega)) (fun r hr => ?_)
  obtain rfl : r = true := hr.2 rfl
  refine T.pos rfl ?_
  refine T.succ ?_
  simp only [laws_FnExactBlkPut.j1]
  refine T.neg (by simp) ?_
  refine T.bind (markBlkPieceS_T _ 1 (by omega) (by have := hg; omega)) (fun m2 hm2 => ?_)
  refine T.bind_eq (heldBlkPieceS_T m2.2 1 (by omega) (by rw [hm2.2.1]; have := hg; omega) hm2.2.2) ?_
  refine T.neg (by omega) (T.pos (by rw [hm2.1, hm2.2.1]) ?_)
  refine T.bind_eq (toBlkPieceS_T l hl) ?_
  refine T.bind_eq (impl_put _ (by omega) ⟨a, b, c, d⟩) ?_
  refine T.bind (eqBlkPieceS_T _ _ (by have := hg; omega)) (fun r hr => ?_)
  obtain rfl : r = true := hr.2 rfl
  refine T.pos rfl ?_
  refine T.succ ?_
  simp only [laws_FnExactBlkPut.j2]
  refine T.neg (by simp) ?_
  refine T.bind_eq (heldBlkPieceS_T m2.2 1 (by omega) (by rw [hm2.2.1]; have := hg; omega) hm2.2.2) ?_
  refine T.neg (by omega) (T.pos (by rw [hm2.1, hm2.2.1]) ?_)
  exact T.ret rfl
end Go.Proofs.Ytdcdaclmicmiaaa.Pure
