/-
  The program's WordPack answers as the reference's, for all arguments, in new memory.
  Conditions: those of the pure statement, none beside.
-/
import Derived.Test.YtoieojmfkkidnaaPx40
import Derived.Test.YtoieojmfkkidnaaXWordPack
import Derived.Test.YtoieojmfkkidnaaXExWord
import Derived.Test.YtoieojmfkkidnaaXExByte
import Derived.Test.YtoieojmfkkidnaaXExPieceM
import Derived.Test.YtoieojmfkkidnaaXExLastM
import Derived.Test.YtoieojmfkkidnaaPx19
namespace Go.Proofs.Ytoieojmfkkidnaa.Pure
open Go.RowKit Go.Proofs.Ytoieojmfkkidnaa.P Go.Proofs.YtoieojmfkkidnaaX Go.Proofs.YtoieojmfkkidnaaW.PrintWords Go.Proofs.YtoieojmfkkidnaaW.PrintLast Go.Proofs.YtoieojmfkkidnaaW.PrintMore
set_option linter.unusedVariables false
set_option linter.unusedSimpArgs false

theorem markWord_T (a0 a1 a2 a3 a4 a5 a6 a7 a8 a9 a10 a11 a12 a13 a14 a15 a16 a17 a18 a19 a20 a21 a22 a23 : Int) (P : List S138) (L : List S140) (h1 : P.length ≤ 1048576) (h2 : L.length ≤ 1048576) : T (fun k => laws_markWord.f k a0 a1 a2 a3 a4 a5 a6 a7 a8 a9 a10 a11 a12 a13 a14 a15 a16 a17 a18 a19 a20 a21 a22 a23 P L 1) (fun r => 0 ≤ r.1) := by
  simp only [laws_markWord.f]
  refine T.bind (markBlkPieceS_T P 1 (by omega) (by omega)) (fun m1 hm1 => ?_)
  have e1 := hm1.1
  refine T.bind (markBlkLastS_T L m1.1 (by omega) (by omega)) (fun m2 hm2 => T.ret ?_)
  have e2 := hm2.1
  show 0 ≤ m2.1
  omega
theorem FnExactWordPack : laws_FnExactWordPack.Pure := by
  intro a0 a1 a2 a3 a4 a5 a6 a7 a8 a9 a10 a11 a12 a13 a14 a15 a16 a17 a18 a19 a20 a21 a22 a23 P L hw
  have w1 := wf_i64 hw.2.1
  have w2 := wf_i64 hw.2.2.1
  have wP : P.length ≤ maxLen := hw.2.2.2.2.2.2.2.2.2.2.2.2.2.2.2.1.1
  have wL : L.length ≤ maxLen := hw.2.2.2.2.2.2.2.2.2.2.2.2.2.2.2.2.1
  have hm : maxLen ≤ 9223372036854775807 := by decide
  refine T.rounds (g := fun k => laws_FnExactWordPack.f k a0 a1 a2 a3 a4 a5 a6 a7 a8 a9 a10 a11 a12 a13 a14 a15 a16 a17 a18 a19 a20 a21 a22 a23 P L) ?_
  obtain ⟨r, hr, hr2⟩ := szWord_f a0 a1 a2 a3 a4 a5 a6 a7 a8 a9 a10 a11 a12 a13 a14 a15 a16 a17 a18 a19 a20 a21 a22 a23 P L (by omega) (by omega)
  simp only [laws_FnExactWordPack.f, hr, Option.bind_some]
  refine T.ite (fun _ => T.ret rfl) (fun h => ?_)
  have hP : P.length ≤ 1048576 := by omega
  have hL : L.length ≤ 1048576 := by omega
  have kP : (P.map toBlkPiece).length ≤ 1048576 := by rw [List.length_map]; exact hP
  have kL : (L.map toBlkLast).length ≤ 1048576 := by rw [List.length_map]; exact hL
  have hlen := packB_len a0 a1 a2 a3 a4 a5 a6 a7 a8 a9 a10 a11 a12 a13 a14 a15 a16 a17 a18 a19 a20 a21 a22 a23 (P.map toBlkPiece) (L.map toBlkLast)
  refine T.succ ?_
  simp only [laws_FnExactWordPack.j0]
  refine T.bind_eq (toWord_T a0 a1 a2 a3 a4 a5 a6 a7 a8 a9 a10 a11 a12 a13 a14 a15 a16 a17 a18 a19 a20 a21 a22 a23 P L hP hL) ?_
  refine T.bind_eq (spec_pack a0 a1 a2 a3 a4 a5 a6 a7 a8 a9 a10 a11 a12 a13 a14 a15 a16 a17 a18 a19 a20 a21 a22 a23 _ _) ?_
  refine T.bind_eq (toWord_T a0 a1 a2 a3 a4 a5 a6 a7 a8 a9 a10 a11 a12 a13 a14 a15 a16 a17 a18 a19 a20 a21 a22 a23 P L hP hL) ?_
  refine T.bind_eq (impl_pack a0 a1 a2 a3 a4 a5 a6 a7 a8 a9 a10 a11 a12 a13 a14 a15 a16 a17 a18 a19 a20 a21 a22 a23 _ _ (by omega) (by omega) w1 w2) ?_
  refine T.bind (eqByteS_T _ _ (by have := hlen; (try simp only); omega)) (fun r hr => ?_)
  obtain rfl : r = true := hr.2 rfl
  refine T.pos rfl ?_
  refine T.succ ?_
  simp only [laws_FnExactWordPack.j1]
  refine T.bind_eq (toWord_T a0 a1 a2 a3 a4 a5 a6 a7 a8 a9 a10 a11 a12 a13 a14 a15 a16 a17 a18 a19 a20 a21 a22 a23 P L hP hL) ?_
  refine T.bind_eq (eqWord_same a0 a1 a2 a3 a4 a5 a6 a7 a8 a9 a10 a11 a12 a13 a14 a15 a16 a17 a18 a19 a20 a21 a22 a23 _ _ (by omega) (by omega)) ?_
  refine T.pos rfl ?_
  refine T.succ ?_
  simp only [laws_FnExactWordPack.j2]
  refine T.bind (markWord_T a0 a1 a2 a3 a4 a5 a6 a7 a8 a9 a10 a11 a12 a13 a14 a15 a16 a17 a18 a19 a20 a21 a22 a23 _ _ kP kL) (fun m hm => ?_)
  refine T.neg (by omega) ?_
  refine T.bind (eqByteS_T _ _ (by have := hlen; (try simp only); omega)) (fun r hr => ?_)
  obtain rfl : r = true := hr.2 rfl
  refine T.succ ?_
  simp only [laws_FnExactWordPack.j3]
  refine T.neg (by simp) ?_
  refine T.succ ?_
  simp only [laws_FnExactWordPack.j4]
  refine T.bind (markByteS_T _ 1 (by omega) (by omega)) (fun m2 hm2 => ?_)
  obtain ⟨g1, g2, g3⟩ := hm2
  refine T.bind_eq (heldByteS_T _ 1 (by omega) (by omega) g3) ?_
  refine T.neg (by omega) ?_
  refine T.succ ?_
  simp only [laws_FnExactWordPack.j5]
  refine T.pos (by omega) ?_
  refine T.succ ?_
  simp only [laws_FnExactWordPack.j6]
  refine T.bind_eq (toWord_T a0 a1 a2 a3 a4 a5 a6 a7 a8 a9 a10 a11 a12 a13 a14 a15 a16 a17 a18 a19 a20 a21 a22 a23 P L hP hL) ?_
  refine T.bind_eq (impl_pack a0 a1 a2 a3 a4 a5 a6 a7 a8 a9 a10 a11 a12 a13 a14 a15 a16 a17 a18 a19 a20 a21 a22 a23 _ _ (by omega) (by omega) w1 w2) ?_
  refine T.bind (eqByteS_T _ _ (by have := hlen; (try simp only); omega)) (fun r hr => ?_)
  obtain rfl : r = true := hr.2 rfl
  refine T.pos rfl ?_
  refine T.succ ?_
  simp only [laws_FnExactWordPack.j7]
  refine T.bind_eq (heldByteS_T _ 1 (by omega) (by omega) g3) ?_
  refine T.neg (by omega) ?_
  exact T.pos (by omega) (T.ret rfl)
end Go.Proofs.Ytoieojmfkkidnaa.Pure
