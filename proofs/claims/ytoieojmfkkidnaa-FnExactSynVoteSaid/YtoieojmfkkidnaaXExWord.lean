/-
 What the exact laws' own functions on words come to: sizes,copies,likeness.
 Conditions: sizes far below Go's bounds.
-/
import Derived.Test.YtoieojmfkkidnaaXExPiece0
import Derived.Test.YtoieojmfkkidnaaXExLast0
import Derived.Test.YtoieojmfkkidnaaXExCm
import Derived.Test.YtoieojmfkkidnaaPx1
import Derived.Test.YtoieojmfkkidnaaPx2
namespace Go.Proofs.YtoieojmfkkidnaaX
open Go.RowKit Go.Proofs.Ytoieojmfkkidnaa.P Go.Proofs.YtoieojmfkkidnaaW.PrintWords Go.Proofs.YtoieojmfkkidnaaW.PrintLast Go.Proofs.YtoieojmfkkidnaaW.PrintMore
set_option linter.unusedVariables false
set_option linter.unusedSimpArgs false
theorem toWord_T (a0 a1 a2 a3 a4 a5 a6 a7 a8 a9 a10 a11 a12 a13 a14 a15 a16 a17 a18 a19 a20 a21 a22 a23:Int) (P:List S146) (L:List S148) (h1:P.length≤1048576) (h2:L.length≤1048576):T (fun k=>laws_toWord.f k a0 a1 a2 a3 a4 a5 a6 a7 a8 a9 a10 a11 a12 a13 a14 a15 a16 a17 a18 a19 a20 a21 a22 a23 P L) (·=(a0,a1,a2,a3,a4,a5,a6,a7,a8,a9,a10,a11,a12,a13,a14,a15,a16,a17,a18,a19,a20,a21,a22,a23,P.map toBlkPiece,L.map toBlkLast)):=by
 simp only [laws_toWord.f,laws_toCmd.f,Option.bind_some]
 refine T.bind_eq (toBlkPieceS_T P h1) ?_
 exact T.bind_eq (toBlkLastS_T L h2) (T.ret rfl)
theorem eqWord_same (a0 a1 a2 a3 a4 a5 a6 a7 a8 a9 a10 a11 a12 a13 a14 a15 a16 a17 a18 a19 a20 a21 a22 a23:Int) (P:List S138) (L:List S140) (h1:P.length≤4611686018427387904) (h2:L.length≤4611686018427387904):T (fun k=>laws_eqWord.f k a0 a1 a2 a3 a4 a5 a6 a7 a8 a9 a10 a11 a12 a13 a14 a15 a16 a17 a18 a19 a20 a21 a22 a23 P L a0 a1 a2 a3 a4 a5 a6 a7 a8 a9 a10 a11 a12 a13 a14 a15 a16 a17 a18 a19 a20 a21 a22 a23 P L) (·=true):=by
 obtain ⟨r,hr,hr2⟩:=eqCm_f ⟨a6,a7,a8,a9,a10,a11,a12,a13,a14,a15⟩ ⟨a6,a7,a8,a9,a10,a11,a12,a13,a14,a15⟩
 obtain rfl:r=true:=hr2.2 rfl
 simp only at hr
 simp only [laws_eqWord.f,hr,Option.bind_some,if_true]
 refine T.bind (eqBlkPieceS_T P P h1) (fun r hr=>?_)
 refine T.pos (hr.2 rfl) ?_
 refine T.bind (eqBlkLastS_T L L h2) (fun r hr=>?_)
 exact T.pos (hr.2 rfl) (T.ret rfl)
end Go.Proofs.YtoieojmfkkidnaaX
