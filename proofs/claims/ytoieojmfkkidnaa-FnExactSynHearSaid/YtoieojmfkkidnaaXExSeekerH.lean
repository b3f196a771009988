/-
 What the exact laws' own functions on seekers come to: sizes,copies,likeness.
 Conditions: sizes far below Go's bounds.
-/
import Derived.Test.YtoieojmfkkidnaaXExPpH
import Derived.Test.YtoieojmfkkidnaaXExInt0
import Derived.Test.YtoieojmfkkidnaaPx6
import Derived.Test.YtoieojmfkkidnaaPx7
namespace Go.Proofs.YtoieojmfkkidnaaX
open Go.RowKit Go.Proofs.Ytoieojmfkkidnaa.P Go.Proofs.YtoieojmfkkidnaaW.PrintWords Go.Proofs.YtoieojmfkkidnaaW.PrintLast Go.Proofs.YtoieojmfkkidnaaW.PrintMore
set_option linter.unusedVariables false
set_option linter.unusedSimpArgs false
theorem toSeeker_T (a0 a1 a2 a3 a4 a5 a6 a7 a8 a9 a10 a11 a12 a13 a14 a15 a16 a17 a18 a19 a20 a21 a22 a23 a24:Int) (Y:List Int) (hl:Y.length≤1048576):T (fun k=>laws_toSynSeeker.f k a0 a1 a2 a3 a4 a5 a6 a7 a8 a9 a10 a11 a12 a13 a14 a15 a16 a17 a18 a19 a20 a21 a22 a23 a24 Y) (·=(a0,a1,a2,a3,a4,a5,a6,a7,a8,a9,a10,a11,a12,a13,a14,a15,a16,a17,a18,a19,a20,a21,a22,a23,a24,Y)):=by
 simp only [laws_toSynSeeker.f,laws_toCmd.f,laws_toSynPaper.f,Option.bind_some]
 exact T.bind_eq (toIntS_T Y hl) (T.ret rfl)
theorem eqSeeker_same (a0 a1 a2 a3 a4 a5 a6 a7 a8 a9 a10 a11 a12 a13 a14 a15 a16 a17 a18 a19 a20 a21 a22 a23 a24:Int) (Y:List Int) (hl:Y.length≤4611686018427387904):T (fun k=>laws_eqSynSeeker.f k a0 a1 a2 a3 a4 a5 a6 a7 a8 a9 a10 a11 a12 a13 a14 a15 a16 a17 a18 a19 a20 a21 a22 a23 a24 Y a0 a1 a2 a3 a4 a5 a6 a7 a8 a9 a10 a11 a12 a13 a14 a15 a16 a17 a18 a19 a20 a21 a22 a23 a24 Y) (·=true):=by
 obtain ⟨r,hr,hr2⟩:=eqCm_f ⟨a3,a4,a5,a6,a7,a8,a9,a10,a11,a12⟩ ⟨a3,a4,a5,a6,a7,a8,a9,a10,a11,a12⟩
 obtain rfl:r=true:=hr2.2 rfl
 obtain ⟨q,hq,hq2⟩:=eqPp_f ⟨a13,a14,⟨a15,a16,a17,a18,a19,a20,a21,a22,a23,a24⟩⟩ ⟨a13,a14,⟨a15,a16,a17,a18,a19,a20,a21,a22,a23,a24⟩⟩
 obtain rfl:q=true:=hq2.2 rfl
 simp only at hr hq
 simp only [laws_eqSynSeeker.f,hr,hq,Option.bind_some,if_true]
 refine T.bind (eqIntS_T Y Y hl) (fun r hr=>?_)
 exact T.pos (hr.2 rfl) (T.ret rfl)
end Go.Proofs.YtoieojmfkkidnaaX
