/-
 What the exact laws' own functions on papers come to: sizes,copies,likeness.
 Conditions: sizes far below Go's bounds.
-/
import Derived.Test.YtoieojmfkkidnaaXPure
import Derived.Test.YtoieojmfkkidnaaPx1
import Derived.Test.YtoieojmfkkidnaaPx2
namespace Go.Proofs.YtoieojmfkkidnaaX
open Go.RowKit Go.Proofs.Ytoieojmfkkidnaa.P Go.Proofs.YtoieojmfkkidnaaW.PrintWords Go.Proofs.YtoieojmfkkidnaaW.PrintLast Go.Proofs.YtoieojmfkkidnaaW.PrintMore
set_option linter.unusedVariables false
set_option linter.unusedSimpArgs false
def toPp (x:S57):S64:=⟨x.f0,x.f1,⟨x.f2.f0,x.f2.f1,x.f2.f2,x.f2.f3,x.f2.f4,x.f2.f5,x.f2.f6,x.f2.f7,x.f2.f8,x.f2.f9⟩⟩
theorem eqCm_f (x y:S24):∃ r,laws_eqCmd.f x.f0 x.f1 x.f2 x.f3 x.f4 x.f5 x.f6 x.f7 x.f8 x.f9 y.f0 y.f1 y.f2 y.f3 y.f4 y.f5 y.f6 y.f7 y.f8 y.f9=some r∧(r=true ↔ x=y):=by
 unfold laws_eqCmd.f
 obtain ⟨x0,x1,x2,x3,x4,x5,x6,x7,x8,x9⟩:=x
 obtain ⟨y0,y1,y2,y3,y4,y5,y6,y7,y8,y9⟩:=y
 simp only
 repeat' split
 all_goals first
  | exact ⟨_,rfl,by simp_all⟩
theorem eqPp_f (x y:S64):∃ r,laws_eqSynPaper.f x.f0 x.f1 x.f2.f0 x.f2.f1 x.f2.f2 x.f2.f3 x.f2.f4 x.f2.f5 x.f2.f6 x.f2.f7 x.f2.f8 x.f2.f9 y.f0 y.f1 y.f2.f0 y.f2.f1 y.f2.f2 y.f2.f3 y.f2.f4 y.f2.f5 y.f2.f6 y.f2.f7 y.f2.f8 y.f2.f9=some r∧(r=true ↔ x=y):=by
 unfold laws_eqSynPaper.f
 obtain ⟨r,hr,hr2⟩:=eqCm_f x.f2 y.f2
 simp only [hr,Option.bind_some]
 obtain ⟨x0,x1,x2⟩:=x
 obtain ⟨y0,y1,y2⟩:=y
 simp only at hr2 ⊢
 by_cases h0:x0=y0
 ·by_cases h1:x1=y1
  ·cases r with
   | true=>rw [if_pos h0,if_pos h1];exact ⟨_,rfl,fun _=>by rw [h0,h1,hr2.1 rfl],fun _=>rfl⟩
   | false=>rw [if_pos h0,if_pos h1];exact ⟨_,rfl,ff,fun h=>hr2.2 (by injection h)⟩
  ·rw [if_pos h0,if_neg h1];exact ⟨_,rfl,ff,fun h=>absurd (by injection h) h1⟩
 ·rw [if_neg h0];exact ⟨_,rfl,ff,fun h=>absurd (by injection h) h0⟩
end Go.Proofs.YtoieojmfkkidnaaX
