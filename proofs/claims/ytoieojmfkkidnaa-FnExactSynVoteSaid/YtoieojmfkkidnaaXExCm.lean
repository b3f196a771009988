/-
 What the exact laws' own functions on papers come to: sizes,copies,likeness.
 Conditions: sizes far below Go's bounds.
-/
import Derived.Test.YtoieojmfkkidnaaXPure
import Derived.Test.YtoieojmfkkidnaaPx1
namespace Go.Proofs.YtoieojmfkkidnaaX
open Go.RowKit Go.Proofs.Ytoieojmfkkidnaa.P Go.Proofs.YtoieojmfkkidnaaW.PrintWords Go.Proofs.YtoieojmfkkidnaaW.PrintLast Go.Proofs.YtoieojmfkkidnaaW.PrintMore
set_option linter.unusedVariables false
set_option linter.unusedSimpArgs false
theorem eqCm_f (x y:S24):∃ r,laws_eqCmd.f x.f0 x.f1 x.f2 x.f3 x.f4 x.f5 x.f6 x.f7 x.f8 x.f9 y.f0 y.f1 y.f2 y.f3 y.f4 y.f5 y.f6 y.f7 y.f8 y.f9=some r∧(r=true ↔ x=y):=by
 unfold laws_eqCmd.f
 obtain ⟨x0,x1,x2,x3,x4,x5,x6,x7,x8,x9⟩:=x
 obtain ⟨y0,y1,y2,y3,y4,y5,y6,y7,y8,y9⟩:=y
 simp only
 repeat' split
 all_goals first
  | exact ⟨_,rfl,by simp_all⟩
end Go.Proofs.YtoieojmfkkidnaaX
