/-
 When a command and a paper are right,for the program and the reference alike.
 Conditions: none.
-/
import Derived.Test.YtoieojmfkkidnaaXCmd
import Derived.Test.YtoieojmfkkidnaaXIn
import Derived.Test.YtoieojmfkkidnaaPx5
namespace Go.Proofs.YtoieojmfkkidnaaX
open Go.RowKit Go.Proofs.Ytoieojmfkkidnaa.P Go.Proofs.YtoieojmfkkidnaaW.PrintWords Go.Proofs.YtoieojmfkkidnaaW.PrintLast Go.Proofs.YtoieojmfkkidnaaW.PrintMore
set_option linter.unusedVariables false
set_option linter.unusedSimpArgs false
def paperB (x:S64):Bool:=decide (1≤x.f0∧x.f0≤60) && (decide (1≤x.f1∧x.f1≤99999) && cmdB x.f2.f0 x.f2.f1 x.f2.f2 x.f2.f3 x.f2.f4 x.f2.f5 x.f2.f6 x.f2.f7 x.f2.f8 x.f2.f9)
theorem spec_paper (x:S64):spec_l21PaperOk.f x.f0 x.f1 x.f2.f0 x.f2.f1 x.f2.f2 x.f2.f3 x.f2.f4 x.f2.f5 x.f2.f6 x.f2.f7 x.f2.f8 x.f2.f9=some (paperB x):=by
 simp only [spec_l21PaperOk.f,l6In_f,spec_cmd,Option.bind_some,and_step]
 rfl
theorem impl_paper (x:S64):T (fun k=>impl_paperOk.f k x.f0 x.f1 x.f2.f0 x.f2.f1 x.f2.f2 x.f2.f3 x.f2.f4 x.f2.f5 x.f2.f6 x.f2.f7 x.f2.f8 x.f2.f9) (·=paperB x):=by
 simp only [impl_paperOk.f,in_f,Option.bind_some]
 unfold paperB
 refine T.ite (fun h=>?_) (fun h=>T.ret (by rw [Bool.eq_false_iff.2 h,Bool.false_and]))
 refine T.ite (fun h2=>?_) (fun h2=>T.ret (by rw [Bool.eq_false_iff.2 h2,Bool.false_and,Bool.and_false]))
 exact T.bind_eq (impl_cmd _ _ _ _ _ _ _ _ _ _) (T.ret (by rw [h,h2,Bool.true_and,Bool.true_and]))
end Go.Proofs.YtoieojmfkkidnaaX
