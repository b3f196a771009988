/-
 When a command and a paper are right,for the program and the reference alike.
 Conditions: none.
-/
import Derived.Test.YtoieojmfkkidnaaXIn
import Derived.Test.YtoieojmfkkidnaaPx5
namespace Go.Proofs.YtoieojmfkkidnaaX
open Go.RowKit Go.Proofs.Ytoieojmfkkidnaa.P Go.Proofs.YtoieojmfkkidnaaW.PrintWords Go.Proofs.YtoieojmfkkidnaaW.PrintLast Go.Proofs.YtoieojmfkkidnaaW.PrintMore
set_option linter.unusedVariables false
set_option linter.unusedSimpArgs false
theorem and_step (b c:Bool):(if b=true then some c else some false)=some (b && c):=by cases b<;>rfl
def cmdB (a0 a1 a2 a3 a4 a5 a6 a7 a8 a9:Int):Bool:=decide (0≤a0∧a0≤7) && (decide (-1≤a1∧a1≤99999) && (decide (-1≤a2∧a2≤99999) && (decide (-1≤a3∧a3≤99999) && (decide (-1≤a4∧a4≤99999) && (decide (-1≤a5∧a5≤99999) && (decide (-1≤a6∧a6≤99999) && (decide (-1≤a7∧a7≤99999) && (decide (-1≤a8∧a8≤99999) && decide (-1≤a9∧a9≤99999)))))))))
theorem spec_cmd (a0 a1 a2 a3 a4 a5 a6 a7 a8 a9:Int):spec_l11CmdOk.f a0 a1 a2 a3 a4 a5 a6 a7 a8 a9=some (cmdB a0 a1 a2 a3 a4 a5 a6 a7 a8 a9):=by
 simp only [spec_l11CmdOk.f,spec_l11Num.f,l6In_f,Option.bind_some,and_step]
 rfl
theorem rdNum (l:List Int) (i:Nat) (h:i<l.length):rd l (i:Int)=l[i]:=getD_nat l i h _
theorem numbers_loop (l:List Int) (hl:l.length≤1000):∀ (d i:Nat),l.length - i=d→i≤l.length →
  T (fun k=>impl_numbersOk.l0 k l (l.length:Int) (i:Int)) (·=(l.drop i).all fun x=>decide (-1≤x∧x≤99999)):=by
 intro d
 induction d with
 | zero =>
  intro i hd hi
  refine T.succ ?_
  simp only [impl_numbersOk.l0]
  refine T.neg (by omega) (T.ret ?_)
  rw [List.drop_of_length_le (by omega)];rfl
 | succ d ih =>
  intro i hd hi
  have hlt:i<l.length:=by omega
  refine T.succ ?_
  simp only [impl_numbersOk.l0,rdNum l i hlt,in_f,Option.bind_some,wrap_succ hlt (show l.length≤4611686018427387904 by omega)]
  refine T.pos (by omega) (T.pos (by omega) (T.pos (by omega) ?_))
  rw [List.drop_eq_getElem_cons hlt,List.all_cons]
  refine T.ite (fun h=>?_) (fun h=>T.ret ?_)
  ·rw [h,Bool.true_and];exact ih (i+1) (by omega) (by omega)
  ·rw [Bool.eq_false_iff.2 h,Bool.false_and]
theorem impl_cmd (a0 a1 a2 a3 a4 a5 a6 a7 a8 a9:Int):T (fun k=>impl_cmdOk.f k a0 a1 a2 a3 a4 a5 a6 a7 a8 a9) (·=cmdB a0 a1 a2 a3 a4 a5 a6 a7 a8 a9):=by
 simp only [impl_cmdOk.f,impl_cmdNumbers.f,impl_numbersOk.f,in_f,Option.bind_some]
 unfold cmdB
 refine T.ite (fun h=>?_) (fun h=>T.ret ?_)
 ·refine T.bind_eq (numbers_loop [a0,a1,a2,a3,a4,a5,a6,a7,a8,a9] (by simp) _ 0 rfl (Nat.zero_le _)) (T.ret ?_)
  have h0:decide (-1≤a0∧a0≤99999)=true:=by simp only [decide_eq_true_eq] at h ⊢;omega
  simp only [List.drop_zero,List.all_cons,List.all_nil,h0,h,Bool.true_and,Bool.and_true]
 ·rw [Bool.eq_false_iff.2 h,Bool.false_and]
end Go.Proofs.YtoieojmfkkidnaaX
