/-
 When a seeker is right,for the program and the reference alike.
 Conditions: lists of at most two millions of elements.
-/
import Derived.Test.YtoieojmfkkidnaaXPaperH
import Derived.Test.YtoieojmfkkidnaaPx19
import Derived.Test.YtoieojmfkkidnaaPx13
namespace Go.Proofs.YtoieojmfkkidnaaX
open Go.RowKit Go.Proofs.Ytoieojmfkkidnaa.P Go.Proofs.YtoieojmfkkidnaaW.PrintWords Go.Proofs.YtoieojmfkkidnaaW.PrintLast Go.Proofs.YtoieojmfkkidnaaW.PrintMore
set_option linter.unusedVariables false
set_option linter.unusedSimpArgs false
def bestB (a0 a1 a2 a3 a4 a5 a6 a7 a8 a9 a10 a11 a12 a13 a14 a15 a16 a17 a18 a19 a20 a21 a22 a23 a24:Int):Bool:=(a13 == 0 && (a14 == 0 && (a15 == 0 && (a16 == 0 && (a17 == 0 && (a18 == 0 && (a19 == 0 && (a20 == 0 && (a21 == 0 && (a22 == 0 && (a23 == 0 && a24 == 0))))))))))) || (paperB ⟨a13,a14,⟨a15,a16,a17,a18,a19,a20,a21,a22,a23,a24⟩⟩ && (decide (a13=a0) && decide (a14<a1)))
def yesB (Y:List Int):Bool:=decide (Y.length≤1) && Y.all fun y=>decide (0≤y∧y≤2)
def seekB (a0 a1 a2 a3 a4 a5 a6 a7 a8 a9 a10 a11 a12 a13 a14 a15 a16 a17 a18 a19 a20 a21 a22 a23 a24:Int) (Y:List Int):Bool :=
 if a2=0 then decide (a0=0) && (decide (a1=0) && ((a3 == 0 && (a4 == 0 && (a5 == 0 && (a6 == 0 && (a7 == 0 && (a8 == 0 && (a9 == 0 && (a10 == 0 && (a11 == 0 && a12 == 0))))))))) && ((a13 == 0 && (a14 == 0 && (a15 == 0 && (a16 == 0 && (a17 == 0 && (a18 == 0 && (a19 == 0 && (a20 == 0 && (a21 == 0 && (a22 == 0 && (a23 == 0 && a24 == 0))))))))))) && ((Y.length:Int) == 0))))
 else decide (1≤a0∧a0≤60) && (decide (1≤a1∧a1≤99999) && (decide (1≤a2∧a2≤2) && (cmdB a3 a4 a5 a6 a7 a8 a9 a10 a11 a12 && (yesB Y && bestB a0 a1 a2 a3 a4 a5 a6 a7 a8 a9 a10 a11 a12 a13 a14 a15 a16 a17 a18 a19 a20 a21 a22 a23 a24))))
theorem spec_paper' (a0 a1 a2 a3 a4 a5 a6 a7 a8 a9 a10 a11 a12 a13 a14 a15 a16 a17 a18 a19 a20 a21 a22 a23 a24:Int):spec_l21PaperOk.f a13 a14 a15 a16 a17 a18 a19 a20 a21 a22 a23 a24=some (paperB ⟨a13,a14,⟨a15,a16,a17,a18,a19,a20,a21,a22,a23,a24⟩⟩):=spec_paper ⟨a13,a14,⟨a15,a16,a17,a18,a19,a20,a21,a22,a23,a24⟩⟩
theorem impl_paper' (a0 a1 a2 a3 a4 a5 a6 a7 a8 a9 a10 a11 a12 a13 a14 a15 a16 a17 a18 a19 a20 a21 a22 a23 a24:Int):T (fun k=>impl_paperOk.f k a13 a14 a15 a16 a17 a18 a19 a20 a21 a22 a23 a24) (·=paperB ⟨a13,a14,⟨a15,a16,a17,a18,a19,a20,a21,a22,a23,a24⟩⟩):=impl_paper ⟨a13,a14,⟨a15,a16,a17,a18,a19,a20,a21,a22,a23,a24⟩⟩
theorem spec_seek_loop (a0 a1 a2 a3 a4 a5 a6 a7 a8 a9 a10 a11 a12 a13 a14 a15 a16 a17 a18 a19 a20 a21 a22 a23 a24:Int) (Y:List Int) (hY:Y.length≤1000):∀ (d i:Nat),Y.length - i=d→i≤Y.length →
  T (fun k=>spec_SynSeekerOk.l0 k (i:Int) a0 a1 a2 a3 a4 a5 a6 a7 a8 a9 a10 a11 a12 a13 a14 a15 a16 a17 a18 a19 a20 a21 a22 a23 a24 Y) (·=(((Y.drop i).all fun y=>decide (0≤y∧y≤2)) && bestB a0 a1 a2 a3 a4 a5 a6 a7 a8 a9 a10 a11 a12 a13 a14 a15 a16 a17 a18 a19 a20 a21 a22 a23 a24)):=by
 intro d
 induction d with
 | zero =>
  intro i hd hi
  refine T.succ ?_
  simp only [spec_SynSeekerOk.l0,spec_paper' a0 a1 a2 a3 a4 a5 a6 a7 a8 a9 a10 a11 a12 a13 a14 a15 a16 a17 a18 a19 a20 a21 a22 a23 a24,Option.bind_some]
  refine T.neg (by omega) ?_
  rw [List.drop_of_length_le (by omega),List.all_nil,Bool.true_and]
  unfold bestB
  generalize (a13 == 0 && (a14 == 0 && (a15 == 0 && (a16 == 0 && (a17 == 0 && (a18 == 0 && (a19 == 0 && (a20 == 0 && (a21 == 0 && (a22 == 0 && (a23 == 0 && a24 == 0)))))))))))=b
  generalize paperB ⟨a13,a14,⟨a15,a16,a17,a18,a19,a20,a21,a22,a23,a24⟩⟩=p
  refine T.ite (fun h=>T.ret (by rw [h];rfl)) (fun h=>?_)
  rw [Bool.eq_false_iff.2 h,Bool.false_or]
  refine T.ite (fun h2=>?_) (fun h2=>T.ret (by rw [Bool.eq_false_iff.2 h2];rfl))
  rw [h2,Bool.true_and]
  exact T.ite (fun h3=>T.ret (by simp [h3])) (fun h3=>T.ret (by simp [h3]))
 | succ d ih =>
  intro i hd hi
  have hlt:i<Y.length:=by omega
  refine T.succ ?_
  simp only [spec_SynSeekerOk.l0,rdNum Y i hlt,l6In_f,Option.bind_some,wrap_succ hlt (show Y.length≤4611686018427387904 by omega)]
  refine T.pos (by omega) (T.pos (by omega) ?_)
  rw [List.drop_eq_getElem_cons hlt,List.all_cons]
  refine T.ite (fun h=>?_) (fun h=>T.ret (by rw [Bool.eq_false_iff.2 h];rfl))
  rw [h,Bool.true_and]
  exact ih (i+1) (by omega) (by omega)
theorem spec_seek (a0 a1 a2 a3 a4 a5 a6 a7 a8 a9 a10 a11 a12 a13 a14 a15 a16 a17 a18 a19 a20 a21 a22 a23 a24:Int) (Y:List Int):T (fun k=>spec_SynSeekerOk.f k a0 a1 a2 a3 a4 a5 a6 a7 a8 a9 a10 a11 a12 a13 a14 a15 a16 a17 a18 a19 a20 a21 a22 a23 a24 Y) (·=seekB a0 a1 a2 a3 a4 a5 a6 a7 a8 a9 a10 a11 a12 a13 a14 a15 a16 a17 a18 a19 a20 a21 a22 a23 a24 Y):=by
 have bad:seekB a0 a1 a2 a3 a4 a5 a6 a7 a8 a9 a10 a11 a12 a13 a14 a15 a16 a17 a18 a19 a20 a21 a22 a23 a24 Y=false→T (fun k=>spec_SynSeekerOk.j0 k true a0 a1 a2 a3 a4 a5 a6 a7 a8 a9 a10 a11 a12 a13 a14 a15 a16 a17 a18 a19 a20 a21 a22 a23 a24 Y) (·=seekB a0 a1 a2 a3 a4 a5 a6 a7 a8 a9 a10 a11 a12 a13 a14 a15 a16 a17 a18 a19 a20 a21 a22 a23 a24 Y):=fun h=>by
  refine T.succ ?_
  simp only [spec_SynSeekerOk.j0,if_true]
  exact T.ret h.symm
 have fine:Y.length≤1→T (fun k=>spec_SynSeekerOk.j0 k false a0 a1 a2 a3 a4 a5 a6 a7 a8 a9 a10 a11 a12 a13 a14 a15 a16 a17 a18 a19 a20 a21 a22 a23 a24 Y) (·=((Y.all fun y=>decide (0≤y∧y≤2)) && bestB a0 a1 a2 a3 a4 a5 a6 a7 a8 a9 a10 a11 a12 a13 a14 a15 a16 a17 a18 a19 a20 a21 a22 a23 a24)):=fun h=>by
  refine T.succ ?_
  simp only [spec_SynSeekerOk.j0]
  refine T.neg (by simp) ?_
  exact spec_seek_loop a0 a1 a2 a3 a4 a5 a6 a7 a8 a9 a10 a11 a12 a13 a14 a15 a16 a17 a18 a19 a20 a21 a22 a23 a24 Y (by omega) _ 0 rfl (Nat.zero_le _)
 simp only [spec_SynSeekerOk.f,l6In_f,spec_cmd,Option.bind_some]
 unfold seekB at *
 by_cases h2:a2=0
 ·refine T.pos h2 ?_
  rw [if_pos h2]
  generalize (a13 == 0 && (a14 == 0 && (a15 == 0 && (a16 == 0 && (a17 == 0 && (a18 == 0 && (a19 == 0 && (a20 == 0 && (a21 == 0 && (a22 == 0 && (a23 == 0 && a24 == 0)))))))))))=b
  generalize (a3 == 0 && (a4 == 0 && (a5 == 0 && (a6 == 0 && (a7 == 0 && (a8 == 0 && (a9 == 0 && (a10 == 0 && (a11 == 0 && a12 == 0)))))))))=c
  refine T.ite (fun h=>?_) (fun h=>T.ret (by simp [h]))
  refine T.ite (fun h1=>?_) (fun h1=>T.ret (by simp [h1]))
  refine T.ite (fun h3=>?_) (fun h3=>T.ret (by simp [h3]))
  refine T.ite (fun h4=>?_) (fun h4=>T.ret (by simp [h4]))
  exact T.ret (by simp [h,h1,h3,h4])
 ·refine T.neg h2 ?_
  rw [if_neg h2] at bad ⊢
  refine T.ite (fun h=>?_) (fun h=>bad (by simp only [Bool.eq_false_iff.2 h,Bool.false_and]))
  rw [h,Bool.true_and] at bad ⊢
  refine T.ite (fun h=>?_) (fun h=>bad (by simp only [Bool.eq_false_iff.2 h,Bool.false_and]))
  rw [h,Bool.true_and] at bad ⊢
  refine T.ite (fun h=>?_) (fun h=>bad (by simp only [Bool.eq_false_iff.2 h,Bool.false_and]))
  rw [h,Bool.true_and] at bad ⊢
  refine T.ite (fun h=>?_) (fun h=>bad (by simp only [Bool.eq_false_iff.2 h,Bool.false_and]))
  rw [h,Bool.true_and] at bad ⊢
  unfold yesB at *
  by_cases hl:Y.length≤1
  ·rw [decide_eq_false (by omega),decide_eq_true hl,Bool.true_and]
   exact fine hl
  ·rw [decide_eq_true (show (Y.length:Int) ≥ 2 by omega)]
   exact bad (by rw [decide_eq_false hl,Bool.false_and,Bool.false_and])
theorem impl_seek (a0 a1 a2 a3 a4 a5 a6 a7 a8 a9 a10 a11 a12 a13 a14 a15 a16 a17 a18 a19 a20 a21 a22 a23 a24:Int) (Y:List Int):T (fun k=>impl_SynSeekerOk.f k a0 a1 a2 a3 a4 a5 a6 a7 a8 a9 a10 a11 a12 a13 a14 a15 a16 a17 a18 a19 a20 a21 a22 a23 a24 Y) (·=seekB a0 a1 a2 a3 a4 a5 a6 a7 a8 a9 a10 a11 a12 a13 a14 a15 a16 a17 a18 a19 a20 a21 a22 a23 a24 Y):=by
 have no:T (fun k=>impl_SynSeekerOk.j1 k true a0 a1 a2 a3 a4 a5 a6 a7 a8 a9 a10 a11 a12 a13 a14 a15 a16 a17 a18 a19 a20 a21 a22 a23 a24 Y) (·=false):=by
  refine T.succ ?_
  simp only [impl_SynSeekerOk.j1,if_true]
  exact T.ret rfl
 have yes:T (fun k=>impl_SynSeekerOk.j1 k false a0 a1 a2 a3 a4 a5 a6 a7 a8 a9 a10 a11 a12 a13 a14 a15 a16 a17 a18 a19 a20 a21 a22 a23 a24 Y) (·=bestB a0 a1 a2 a3 a4 a5 a6 a7 a8 a9 a10 a11 a12 a13 a14 a15 a16 a17 a18 a19 a20 a21 a22 a23 a24):=by
  refine T.succ ?_
  simp only [impl_SynSeekerOk.j1]
  refine T.neg (by simp) ?_
  unfold bestB
  generalize (a13 == 0 && (a14 == 0 && (a15 == 0 && (a16 == 0 && (a17 == 0 && (a18 == 0 && (a19 == 0 && (a20 == 0 && (a21 == 0 && (a22 == 0 && (a23 == 0 && a24 == 0)))))))))))=b
  refine T.ite (fun h=>T.ret (by rw [h];rfl)) (fun h=>?_)
  rw [Bool.eq_false_iff.2 h,Bool.false_or]
  refine T.bind_eq (impl_paper' a0 a1 a2 a3 a4 a5 a6 a7 a8 a9 a10 a11 a12 a13 a14 a15 a16 a17 a18 a19 a20 a21 a22 a23 a24) ?_
  generalize paperB ⟨a13,a14,⟨a15,a16,a17,a18,a19,a20,a21,a22,a23,a24⟩⟩=p
  refine T.ite (fun h2=>?_) (fun h2=>T.ret (by rw [Bool.eq_false_iff.2 h2];rfl))
  rw [h2,Bool.true_and]
  exact T.ite (fun h3=>T.ret (by simp [h3])) (fun h3=>T.ret (by simp [h3]))
 have full:T (fun k=>impl_SynSeekerOk.j0 k a0 a1 a2 a3 a4 a5 a6 a7 a8 a9 a10 a11 a12 a13 a14 a15 a16 a17 a18 a19 a20 a21 a22 a23 a24 Y) (·=(decide (1≤a0∧a0≤60) && (decide (1≤a1∧a1≤99999) && (decide (1≤a2∧a2≤2) && (cmdB a3 a4 a5 a6 a7 a8 a9 a10 a11 a12 && (yesB Y && bestB a0 a1 a2 a3 a4 a5 a6 a7 a8 a9 a10 a11 a12 a13 a14 a15 a16 a17 a18 a19 a20 a21 a22 a23 a24)))))):=by
  refine T.succ ?_
  simp only [impl_SynSeekerOk.j0,in_f,impl_isVoter.f,Option.bind_some]
  refine T.ite (fun h=>?_) (fun h=>no.mono (fun r hr=>by rw [hr,Bool.eq_false_iff.2 h,Bool.false_and]))
  rw [h,Bool.true_and]
  refine T.ite (fun h=>?_) (fun h=>no.mono (fun r hr=>by rw [hr,Bool.eq_false_iff.2 h,Bool.false_and]))
  rw [h,Bool.true_and]
  refine T.ite (fun h=>?_) (fun h=>no.mono (fun r hr=>by rw [hr,Bool.eq_false_iff.2 h,Bool.false_and]))
  rw [h,Bool.true_and]
  refine T.bind_eq (impl_cmd a3 a4 a5 a6 a7 a8 a9 a10 a11 a12) ?_
  refine T.ite (fun h=>?_) (fun h=>no.mono (fun r hr=>by rw [hr,Bool.eq_false_iff.2 h,Bool.false_and]))
  rw [h,Bool.true_and]
  unfold yesB
  refine T.ite (fun h=>no.mono (fun r hr=>by rw [hr,decide_eq_false (show ¬ Y.length≤1 by omega),Bool.false_and,Bool.false_and])) (fun h=>?_)
  rw [decide_eq_true (show Y.length≤1 by omega),Bool.true_and]
  refine T.ite (fun h1=>T.pos (by omega) ?_) (fun h1=>?_)
  ·obtain ⟨y,rfl⟩:∃ y,Y=[y]:=by
    match Y,h1 with
    | [y],_=>exact ⟨y,rfl⟩
   have e:rd [y] 0=y:=rfl
   simp only [e,List.all_cons,List.all_nil,Bool.and_true]
   cases hy:decide (0≤y∧y≤2) with
   | true=>rw [Bool.true_and];exact yes
   | false=>rw [Bool.false_and];exact no
  ·obtain rfl:Y=[]:=List.eq_nil_of_length_eq_zero (by omega)
   rw [List.all_nil,Bool.true_and]
   exact yes
 simp only [impl_SynSeekerOk.f]
 by_cases h2:a2=0
 ·have none:impl_seekerNone.f a0 a1 a2 a3 a4 a5 a6 a7 a8 a9 a10 a11 a12 a13 a14 a15 a16 a17 a18 a19 a20 a21 a22 a23 a24 Y=some (seekB a0 a1 a2 a3 a4 a5 a6 a7 a8 a9 a10 a11 a12 a13 a14 a15 a16 a17 a18 a19 a20 a21 a22 a23 a24 Y):=by
   unfold impl_seekerNone.f seekB
   simp only [if_pos h2]
   generalize (a13 == 0 && (a14 == 0 && (a15 == 0 && (a16 == 0 && (a17 == 0 && (a18 == 0 && (a19 == 0 && (a20 == 0 && (a21 == 0 && (a22 == 0 && (a23 == 0 && a24 == 0)))))))))))=b
   generalize (a3 == 0 && (a4 == 0 && (a5 == 0 && (a6 == 0 && (a7 == 0 && (a8 == 0 && (a9 == 0 && (a10 == 0 && (a11 == 0 && a12 == 0)))))))))=c
   by_cases h:a0=0
   ·by_cases h1:a1=0
    ·cases c<;>cases b<;>simp [h,h1,h2]
    ·simp [h,h1,h2]
   ·simp [h,h2]
  rw [none]
  simp only [Option.bind_some]
  refine T.ite (fun h=>T.ret h.symm) (fun h=>?_)
  refine full.mono (fun r hr=>?_)
  rw [hr,Bool.eq_false_iff.2 h,decide_eq_false (show ¬ (1≤a2∧a2≤2) by omega),Bool.false_and,Bool.and_false,Bool.and_false]
 ·have none:impl_seekerNone.f a0 a1 a2 a3 a4 a5 a6 a7 a8 a9 a10 a11 a12 a13 a14 a15 a16 a17 a18 a19 a20 a21 a22 a23 a24 Y=some false:=by
   unfold impl_seekerNone.f
   by_cases h:a0=0
   ·by_cases h1:a1=0
    ·rw [if_pos h,if_pos h1,if_neg h2]
    ·rw [if_pos h,if_neg h1]
   ·rw [if_neg h]
  rw [none]
  simp only [Option.bind_some]
  refine T.neg (by simp) ?_
  unfold seekB
  rw [if_neg h2]
  exact full
end Go.Proofs.YtoieojmfkkidnaaX
