/-
 What a seeker does with a word: the program and the reference come to the same.
 Conditions: the sizes that the pure statement allows.
-/
import Derived.Test.YtoieojmfkkidnaaXMarkFlat
import Derived.Test.YtoieojmfkkidnaaXSeekerH
import Derived.Test.YtoieojmfkkidnaaXWord
import Derived.Test.YtoieojmfkkidnaaPx15
import Derived.Test.YtoieojmfkkidnaaPx20
import Derived.Test.YtoieojmfkkidnaaPx14
import Derived.Test.YtoieojmfkkidnaaPx13
import Derived.Test.YtoieojmfkkidnaaPx19
namespace Go.Proofs.YtoieojmfkkidnaaX
open Go.RowKit Go.Proofs.Ytoieojmfkkidnaa.P Go.Proofs.YtoieojmfkkidnaaW.PrintWords Go.Proofs.YtoieojmfkkidnaaW.PrintLast Go.Proofs.YtoieojmfkkidnaaW.PrintMore
set_option linter.unusedVariables false
set_option linter.unusedSimpArgs false
theorem allS (me s1 s0 c0 c1 c2 c3 c4 c5 c6 c7 c8 c9:Int):T (fun k=>spec_l22All.f k 3 me 0 s1 s0 0 c0 c1 c2 c3 c4 c5 c6 c7 c8 c9 0 0 0 0 0 0 0 0 () ()) (·=[(⟨3,me,0,s1,s0,0,(⟨c0,c1,c2,c3,c4,c5,c6,c7,c8,c9⟩:S24),0,0,0,0,0,0,0,0,(),()⟩:S9028),(⟨3,me,1,s1,s0,0,(⟨c0,c1,c2,c3,c4,c5,c6,c7,c8,c9⟩:S24),0,0,0,0,0,0,0,0,(),()⟩:S9028),(⟨3,me,2,s1,s0,0,(⟨c0,c1,c2,c3,c4,c5,c6,c7,c8,c9⟩:S24),0,0,0,0,0,0,0,0,(),()⟩:S9028)]):=T_mono (fun k=>spec_l22All.mono _ _ _ _ _ _ _ _ _ _ _ _ _ _ _ _ _ _ _ _ _ _ _ _ _ _ k) 6 (by kernel_rfl)
theorem allI (me s1 s0 c0 c1 c2 c3 c4 c5 c6 c7 c8 c9:Int):T (fun k=>impl_askAll.f k 3 me 0 s1 s0 0 c0 c1 c2 c3 c4 c5 c6 c7 c8 c9 0 0 0 0 0 0 0 0 () ()) (·=[(⟨3,me,0,s1,s0,0,(⟨c0,c1,c2,c3,c4,c5,c6,c7,c8,c9⟩:S24),0,0,0,0,0,0,0,0,(),()⟩:S9028),(⟨3,me,1,s1,s0,0,(⟨c0,c1,c2,c3,c4,c5,c6,c7,c8,c9⟩:S24),0,0,0,0,0,0,0,0,(),()⟩:S9028),(⟨3,me,2,s1,s0,0,(⟨c0,c1,c2,c3,c4,c5,c6,c7,c8,c9⟩:S24),0,0,0,0,0,0,0,0,(),()⟩:S9028)]):=T_mono (fun k=>impl_askAll.mono _ _ _ _ _ _ _ _ _ _ _ _ _ _ _ _ _ _ _ _ _ _ _ _ _ _ k) 6 (by kernel_rfl)
theorem hasS (Y:List Int) (x:Int) (h:Y.length≤1):T (fun k=>spec_l22Has.f k Y x) (·=Y.any fun y=>y == x):=by
 match Y,h with
 | [],_ =>
  refine T.succ ?_
  simp only [spec_l22Has.f,spec_l22Has.l0]
  exact T.neg (by simp) (T.ret rfl)
 | [y],_ =>
  refine T.succ (T.succ ?_)
  simp only [spec_l22Has.f,spec_l22Has.l0]
  refine T.pos (by simp) (T.pos (by omega) (T.ite (fun e=>T.ret ?_) (fun e=>?_)))
  ·have e':y=x:=e
   simp [e']
  ·have e':¬ y=x:=e
   rw [wrap_one]
   refine T.neg (by simp) (T.ret ?_)
   simp [e']
 | _ :: _ :: _,h=>exact absurd h (by simp)
def okH (s0 s1 s2 s3 s4 s5 s6 s7 s8 s9 s10 s11 s12 s13 s14 s15 s16 s17 s18 s19 s20 s21 s22 s23 s24:Int) (Y:List Int) (me:Int) (a0 a1 a2 a3 a4 a5 a6 a7 a8 a9 a10 a11 a12 a13 a14 a15 a16 a17 a18 a19 a20 a21 a22 a23:Int) (P:List S138) (L:List S140):Prop:=seekB s0 s1 s2 s3 s4 s5 s6 s7 s8 s9 s10 s11 s12 s13 s14 s15 s16 s17 s18 s19 s20 s21 s22 s23 s24 Y=true∧¬ s2=0∧wordB a0 a1 a2 a3 a4 a5 a6 a7 a8 a9 a10 a11 a12 a13 a14 a15 a16 a17 a18 a19 a20 a21 a22 a23 P L=true∧a3=s1∧a4=s0∧(0≤a1∧a1≤2)∧(0≤me∧me≤4)∧(Y.any fun y=>y == a1)=false
theorem yes1 (s0 s1 s2 s3 s4 s5 s6 s7 s8 s9 s10 s11 s12 s13 s14 s15 s16 s17 s18 s19 s20 s21 s22 s23 s24:Int) (Y:List Int) (h:seekB s0 s1 s2 s3 s4 s5 s6 s7 s8 s9 s10 s11 s12 s13 s14 s15 s16 s17 s18 s19 s20 s21 s22 s23 s24 Y=true) (h2:¬ s2=0):Y.length≤1:=by
 unfold seekB yesB at h
 rw [if_neg h2] at h
 simp only [Bool.and_eq_true,decide_eq_true_eq] at h
 exact h.2.2.2.2.1.1
theorem spec_j0t (s0 s1 s2 s3 s4 s5 s6 s7 s8 s9 s10 s11 s12 s13 s14 s15 s16 s17 s18 s19 s20 s21 s22 s23 s24:Int) (Y:List Int) (me:Int) (a0 a1 a2 a3 a4 a5 a6 a7 a8 a9 a10 a11 a12 a13 a14 a15 a16 a17 a18 a19 a20 a21 a22 a23:Int) (P:List S138) (L:List S140):T (fun k=>spec_SynHear.j0 k me ([]:List S9028) true s0 s1 s2 s3 s4 s5 s6 s7 s8 s9 s10 s11 s12 s13 s14 s15 s16 s17 s18 s19 s20 s21 s22 s23 s24 Y a0 a1 a2 a3 a4 a5 a6 a7 a8 a9 a10 a11 a12 a13 a14 a15 a16 a17 a18 a19 a20 a21 a22 a23 P L s0 s1 s2 s3 s4 s5 s6 s7 s8 s9 s10 s11 s12 s13 s14 s15 s16 s17 s18 s19 s20 s21 s22 s23 s24 Y) (·=(s0,s1,s2,s3,s4,s5,s6,s7,s8,s9,s10,s11,s12,s13,s14,s15,s16,s17,s18,s19,s20,s21,s22,s23,s24,Y,([]:List S9028),false)):=T.succ (by simp only [spec_SynHear.j0];exact T.pos trivial (T.ret rfl))
theorem impl_j0t (s0 s1 s2 s3 s4 s5 s6 s7 s8 s9 s10 s11 s12 s13 s14 s15 s16 s17 s18 s19 s20 s21 s22 s23 s24:Int) (Y:List Int) (me:Int) (a0 a1 a2 a3 a4 a5 a6 a7 a8 a9 a10 a11 a12 a13 a14 a15 a16 a17 a18 a19 a20 a21 a22 a23:Int) (P:List S138) (L:List S140):T (fun k=>impl_SynHear.j0 k me true s0 s1 s2 s3 s4 s5 s6 s7 s8 s9 s10 s11 s12 s13 s14 s15 s16 s17 s18 s19 s20 s21 s22 s23 s24 Y a0 a1 a2 a3 a4 a5 a6 a7 a8 a9 a10 a11 a12 a13 a14 a15 a16 a17 a18 a19 a20 a21 a22 a23 P L s0 s1 s2 s3 s4 s5 s6 s7 s8 s9 s10 s11 s12 s13 s14 s15 s16 s17 s18 s19 s20 s21 s22 s23 s24 Y) (·=(s0,s1,s2,s3,s4,s5,s6,s7,s8,s9,s10,s11,s12,s13,s14,s15,s16,s17,s18,s19,s20,s21,s22,s23,s24,Y,([]:List S9028),false)):=T.succ (by simp only [impl_SynHear.j0];exact T.pos trivial (T.ret rfl))
theorem spec_ref (s0 s1 s2 s3 s4 s5 s6 s7 s8 s9 s10 s11 s12 s13 s14 s15 s16 s17 s18 s19 s20 s21 s22 s23 s24:Int) (Y:List Int) (me:Int) (a0 a1 a2 a3 a4 a5 a6 a7 a8 a9 a10 a11 a12 a13 a14 a15 a16 a17 a18 a19 a20 a21 a22 a23:Int) (P:List S138) (L:List S140) (hY:Y.length≤1048576) (h:¬ okH s0 s1 s2 s3 s4 s5 s6 s7 s8 s9 s10 s11 s12 s13 s14 s15 s16 s17 s18 s19 s20 s21 s22 s23 s24 Y me a0 a1 a2 a3 a4 a5 a6 a7 a8 a9 a10 a11 a12 a13 a14 a15 a16 a17 a18 a19 a20 a21 a22 a23 P L):T (fun k=>spec_SynHear.f k s0 s1 s2 s3 s4 s5 s6 s7 s8 s9 s10 s11 s12 s13 s14 s15 s16 s17 s18 s19 s20 s21 s22 s23 s24 Y me a0 a1 a2 a3 a4 a5 a6 a7 a8 a9 a10 a11 a12 a13 a14 a15 a16 a17 a18 a19 a20 a21 a22 a23 P L) (·=(s0,s1,s2,s3,s4,s5,s6,s7,s8,s9,s10,s11,s12,s13,s14,s15,s16,s17,s18,s19,s20,s21,s22,s23,s24,Y,([]:List S9028),false)):=by
 have J:=spec_j0t s0 s1 s2 s3 s4 s5 s6 s7 s8 s9 s10 s11 s12 s13 s14 s15 s16 s17 s18 s19 s20 s21 s22 s23 s24 Y me a0 a1 a2 a3 a4 a5 a6 a7 a8 a9 a10 a11 a12 a13 a14 a15 a16 a17 a18 a19 a20 a21 a22 a23 P L
 simp only [spec_SynHear.f,spec_l22Copy.f,Option.bind_some,List.nil_append,List.length_nil,Nat.zero_add,if_pos (show Y.length<17592186044416 by omega),l6In_f]
 refine T.bind_eq (spec_seek s0 s1 s2 s3 s4 s5 s6 s7 s8 s9 s10 s11 s12 s13 s14 s15 s16 s17 s18 s19 s20 s21 s22 s23 s24 Y) (T.ite (fun h1=>T.ite (fun _=>J) (fun h2=>?_)) (fun _=>J))
 refine T.bind_eq (spec_word a0 a1 a2 a3 a4 a5 a6 a7 a8 a9 a10 a11 a12 a13 a14 a15 a16 a17 a18 a19 a20 a21 a22 a23 P L) (T.ite (fun h3=>T.ite (fun h4=>T.ite (fun h5=>T.ite (fun h6=>T.ite (fun h7=>?_) (fun _=>J)) (fun _=>J)) (fun _=>J)) (fun _=>J)) (fun _=>J))
 refine T.bind_eq (hasS Y a1 (yes1 s0 s1 s2 s3 s4 s5 s6 s7 s8 s9 s10 s11 s12 s13 s14 s15 s16 s17 s18 s19 s20 s21 s22 s23 s24 Y h1 h2)) ?_
 cases e:(Y.any fun y=>y == a1) with
 | true=>exact J
 | false=>exact absurd ⟨h1,h2,h3,h4,h5,of_decide_eq_true h6,of_decide_eq_true h7,e⟩ h
theorem none_f (s0 s1 s2 s3 s4 s5 s6 s7 s8 s9 s10 s11 s12 s13 s14 s15 s16 s17 s18 s19 s20 s21 s22 s23 s24:Int) (Y:List Int) (h:seekB s0 s1 s2 s3 s4 s5 s6 s7 s8 s9 s10 s11 s12 s13 s14 s15 s16 s17 s18 s19 s20 s21 s22 s23 s24 Y=true):impl_seekerNone.f s0 s1 s2 s3 s4 s5 s6 s7 s8 s9 s10 s11 s12 s13 s14 s15 s16 s17 s18 s19 s20 s21 s22 s23 s24 Y=some (decide (s2=0)):=by
 by_cases h2:s2=0
 ·unfold seekB at h
  rw [if_pos h2] at h
  simp only [Bool.and_eq_true,decide_eq_true_eq,beq_iff_eq] at h
  obtain ⟨e0,e1,⟨b3,b4,b5,b6,b7,b8,b9,b10,b11,b12⟩,⟨b13,b14,b15,b16,b17,b18,b19,b20,b21,b22,b23,b24⟩,eY⟩:=h
  subst e0 e1 h2 b3 b4 b5 b6 b7 b8 b9 b10 b11 b12 b13 b14 b15 b16 b17 b18 b19 b20 b21 b22 b23 b24
  simp [impl_seekerNone.f,eY]
 ·unfold impl_seekerNone.f
  rw [decide_eq_false h2]
  by_cases e0:s0=0
  ·rw [if_pos e0]
   by_cases e1:s1=0
   ·rw [if_pos e1,if_neg h2]
   ·rw [if_neg e1]
  ·rw [if_neg e0]
set_option maxHeartbeats 2000000 in
theorem impl_ref (s0 s1 s2 s3 s4 s5 s6 s7 s8 s9 s10 s11 s12 s13 s14 s15 s16 s17 s18 s19 s20 s21 s22 s23 s24:Int) (Y:List Int) (me:Int) (a0 a1 a2 a3 a4 a5 a6 a7 a8 a9 a10 a11 a12 a13 a14 a15 a16 a17 a18 a19 a20 a21 a22 a23:Int) (P:List S138) (L:List S140) (hY:Y.length≤1048576) (hP:P.length≤1048576) (hL:L.length≤1048576) (b1:-9223372036854775808≤a1∧a1≤9223372036854775807) (b2:-9223372036854775808≤a2∧a2≤9223372036854775807) (h:¬ okH s0 s1 s2 s3 s4 s5 s6 s7 s8 s9 s10 s11 s12 s13 s14 s15 s16 s17 s18 s19 s20 s21 s22 s23 s24 Y me a0 a1 a2 a3 a4 a5 a6 a7 a8 a9 a10 a11 a12 a13 a14 a15 a16 a17 a18 a19 a20 a21 a22 a23 P L):T (fun k=>impl_SynHear.f k s0 s1 s2 s3 s4 s5 s6 s7 s8 s9 s10 s11 s12 s13 s14 s15 s16 s17 s18 s19 s20 s21 s22 s23 s24 Y me a0 a1 a2 a3 a4 a5 a6 a7 a8 a9 a10 a11 a12 a13 a14 a15 a16 a17 a18 a19 a20 a21 a22 a23 P L) (·=(s0,s1,s2,s3,s4,s5,s6,s7,s8,s9,s10,s11,s12,s13,s14,s15,s16,s17,s18,s19,s20,s21,s22,s23,s24,Y,([]:List S9028),false)):=by
 have J:=impl_j0t s0 s1 s2 s3 s4 s5 s6 s7 s8 s9 s10 s11 s12 s13 s14 s15 s16 s17 s18 s19 s20 s21 s22 s23 s24 Y me a0 a1 a2 a3 a4 a5 a6 a7 a8 a9 a10 a11 a12 a13 a14 a15 a16 a17 a18 a19 a20 a21 a22 a23 P L
 simp only [impl_SynHear.f,impl_seekerCopy.f,impl_copied_int.f,if_pos (show Y.length≤35184372088832 by omega),Option.bind_some,in_f,impl_isServer.f,impl_isVoter.f]
 refine T.bind_eq (impl_seek s0 s1 s2 s3 s4 s5 s6 s7 s8 s9 s10 s11 s12 s13 s14 s15 s16 s17 s18 s19 s20 s21 s22 s23 s24 Y) (T.ite (fun h1=>?_) (fun _=>J))
 rw [none_f s0 s1 s2 s3 s4 s5 s6 s7 s8 s9 s10 s11 s12 s13 s14 s15 s16 s17 s18 s19 s20 s21 s22 s23 s24 Y h1]
 simp only [Option.bind_some]
 refine T.ite (fun _=>J) (fun h2'=>?_)
 have h2:¬ s2=0:=fun e=>h2' (decide_eq_true e)
 refine T.ite (fun h7=>T.bind_eq (impl_word a0 a1 a2 a3 a4 a5 a6 a7 a8 a9 a10 a11 a12 a13 a14 a15 a16 a17 a18 a19 a20 a21 a22 a23 P L hP hL b1 b2) (T.ite (fun h3=>T.ite (fun h6=>T.ite (fun h4=>T.ite (fun h5=>?_) (fun _=>J)) (fun _=>J)) (fun _=>J)) (fun _=>J))) (fun _=>J)
 have hl:=yes1 s0 s1 s2 s3 s4 s5 s6 s7 s8 s9 s10 s11 s12 s13 s14 s15 s16 s17 s18 s19 s20 s21 s22 s23 s24 Y h1 h2
 have no:(Y.any fun y=>y == a1)=true:=by
  cases e:(Y.any fun y=>y == a1) with
  | true=>rfl
  | false=>exact absurd ⟨h1,h2,h3,h4,h5,of_decide_eq_true h6,of_decide_eq_true h7,e⟩ h
 clear J
 rcases Y with _|⟨y,_|⟨y2,Y2⟩⟩
 ·exact absurd no (by simp)
 ·have e:y=a1:=by simpa using no
  refine T.pos (by simp) (T.pos (by simp) ?_)
  rw [show (rd [y] 0 == a1)=true by rw [show rd [y] 0=y from rfl,e];simp]
  exact impl_j0t s0 s1 s2 s3 s4 s5 s6 s7 s8 s9 s10 s11 s12 s13 s14 s15 s16 s17 s18 s19 s20 s21 s22 s23 s24 [y] me a0 a1 a2 a3 a4 a5 a6 a7 a8 a9 a10 a11 a12 a13 a14 a15 a16 a17 a18 a19 a20 a21 a22 a23 P L
 ·exact absurd hl (by simp)
theorem spec_j2_0 (s0 s1 s2 s3 s4 s5 s6 s7 s8 s9 s10 s11 s12 s13 s14 s15 s16 s17 s18 s19 s20 s21 s22 s23 s24:Int) (Y:List Int) (me:Int) (a0 a1 a2 a3 a4 a5 a6 a7 a8 a9 a10 a11 a12 a13 a14 a15 a16 a17 a18 a19 a20 a21 a22 a23:Int) (P:List S138) (L:List S140) (o0 o1 o2 o3 o4 o5 o6 o7 o8 o9 o10 o11 o12 o13 o14 o15 o16 o17 o18 o19 o20 o21 o22 o23 o24:Int):T (fun k=>spec_SynHear.j2 k me ([]:List S9028) s0 s1 s2 s3 s4 s5 s6 s7 s8 s9 s10 s11 s12 s13 s14 s15 s16 s17 s18 s19 s20 s21 s22 s23 s24 Y a0 a1 a2 a3 a4 a5 a6 a7 a8 a9 a10 a11 a12 a13 a14 a15 a16 a17 a18 a19 a20 a21 a22 a23 P L o0 o1 o2 o3 o4 o5 o6 o7 o8 o9 o10 o11 o12 o13 o14 o15 o16 o17 o18 o19 o20 o21 o22 o23 o24 []) (·=(o0,o1,o2,o3,o4,o5,o6,o7,o8,o9,o10,o11,o12,o13,o14,o15,o16,o17,o18,o19,o20,o21,o22,o23,o24,[a1],([]:List S9028),false)):=by
 refine T.succ ?_
 simp only [spec_SynHear.j2,Option.bind_some,List.nil_append]
 exact T.pos (by simp) (T.pos (by simp) (T.ret rfl))
theorem spec_j2_b (s0 s1 s2 s3 s4 s5 s6 s7 s8 s9 s10 s11 s12 s13 s14 s15 s16 s17 s18 s19 s20 s21 s22 s23 s24:Int) (Y:List Int) (me:Int) (a0 a1 a2 a3 a4 a5 a6 a7 a8 a9 a10 a11 a12 a13 a14 a15 a16 a17 a18 a19 a20 a21 a22 a23:Int) (P:List S138) (L:List S140) (o0 o1 o2 o3 o4 o5 o6 o7 o8 o9 o10 o11 o12 o13 o14 o15 o16 o17 o18 o19 o20 o21 o22 o23 o24 y:Int) (h:o14 > 0):T (fun k=>spec_SynHear.j2 k me ([]:List S9028) s0 s1 s2 s3 s4 s5 s6 s7 s8 s9 s10 s11 s12 s13 s14 s15 s16 s17 s18 s19 s20 s21 s22 s23 s24 Y a0 a1 a2 a3 a4 a5 a6 a7 a8 a9 a10 a11 a12 a13 a14 a15 a16 a17 a18 a19 a20 a21 a22 a23 P L o0 o1 o2 o3 o4 o5 o6 o7 o8 o9 o10 o11 o12 o13 o14 o15 o16 o17 o18 o19 o20 o21 o22 o23 o24 [y]) (·=(o0,o1,2,o3,o4,o5,o6,o7,o8,o9,o10,o11,o12,o13,o14,o15,o16,o17,o18,o19,o20,o21,o22,o23,o24,([]:List Int),[(⟨3,me,0,s1,s0,0,(⟨o15,o16,o17,o18,o19,o20,o21,o22,o23,o24⟩:S24),0,0,0,0,0,0,0,0,(),()⟩:S9028),(⟨3,me,1,s1,s0,0,(⟨o15,o16,o17,o18,o19,o20,o21,o22,o23,o24⟩:S24),0,0,0,0,0,0,0,0,(),()⟩:S9028),(⟨3,me,2,s1,s0,0,(⟨o15,o16,o17,o18,o19,o20,o21,o22,o23,o24⟩:S24),0,0,0,0,0,0,0,0,(),()⟩:S9028)],false)):=by
 refine T.succ ?_
 simp only [spec_SynHear.j2,Option.bind_some,List.cons_append,List.nil_append,spec_l22Value.f,if_pos h]
 exact T.pos (by simp) (T.neg (by simp) (T.bind_eq (allS me s1 s0 o15 o16 o17 o18 o19 o20 o21 o22 o23 o24) (T.ret rfl)))
theorem spec_j2_m (s0 s1 s2 s3 s4 s5 s6 s7 s8 s9 s10 s11 s12 s13 s14 s15 s16 s17 s18 s19 s20 s21 s22 s23 s24:Int) (Y:List Int) (me:Int) (a0 a1 a2 a3 a4 a5 a6 a7 a8 a9 a10 a11 a12 a13 a14 a15 a16 a17 a18 a19 a20 a21 a22 a23:Int) (P:List S138) (L:List S140) (o0 o1 o2 o3 o4 o5 o6 o7 o8 o9 o10 o11 o12 o13 o14 o15 o16 o17 o18 o19 o20 o21 o22 o23 o24 y:Int) (h:¬ o14 > 0):T (fun k=>spec_SynHear.j2 k me ([]:List S9028) s0 s1 s2 s3 s4 s5 s6 s7 s8 s9 s10 s11 s12 s13 s14 s15 s16 s17 s18 s19 s20 s21 s22 s23 s24 Y a0 a1 a2 a3 a4 a5 a6 a7 a8 a9 a10 a11 a12 a13 a14 a15 a16 a17 a18 a19 a20 a21 a22 a23 P L o0 o1 o2 o3 o4 o5 o6 o7 o8 o9 o10 o11 o12 o13 o14 o15 o16 o17 o18 o19 o20 o21 o22 o23 o24 [y]) (·=(o0,o1,2,o3,o4,o5,o6,o7,o8,o9,o10,o11,o12,o13,o14,o15,o16,o17,o18,o19,o20,o21,o22,o23,o24,([]:List Int),[(⟨3,me,0,s1,s0,0,(⟨o3,o4,o5,o6,o7,o8,o9,o10,o11,o12⟩:S24),0,0,0,0,0,0,0,0,(),()⟩:S9028),(⟨3,me,1,s1,s0,0,(⟨o3,o4,o5,o6,o7,o8,o9,o10,o11,o12⟩:S24),0,0,0,0,0,0,0,0,(),()⟩:S9028),(⟨3,me,2,s1,s0,0,(⟨o3,o4,o5,o6,o7,o8,o9,o10,o11,o12⟩:S24),0,0,0,0,0,0,0,0,(),()⟩:S9028)],false)):=by
 refine T.succ ?_
 simp only [spec_SynHear.j2,Option.bind_some,List.cons_append,List.nil_append,spec_l22Value.f,if_neg h]
 exact T.pos (by simp) (T.neg (by simp) (T.bind_eq (allS me s1 s0 o3 o4 o5 o6 o7 o8 o9 o10 o11 o12) (T.ret rfl)))
theorem impl_j2_0 (s0 s1 s2 s3 s4 s5 s6 s7 s8 s9 s10 s11 s12 s13 s14 s15 s16 s17 s18 s19 s20 s21 s22 s23 s24:Int) (Y:List Int) (me:Int) (a0 a1 a2 a3 a4 a5 a6 a7 a8 a9 a10 a11 a12 a13 a14 a15 a16 a17 a18 a19 a20 a21 a22 a23:Int) (P:List S138) (L:List S140) (o0 o1 o2 o3 o4 o5 o6 o7 o8 o9 o10 o11 o12 o13 o14 o15 o16 o17 o18 o19 o20 o21 o22 o23 o24:Int):T (fun k=>impl_SynHear.j2 k me s0 s1 s2 s3 s4 s5 s6 s7 s8 s9 s10 s11 s12 s13 s14 s15 s16 s17 s18 s19 s20 s21 s22 s23 s24 Y a0 a1 a2 a3 a4 a5 a6 a7 a8 a9 a10 a11 a12 a13 a14 a15 a16 a17 a18 a19 a20 a21 a22 a23 P L o0 o1 o2 o3 o4 o5 o6 o7 o8 o9 o10 o11 o12 o13 o14 o15 o16 o17 o18 o19 o20 o21 o22 o23 o24 []) (·=(o0,o1,o2,o3,o4,o5,o6,o7,o8,o9,o10,o11,o12,o13,o14,o15,o16,o17,o18,o19,o20,o21,o22,o23,o24,[a1],([]:List S9028),false)):=by
 refine T.succ ?_
 simp only [impl_SynHear.j2,Option.bind_some,List.nil_append]
 exact T.pos (by simp) (T.pos (by simp) (T.ret rfl))
theorem impl_j2_b (s0 s1 s2 s3 s4 s5 s6 s7 s8 s9 s10 s11 s12 s13 s14 s15 s16 s17 s18 s19 s20 s21 s22 s23 s24:Int) (Y:List Int) (me:Int) (a0 a1 a2 a3 a4 a5 a6 a7 a8 a9 a10 a11 a12 a13 a14 a15 a16 a17 a18 a19 a20 a21 a22 a23:Int) (P:List S138) (L:List S140) (o0 o1 o2 o3 o4 o5 o6 o7 o8 o9 o10 o11 o12 o13 o14 o15 o16 o17 o18 o19 o20 o21 o22 o23 o24 y:Int) (h:((o13 == 0 && (o14 == 0 && (o15 == 0 && (o16 == 0 && (o17 == 0 && (o18 == 0 && (o19 == 0 && (o20 == 0 && (o21 == 0 && (o22 == 0 && (o23 == 0 && (o24 == 0))))))))))))=false)):T (fun k=>impl_SynHear.j2 k me s0 s1 s2 s3 s4 s5 s6 s7 s8 s9 s10 s11 s12 s13 s14 s15 s16 s17 s18 s19 s20 s21 s22 s23 s24 Y a0 a1 a2 a3 a4 a5 a6 a7 a8 a9 a10 a11 a12 a13 a14 a15 a16 a17 a18 a19 a20 a21 a22 a23 P L o0 o1 o2 o3 o4 o5 o6 o7 o8 o9 o10 o11 o12 o13 o14 o15 o16 o17 o18 o19 o20 o21 o22 o23 o24 [y]) (·=(o0,o1,2,o3,o4,o5,o6,o7,o8,o9,o10,o11,o12,o13,o14,o15,o16,o17,o18,o19,o20,o21,o22,o23,o24,([]:List Int),[(⟨3,me,0,s1,s0,0,(⟨o15,o16,o17,o18,o19,o20,o21,o22,o23,o24⟩:S24),0,0,0,0,0,0,0,0,(),()⟩:S9028),(⟨3,me,1,s1,s0,0,(⟨o15,o16,o17,o18,o19,o20,o21,o22,o23,o24⟩:S24),0,0,0,0,0,0,0,0,(),()⟩:S9028),(⟨3,me,2,s1,s0,0,(⟨o15,o16,o17,o18,o19,o20,o21,o22,o23,o24⟩:S24),0,0,0,0,0,0,0,0,(),()⟩:S9028)],false)):=by
 refine T.succ ?_
 simp only [impl_SynHear.j2,Option.bind_some,List.cons_append,List.nil_append,impl_sought.f,h,Bool.false_eq_true,if_false]
 exact T.pos (by simp) (T.neg (by simp) (T.bind_eq (allI me s1 s0 o15 o16 o17 o18 o19 o20 o21 o22 o23 o24) (T.ret rfl)))
theorem impl_j2_m (s0 s1 s2 s3 s4 s5 s6 s7 s8 s9 s10 s11 s12 s13 s14 s15 s16 s17 s18 s19 s20 s21 s22 s23 s24:Int) (Y:List Int) (me:Int) (a0 a1 a2 a3 a4 a5 a6 a7 a8 a9 a10 a11 a12 a13 a14 a15 a16 a17 a18 a19 a20 a21 a22 a23:Int) (P:List S138) (L:List S140) (o0 o1 o2 o3 o4 o5 o6 o7 o8 o9 o10 o11 o12 o13 o14 o15 o16 o17 o18 o19 o20 o21 o22 o23 o24 y:Int) (h:((o13 == 0 && (o14 == 0 && (o15 == 0 && (o16 == 0 && (o17 == 0 && (o18 == 0 && (o19 == 0 && (o20 == 0 && (o21 == 0 && (o22 == 0 && (o23 == 0 && (o24 == 0))))))))))))=true)):T (fun k=>impl_SynHear.j2 k me s0 s1 s2 s3 s4 s5 s6 s7 s8 s9 s10 s11 s12 s13 s14 s15 s16 s17 s18 s19 s20 s21 s22 s23 s24 Y a0 a1 a2 a3 a4 a5 a6 a7 a8 a9 a10 a11 a12 a13 a14 a15 a16 a17 a18 a19 a20 a21 a22 a23 P L o0 o1 o2 o3 o4 o5 o6 o7 o8 o9 o10 o11 o12 o13 o14 o15 o16 o17 o18 o19 o20 o21 o22 o23 o24 [y]) (·=(o0,o1,2,o3,o4,o5,o6,o7,o8,o9,o10,o11,o12,o13,o14,o15,o16,o17,o18,o19,o20,o21,o22,o23,o24,([]:List Int),[(⟨3,me,0,s1,s0,0,(⟨o3,o4,o5,o6,o7,o8,o9,o10,o11,o12⟩:S24),0,0,0,0,0,0,0,0,(),()⟩:S9028),(⟨3,me,1,s1,s0,0,(⟨o3,o4,o5,o6,o7,o8,o9,o10,o11,o12⟩:S24),0,0,0,0,0,0,0,0,(),()⟩:S9028),(⟨3,me,2,s1,s0,0,(⟨o3,o4,o5,o6,o7,o8,o9,o10,o11,o12⟩:S24),0,0,0,0,0,0,0,0,(),()⟩:S9028)],false)):=by
 refine T.succ ?_
 simp only [impl_SynHear.j2,Option.bind_some,List.cons_append,List.nil_append,impl_sought.f,h,if_true]
 exact T.pos (by simp) (T.neg (by simp) (T.bind_eq (allI me s1 s0 o3 o4 o5 o6 o7 o8 o9 o10 o11 o12) (T.ret rfl)))
theorem spec_took (s0 s1 s2 s3 s4 s5 s6 s7 s8 s9 s10 s11 s12 s13 s14 s15 s16 s17 s18 s19 s20 s21 s22 s23 s24:Int) (Y:List Int) (me:Int) (a0 a1 a2 a3 a4 a5 a6 a7 a8 a9 a10 a11 a12 a13 a14 a15 a16 a17 a18 a19 a20 a21 a22 a23:Int) (P:List S138) (L:List S140) {Q:Int × Int × Int × Int × Int × Int × Int × Int × Int × Int × Int × Int × Int × Int × Int × Int × Int × Int × Int × Int × Int × Int × Int × Int × Int × List Int × List S9028 × Bool→Prop} (hY:Y.length≤1048576) (h:okH s0 s1 s2 s3 s4 s5 s6 s7 s8 s9 s10 s11 s12 s13 s14 s15 s16 s17 s18 s19 s20 s21 s22 s23 s24 Y me a0 a1 a2 a3 a4 a5 a6 a7 a8 a9 a10 a11 a12 a13 a14 a15 a16 a17 a18 a19 a20 a21 a22 a23 P L) (J:T (fun k=>spec_SynHear.j0 k me ([]:List S9028) false s0 s1 s2 s3 s4 s5 s6 s7 s8 s9 s10 s11 s12 s13 s14 s15 s16 s17 s18 s19 s20 s21 s22 s23 s24 Y a0 a1 a2 a3 a4 a5 a6 a7 a8 a9 a10 a11 a12 a13 a14 a15 a16 a17 a18 a19 a20 a21 a22 a23 P L s0 s1 s2 s3 s4 s5 s6 s7 s8 s9 s10 s11 s12 s13 s14 s15 s16 s17 s18 s19 s20 s21 s22 s23 s24 Y) Q):T (fun k=>spec_SynHear.f k s0 s1 s2 s3 s4 s5 s6 s7 s8 s9 s10 s11 s12 s13 s14 s15 s16 s17 s18 s19 s20 s21 s22 s23 s24 Y me a0 a1 a2 a3 a4 a5 a6 a7 a8 a9 a10 a11 a12 a13 a14 a15 a16 a17 a18 a19 a20 a21 a22 a23 P L) Q:=by
 obtain ⟨h1,h2,h3,h4,h5,h6,h7,h8⟩:=h
 simp only [spec_SynHear.f,spec_l22Copy.f,Option.bind_some,List.nil_append,List.length_nil,Nat.zero_add,if_pos (show Y.length<17592186044416 by omega),l6In_f]
 refine T.bind_eq (spec_seek s0 s1 s2 s3 s4 s5 s6 s7 s8 s9 s10 s11 s12 s13 s14 s15 s16 s17 s18 s19 s20 s21 s22 s23 s24 Y) (T.pos h1 (T.neg h2 (T.bind_eq (spec_word a0 a1 a2 a3 a4 a5 a6 a7 a8 a9 a10 a11 a12 a13 a14 a15 a16 a17 a18 a19 a20 a21 a22 a23 P L) (T.pos h3 (T.pos h4 (T.pos h5 (T.pos (decide_eq_true h6) (T.pos (decide_eq_true h7) (T.bind_eq (hasS Y a1 (yes1 s0 s1 s2 s3 s4 s5 s6 s7 s8 s9 s10 s11 s12 s13 s14 s15 s16 s17 s18 s19 s20 s21 s22 s23 s24 Y h1 h2)) ?_)))))))))
 rw [h8]
 exact J
set_option maxHeartbeats 2000000 in
theorem impl_took (s0 s1 s2 s3 s4 s5 s6 s7 s8 s9 s10 s11 s12 s13 s14 s15 s16 s17 s18 s19 s20 s21 s22 s23 s24:Int) (Y:List Int) (me:Int) (a0 a1 a2 a3 a4 a5 a6 a7 a8 a9 a10 a11 a12 a13 a14 a15 a16 a17 a18 a19 a20 a21 a22 a23:Int) (P:List S138) (L:List S140) {Q:Int × Int × Int × Int × Int × Int × Int × Int × Int × Int × Int × Int × Int × Int × Int × Int × Int × Int × Int × Int × Int × Int × Int × Int × Int × List Int × List S9028 × Bool→Prop} (hY:Y.length≤1048576) (hP:P.length≤1048576) (hL:L.length≤1048576) (b1:-9223372036854775808≤a1∧a1≤9223372036854775807) (b2:-9223372036854775808≤a2∧a2≤9223372036854775807) (h:okH s0 s1 s2 s3 s4 s5 s6 s7 s8 s9 s10 s11 s12 s13 s14 s15 s16 s17 s18 s19 s20 s21 s22 s23 s24 Y me a0 a1 a2 a3 a4 a5 a6 a7 a8 a9 a10 a11 a12 a13 a14 a15 a16 a17 a18 a19 a20 a21 a22 a23 P L) (J:T (fun k=>impl_SynHear.j0 k me false s0 s1 s2 s3 s4 s5 s6 s7 s8 s9 s10 s11 s12 s13 s14 s15 s16 s17 s18 s19 s20 s21 s22 s23 s24 Y a0 a1 a2 a3 a4 a5 a6 a7 a8 a9 a10 a11 a12 a13 a14 a15 a16 a17 a18 a19 a20 a21 a22 a23 P L s0 s1 s2 s3 s4 s5 s6 s7 s8 s9 s10 s11 s12 s13 s14 s15 s16 s17 s18 s19 s20 s21 s22 s23 s24 Y) Q):T (fun k=>impl_SynHear.f k s0 s1 s2 s3 s4 s5 s6 s7 s8 s9 s10 s11 s12 s13 s14 s15 s16 s17 s18 s19 s20 s21 s22 s23 s24 Y me a0 a1 a2 a3 a4 a5 a6 a7 a8 a9 a10 a11 a12 a13 a14 a15 a16 a17 a18 a19 a20 a21 a22 a23 P L) Q:=by
 obtain ⟨h1,h2,h3,h4,h5,h6,h7,h8⟩:=h
 simp only [impl_SynHear.f,impl_seekerCopy.f,impl_copied_int.f,if_pos (show Y.length≤35184372088832 by omega),Option.bind_some,in_f,impl_isServer.f,impl_isVoter.f]
 refine T.bind_eq (impl_seek s0 s1 s2 s3 s4 s5 s6 s7 s8 s9 s10 s11 s12 s13 s14 s15 s16 s17 s18 s19 s20 s21 s22 s23 s24 Y) (T.pos h1 ?_)
 rw [none_f s0 s1 s2 s3 s4 s5 s6 s7 s8 s9 s10 s11 s12 s13 s14 s15 s16 s17 s18 s19 s20 s21 s22 s23 s24 Y h1]
 simp only [Option.bind_some]
 refine T.neg (by simpa using h2) (T.pos (decide_eq_true h7) (T.bind_eq (impl_word a0 a1 a2 a3 a4 a5 a6 a7 a8 a9 a10 a11 a12 a13 a14 a15 a16 a17 a18 a19 a20 a21 a22 a23 P L hP hL b1 b2) (T.pos h3 (T.pos (decide_eq_true h6) (T.pos h4 (T.pos h5 ?_))))))
 have hl:=yes1 s0 s1 s2 s3 s4 s5 s6 s7 s8 s9 s10 s11 s12 s13 s14 s15 s16 s17 s18 s19 s20 s21 s22 s23 s24 Y h1 h2
 rcases Y with _|⟨y,_|⟨y2,Y2⟩⟩
 ·exact T.neg (by simp) J
 ·refine T.pos (by simp) (T.pos (by simp) ?_)
  have e:(rd [y] 0 == a1)=false:=by
   rw [show rd [y] 0=y from rfl]
   simpa using h8
  rw [e]
  exact J
 ·exact absurd hl (by simp)
theorem best_f (s0 s1 s2 s3 s4 s5 s6 s7 s8 s9 s10 s11 s12 s13 s14 s15 s16 s17 s18 s19 s20 s21 s22 s23 s24:Int) (Y:List Int) (h:seekB s0 s1 s2 s3 s4 s5 s6 s7 s8 s9 s10 s11 s12 s13 s14 s15 s16 s17 s18 s19 s20 s21 s22 s23 s24 Y=true) (h2:¬ s2=0):(((s13 == 0 && (s14 == 0 && (s15 == 0 && (s16 == 0 && (s17 == 0 && (s18 == 0 && (s19 == 0 && (s20 == 0 && (s21 == 0 && (s22 == 0 && (s23 == 0 && (s24 == 0))))))))))))=true)∧¬ s14 > 0∧0≤s14) ∨ (((s13 == 0 && (s14 == 0 && (s15 == 0 && (s16 == 0 && (s17 == 0 && (s18 == 0 && (s19 == 0 && (s20 == 0 && (s21 == 0 && (s22 == 0 && (s23 == 0 && (s24 == 0))))))))))))=false)∧s14 > 0):=by
 unfold seekB at h
 rw [if_neg h2] at h
 simp only [Bool.and_eq_true] at h
 have hb:=h.2.2.2.2.2
 unfold bestB at hb
 rw [Bool.or_eq_true] at hb
 rcases hb with hb|hb
 ·left
  refine ⟨hb,?_⟩
  simp only [Bool.and_eq_true,beq_iff_eq] at hb
  have:=hb.2.1
  omega
 ·right
  unfold paperB at hb
  simp only [Bool.and_eq_true,decide_eq_true_eq] at hb
  have h14:1≤s14:=hb.1.2.1.1
  refine ⟨?_,by omega⟩
  rw [show (s14 == 0)=false from beq_eq_false_iff_ne.2 (by omega),Bool.false_and,Bool.and_false]
def Good (r:Int × Int × Int × Int × Int × Int × Int × Int × Int × Int × Int × Int × Int × Int × Int × Int × Int × Int × Int × Int × Int × Int × Int × Int × Int × List Int × List S9028 × Bool):Prop:=r.2.2.2.2.2.2.2.2.2.2.2.2.2.2.2.2.2.2.2.2.2.2.2.2.2.1.length≤1048576∧(r.2.2.2.2.2.2.2.2.2.2.2.2.2.2.2.2.2.2.2.2.2.2.2.2.2.2.1=[] ∨ ∃ x y z,r.2.2.2.2.2.2.2.2.2.2.2.2.2.2.2.2.2.2.2.2.2.2.2.2.2.2.1=[x,y,z])
set_option maxHeartbeats 4000000 in
theorem hear_both (s0 s1 s2 s3 s4 s5 s6 s7 s8 s9 s10 s11 s12 s13 s14 s15 s16 s17 s18 s19 s20 s21 s22 s23 s24:Int) (Y:List Int) (me:Int) (a0 a1 a2 a3 a4 a5 a6 a7 a8 a9 a10 a11 a12 a13 a14 a15 a16 a17 a18 a19 a20 a21 a22 a23:Int) (P:List S138) (L:List S140) (hY:Y.length≤1048576) (hP:P.length≤1048576) (hL:L.length≤1048576) (b1:-9223372036854775808≤a1∧a1≤9223372036854775807) (b2:-9223372036854775808≤a2∧a2≤9223372036854775807) :
  ∃ r,Good r∧T (fun k=>spec_SynHear.f k s0 s1 s2 s3 s4 s5 s6 s7 s8 s9 s10 s11 s12 s13 s14 s15 s16 s17 s18 s19 s20 s21 s22 s23 s24 Y me a0 a1 a2 a3 a4 a5 a6 a7 a8 a9 a10 a11 a12 a13 a14 a15 a16 a17 a18 a19 a20 a21 a22 a23 P L) (·=r)∧T (fun k=>impl_SynHear.f k s0 s1 s2 s3 s4 s5 s6 s7 s8 s9 s10 s11 s12 s13 s14 s15 s16 s17 s18 s19 s20 s21 s22 s23 s24 Y me a0 a1 a2 a3 a4 a5 a6 a7 a8 a9 a10 a11 a12 a13 a14 a15 a16 a17 a18 a19 a20 a21 a22 a23 P L) (·=r):=by
 by_cases h:okH s0 s1 s2 s3 s4 s5 s6 s7 s8 s9 s10 s11 s12 s13 s14 s15 s16 s17 s18 s19 s20 s21 s22 s23 s24 Y me a0 a1 a2 a3 a4 a5 a6 a7 a8 a9 a10 a11 a12 a13 a14 a15 a16 a17 a18 a19 a20 a21 a22 a23 P L
 ·have hs:=h.1
  have h2:=h.2.1
  have hl:=yes1 s0 s1 s2 s3 s4 s5 s6 s7 s8 s9 s10 s11 s12 s13 s14 s15 s16 s17 s18 s19 s20 s21 s22 s23 s24 Y hs h2
  have hb:=best_f s0 s1 s2 s3 s4 s5 s6 s7 s8 s9 s10 s11 s12 s13 s14 s15 s16 s17 s18 s19 s20 s21 s22 s23 s24 Y hs h2
  by_cases hA:s2=1∧a0=2∧a5<s1
  ·obtain ⟨e1,e2,e3⟩:=hA
   have key:∀ (o0 o1 o2 o3 o4 o5 o6 o7 o8 o9 o10 o11 o12 o13 o14 o15 o16 o17 o18 o19 o20 o21 o22 o23 o24:Int),((o14 > 0∧((o13 == 0 && (o14 == 0 && (o15 == 0 && (o16 == 0 && (o17 == 0 && (o18 == 0 && (o19 == 0 && (o20 == 0 && (o21 == 0 && (o22 == 0 && (o23 == 0 && (o24 == 0))))))))))))=false)) ∨ (¬ o14 > 0∧((o13 == 0 && (o14 == 0 && (o15 == 0 && (o16 == 0 && (o17 == 0 && (o18 == 0 && (o19 == 0 && (o20 == 0 && (o21 == 0 && (o22 == 0 && (o23 == 0 && (o24 == 0))))))))))))=true)))→∃ r,Good r∧T (fun k=>spec_SynHear.j2 k me ([]:List S9028) s0 s1 s2 s3 s4 s5 s6 s7 s8 s9 s10 s11 s12 s13 s14 s15 s16 s17 s18 s19 s20 s21 s22 s23 s24 Y a0 a1 a2 a3 a4 a5 a6 a7 a8 a9 a10 a11 a12 a13 a14 a15 a16 a17 a18 a19 a20 a21 a22 a23 P L o0 o1 o2 o3 o4 o5 o6 o7 o8 o9 o10 o11 o12 o13 o14 o15 o16 o17 o18 o19 o20 o21 o22 o23 o24 Y) (·=r)∧T (fun k=>impl_SynHear.j2 k me s0 s1 s2 s3 s4 s5 s6 s7 s8 s9 s10 s11 s12 s13 s14 s15 s16 s17 s18 s19 s20 s21 s22 s23 s24 Y a0 a1 a2 a3 a4 a5 a6 a7 a8 a9 a10 a11 a12 a13 a14 a15 a16 a17 a18 a19 a20 a21 a22 a23 P L o0 o1 o2 o3 o4 o5 o6 o7 o8 o9 o10 o11 o12 o13 o14 o15 o16 o17 o18 o19 o20 o21 o22 o23 o24 Y) (·=r):=by
    intro o0 o1 o2 o3 o4 o5 o6 o7 o8 o9 o10 o11 o12 o13 o14 o15 o16 o17 o18 o19 o20 o21 o22 o23 o24 hz
    rcases Y with _|⟨y,_|⟨y2,Y2⟩⟩
    ·exact ⟨_,⟨by simp,.inl rfl⟩,spec_j2_0 s0 s1 s2 s3 s4 s5 s6 s7 s8 s9 s10 s11 s12 s13 s14 s15 s16 s17 s18 s19 s20 s21 s22 s23 s24 [] me a0 a1 a2 a3 a4 a5 a6 a7 a8 a9 a10 a11 a12 a13 a14 a15 a16 a17 a18 a19 a20 a21 a22 a23 P L o0 o1 o2 o3 o4 o5 o6 o7 o8 o9 o10 o11 o12 o13 o14 o15 o16 o17 o18 o19 o20 o21 o22 o23 o24,impl_j2_0 s0 s1 s2 s3 s4 s5 s6 s7 s8 s9 s10 s11 s12 s13 s14 s15 s16 s17 s18 s19 s20 s21 s22 s23 s24 [] me a0 a1 a2 a3 a4 a5 a6 a7 a8 a9 a10 a11 a12 a13 a14 a15 a16 a17 a18 a19 a20 a21 a22 a23 P L o0 o1 o2 o3 o4 o5 o6 o7 o8 o9 o10 o11 o12 o13 o14 o15 o16 o17 o18 o19 o20 o21 o22 o23 o24⟩
    ·rcases hz with ⟨z1,z2⟩|⟨z1,z2⟩
     ·exact ⟨_,⟨by simp,.inr ⟨_,_,_,rfl⟩⟩,spec_j2_b s0 s1 s2 s3 s4 s5 s6 s7 s8 s9 s10 s11 s12 s13 s14 s15 s16 s17 s18 s19 s20 s21 s22 s23 s24 [y] me a0 a1 a2 a3 a4 a5 a6 a7 a8 a9 a10 a11 a12 a13 a14 a15 a16 a17 a18 a19 a20 a21 a22 a23 P L o0 o1 o2 o3 o4 o5 o6 o7 o8 o9 o10 o11 o12 o13 o14 o15 o16 o17 o18 o19 o20 o21 o22 o23 o24 y z1,impl_j2_b s0 s1 s2 s3 s4 s5 s6 s7 s8 s9 s10 s11 s12 s13 s14 s15 s16 s17 s18 s19 s20 s21 s22 s23 s24 [y] me a0 a1 a2 a3 a4 a5 a6 a7 a8 a9 a10 a11 a12 a13 a14 a15 a16 a17 a18 a19 a20 a21 a22 a23 P L o0 o1 o2 o3 o4 o5 o6 o7 o8 o9 o10 o11 o12 o13 o14 o15 o16 o17 o18 o19 o20 o21 o22 o23 o24 y z2⟩
     ·exact ⟨_,⟨by simp,.inr ⟨_,_,_,rfl⟩⟩,spec_j2_m s0 s1 s2 s3 s4 s5 s6 s7 s8 s9 s10 s11 s12 s13 s14 s15 s16 s17 s18 s19 s20 s21 s22 s23 s24 [y] me a0 a1 a2 a3 a4 a5 a6 a7 a8 a9 a10 a11 a12 a13 a14 a15 a16 a17 a18 a19 a20 a21 a22 a23 P L o0 o1 o2 o3 o4 o5 o6 o7 o8 o9 o10 o11 o12 o13 o14 o15 o16 o17 o18 o19 o20 o21 o22 o23 o24 y z1,impl_j2_m s0 s1 s2 s3 s4 s5 s6 s7 s8 s9 s10 s11 s12 s13 s14 s15 s16 s17 s18 s19 s20 s21 s22 s23 s24 [y] me a0 a1 a2 a3 a4 a5 a6 a7 a8 a9 a10 a11 a12 a13 a14 a15 a16 a17 a18 a19 a20 a21 a22 a23 P L o0 o1 o2 o3 o4 o5 o6 o7 o8 o9 o10 o11 o12 o13 o14 o15 o16 o17 o18 o19 o20 o21 o22 o23 o24 y z2⟩
    ·exact absurd hl (by simp)
   have done:∃ r,Good r∧T (fun k=>spec_SynHear.j1 k me ([]:List S9028) true s0 s1 s2 s3 s4 s5 s6 s7 s8 s9 s10 s11 s12 s13 s14 s15 s16 s17 s18 s19 s20 s21 s22 s23 s24 Y a0 a1 a2 a3 a4 a5 a6 a7 a8 a9 a10 a11 a12 a13 a14 a15 a16 a17 a18 a19 a20 a21 a22 a23 P L s0 s1 s2 s3 s4 s5 s6 s7 s8 s9 s10 s11 s12 s13 s14 s15 s16 s17 s18 s19 s20 s21 s22 s23 s24 Y) (·=r)∧T (fun k=>impl_SynHear.j1 k me true s0 s1 s2 s3 s4 s5 s6 s7 s8 s9 s10 s11 s12 s13 s14 s15 s16 s17 s18 s19 s20 s21 s22 s23 s24 Y a0 a1 a2 a3 a4 a5 a6 a7 a8 a9 a10 a11 a12 a13 a14 a15 a16 a17 a18 a19 a20 a21 a22 a23 P L s0 s1 s2 s3 s4 s5 s6 s7 s8 s9 s10 s11 s12 s13 s14 s15 s16 s17 s18 s19 s20 s21 s22 s23 s24 Y) (·=r):=by
    by_cases hg:a5 > s14
    ·have z:(a5 > 0∧((s0 == 0 && (a5 == 0 && (a6 == 0 && (a7 == 0 && (a8 == 0 && (a9 == 0 && (a10 == 0 && (a11 == 0 && (a12 == 0 && (a13 == 0 && (a14 == 0 && (a15 == 0))))))))))))=false)) ∨ (¬ a5 > 0∧((s0 == 0 && (a5 == 0 && (a6 == 0 && (a7 == 0 && (a8 == 0 && (a9 == 0 && (a10 == 0 && (a11 == 0 && (a12 == 0 && (a13 == 0 && (a14 == 0 && (a15 == 0))))))))))))=true)):=by
      left
      have hp:0<a5:=by rcases hb with hb|hb<;>omega
      exact ⟨hp,by rw [show (a5 == 0)=false from beq_eq_false_iff_ne.2 (by omega),Bool.false_and,Bool.and_false]⟩
     obtain ⟨r,hr,t1,t2⟩:=key s0 s1 s2 s3 s4 s5 s6 s7 s8 s9 s10 s11 s12 s0 a5 a6 a7 a8 a9 a10 a11 a12 a13 a14 a15 z
     exact ⟨r,hr,T.succ (by simp only [spec_SynHear.j1];exact T.pos trivial (T.pos hg t1)),T.succ (by simp only [impl_SynHear.j1];exact T.pos trivial (T.pos hg t2))⟩
    ·have z:(s14 > 0∧((s13 == 0 && (s14 == 0 && (s15 == 0 && (s16 == 0 && (s17 == 0 && (s18 == 0 && (s19 == 0 && (s20 == 0 && (s21 == 0 && (s22 == 0 && (s23 == 0 && (s24 == 0))))))))))))=false)) ∨ (¬ s14 > 0∧((s13 == 0 && (s14 == 0 && (s15 == 0 && (s16 == 0 && (s17 == 0 && (s18 == 0 && (s19 == 0 && (s20 == 0 && (s21 == 0 && (s22 == 0 && (s23 == 0 && (s24 == 0))))))))))))=true)):=by
      rcases hb with hb|hb
      ·exact .inr ⟨hb.2.1,hb.1⟩
      ·exact .inl ⟨hb.2,hb.1⟩
     obtain ⟨r,hr,t1,t2⟩:=key s0 s1 s2 s3 s4 s5 s6 s7 s8 s9 s10 s11 s12 s13 s14 s15 s16 s17 s18 s19 s20 s21 s22 s23 s24 z
     exact ⟨r,hr,T.succ (by simp only [spec_SynHear.j1];exact T.pos trivial (T.neg hg t1)),T.succ (by simp only [impl_SynHear.j1];exact T.pos trivial (T.neg hg t2))⟩
   obtain ⟨r,hr,t1,t2⟩:=done
   refine ⟨r,hr,spec_took s0 s1 s2 s3 s4 s5 s6 s7 s8 s9 s10 s11 s12 s13 s14 s15 s16 s17 s18 s19 s20 s21 s22 s23 s24 Y me a0 a1 a2 a3 a4 a5 a6 a7 a8 a9 a10 a11 a12 a13 a14 a15 a16 a17 a18 a19 a20 a21 a22 a23 P L hY h (T.succ ?_),impl_took s0 s1 s2 s3 s4 s5 s6 s7 s8 s9 s10 s11 s12 s13 s14 s15 s16 s17 s18 s19 s20 s21 s22 s23 s24 Y me a0 a1 a2 a3 a4 a5 a6 a7 a8 a9 a10 a11 a12 a13 a14 a15 a16 a17 a18 a19 a20 a21 a22 a23 P L hY hP hL b1 b2 h (T.succ ?_)⟩
   ·simp only [spec_SynHear.j0,decide_eq_true e3]
    exact T.neg (by simp) (T.pos e1 (T.pos e2 t1))
   ·simp only [impl_SynHear.j0,decide_eq_true e3]
    exact T.neg (by simp) (T.pos e2 (T.pos e1 t2))
  ·have done:∃ r,Good r∧T (fun k=>spec_SynHear.j1 k me ([]:List S9028) false s0 s1 s2 s3 s4 s5 s6 s7 s8 s9 s10 s11 s12 s13 s14 s15 s16 s17 s18 s19 s20 s21 s22 s23 s24 Y a0 a1 a2 a3 a4 a5 a6 a7 a8 a9 a10 a11 a12 a13 a14 a15 a16 a17 a18 a19 a20 a21 a22 a23 P L s0 s1 s2 s3 s4 s5 s6 s7 s8 s9 s10 s11 s12 s13 s14 s15 s16 s17 s18 s19 s20 s21 s22 s23 s24 Y) (·=r)∧T (fun k=>impl_SynHear.j1 k me false s0 s1 s2 s3 s4 s5 s6 s7 s8 s9 s10 s11 s12 s13 s14 s15 s16 s17 s18 s19 s20 s21 s22 s23 s24 Y a0 a1 a2 a3 a4 a5 a6 a7 a8 a9 a10 a11 a12 a13 a14 a15 a16 a17 a18 a19 a20 a21 a22 a23 P L s0 s1 s2 s3 s4 s5 s6 s7 s8 s9 s10 s11 s12 s13 s14 s15 s16 s17 s18 s19 s20 s21 s22 s23 s24 Y) (·=r):=by
    by_cases e1:s2=2
    ·by_cases e2:a0=4
     ·refine ⟨(s0,s1,s2,s3,s4,s5,s6,s7,s8,s9,s10,s11,s12,s13,s14,s15,s16,s17,s18,s19,s20,s21,s22,s23,s24,(Y ++ [a1]),([]:List S9028),(((Y ++ [a1]).length:Int) == 2)),⟨by simp;omega,.inl rfl⟩,T.succ ?_,T.succ ?_⟩
      ·simp only [spec_SynHear.j1,Option.bind_some]
       exact T.neg (by simp) (T.pos e1 (T.pos e2 (T.pos (by omega) (T.ret rfl))))
      ·simp only [impl_SynHear.j1,Option.bind_some,impl_seekerCopy.f,impl_copied_int.f,if_pos (show (Y ++ [a1]).length≤35184372088832 by simp;omega)]
       exact T.neg (by simp) (T.pos e2 (T.pos e1 (T.pos (by omega) (T.ret rfl))))
     ·refine ⟨(s0,s1,s2,s3,s4,s5,s6,s7,s8,s9,s10,s11,s12,s13,s14,s15,s16,s17,s18,s19,s20,s21,s22,s23,s24,Y,([]:List S9028),false),⟨hY,.inl rfl⟩,T.succ ?_,T.succ ?_⟩
      ·simp only [spec_SynHear.j1]
       exact T.neg (by simp) (T.pos e1 (T.neg e2 (T.ret rfl)))
      ·simp only [impl_SynHear.j1]
       exact T.neg (by simp) (T.neg e2 (T.ret rfl))
    ·refine ⟨(s0,s1,s2,s3,s4,s5,s6,s7,s8,s9,s10,s11,s12,s13,s14,s15,s16,s17,s18,s19,s20,s21,s22,s23,s24,Y,([]:List S9028),false),⟨hY,.inl rfl⟩,T.succ ?_,T.succ ?_⟩
     ·simp only [spec_SynHear.j1]
      exact T.neg (by simp) (T.neg e1 (T.ret rfl))
     ·simp only [impl_SynHear.j1]
      refine T.neg (by simp) (T.ite (fun _=>T.neg e1 (T.ret rfl)) (fun _=>T.ret rfl))
   obtain ⟨r,hr,t1,t2⟩:=done
   have hd:s2=1→a0=2→decide (a5<s1)=false:=fun x y=>decide_eq_false (fun q=>hA ⟨x,y,q⟩)
   refine ⟨r,hr,spec_took s0 s1 s2 s3 s4 s5 s6 s7 s8 s9 s10 s11 s12 s13 s14 s15 s16 s17 s18 s19 s20 s21 s22 s23 s24 Y me a0 a1 a2 a3 a4 a5 a6 a7 a8 a9 a10 a11 a12 a13 a14 a15 a16 a17 a18 a19 a20 a21 a22 a23 P L hY h (T.succ ?_),impl_took s0 s1 s2 s3 s4 s5 s6 s7 s8 s9 s10 s11 s12 s13 s14 s15 s16 s17 s18 s19 s20 s21 s22 s23 s24 Y me a0 a1 a2 a3 a4 a5 a6 a7 a8 a9 a10 a11 a12 a13 a14 a15 a16 a17 a18 a19 a20 a21 a22 a23 P L hY hP hL b1 b2 h (T.succ ?_)⟩
   ·simp only [spec_SynHear.j0]
    refine T.neg (by simp) (T.ite (fun x=>T.ite (fun y=>?_) (fun _=>t1)) (fun _=>t1))
    rw [hd x y];exact t1
   ·simp only [impl_SynHear.j0]
    refine T.neg (by simp) (T.ite (fun y=>T.ite (fun x=>?_) (fun _=>t2)) (fun _=>t2))
    rw [hd x y];exact t2
 ·exact ⟨_,⟨hY,.inl rfl⟩,spec_ref s0 s1 s2 s3 s4 s5 s6 s7 s8 s9 s10 s11 s12 s13 s14 s15 s16 s17 s18 s19 s20 s21 s22 s23 s24 Y me a0 a1 a2 a3 a4 a5 a6 a7 a8 a9 a10 a11 a12 a13 a14 a15 a16 a17 a18 a19 a20 a21 a22 a23 P L hY h,impl_ref s0 s1 s2 s3 s4 s5 s6 s7 s8 s9 s10 s11 s12 s13 s14 s15 s16 s17 s18 s19 s20 s21 s22 s23 s24 Y me a0 a1 a2 a3 a4 a5 a6 a7 a8 a9 a10 a11 a12 a13 a14 a15 a16 a17 a18 a19 a20 a21 a22 a23 P L hY hP hL b1 b2 h⟩
end Go.Proofs.YtoieojmfkkidnaaX
