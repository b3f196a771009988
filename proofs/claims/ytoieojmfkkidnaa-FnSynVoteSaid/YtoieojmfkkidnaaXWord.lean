/-
 When a word is right,what its numbers are and its bytes,for the program and the reference alike.
 Conditions: lists of at most a thousand pieces.
-/
import Derived.Test.YtoieojmfkkidnaaXBlkJ
import Derived.Test.YtoieojmfkkidnaaXLast
import Derived.Test.YtoieojmfkkidnaaXCmd
import Derived.Test.YtoieojmfkkidnaaPx9
import Derived.Test.YtoieojmfkkidnaaPx6
namespace Go.Proofs.YtoieojmfkkidnaaX
open Go.RowKit Go.Proofs.Ytoieojmfkkidnaa.P Go.Proofs.YtoieojmfkkidnaaW.PrintWords Go.Proofs.YtoieojmfkkidnaaW.PrintLast Go.Proofs.YtoieojmfkkidnaaW.PrintMore
set_option linter.unusedVariables false
set_option linter.unusedSimpArgs false
def pn:List Pc→List Int
 | []=>[]
 | p :: r=>p.f0 :: p.f1 :: p.f2 :: p.f3 :: pn r
def ln:List La→List Int
 | []=>[]
 | p :: r=>p.f0 :: p.f1 :: ln r
theorem pn_len:∀ P:List Pc,(pn P).length=4 * P.length
 | []=>rfl
 | p :: r=>by simp only [pn,List.length_cons,pn_len r];omega
theorem ln_len:∀ L:List La,(ln L).length=2 * L.length
 | []=>rfl
 | p :: r=>by simp only [ln,List.length_cons,ln_len r];omega
def okN (x:Int):Bool:=decide (-1≤x∧x≤99999)
def n24 (a0 a1 a2 a3 a4 a5 a6 a7 a8 a9 a10 a11 a12 a13 a14 a15 a16 a17 a18 a19 a20 a21 a22 a23:Int):List Int:=[a0,a1,a2,a3,a4,a5,a6,a7,a8,a9,a10,a11,a12,a13,a14,a15,a16,a17,a18,a19,a20,a21,a22,a23]
def allN (a0 a1 a2 a3 a4 a5 a6 a7 a8 a9 a10 a11 a12 a13 a14 a15 a16 a17 a18 a19 a20 a21 a22 a23:Int) (P:List Pc) (L:List La):List Int:=n24 a0 a1 a2 a3 a4 a5 a6 a7 a8 a9 a10 a11 a12 a13 a14 a15 a16 a17 a18 a19 a20 a21 a22 a23 ++ (((P.length:Int) :: pn P) ++ ((L.length:Int) :: ln L))
theorem allN_len (a0 a1 a2 a3 a4 a5 a6 a7 a8 a9 a10 a11 a12 a13 a14 a15 a16 a17 a18 a19 a20 a21 a22 a23:Int) (P:List Pc) (L:List La):(allN a0 a1 a2 a3 a4 a5 a6 a7 a8 a9 a10 a11 a12 a13 a14 a15 a16 a17 a18 a19 a20 a21 a22 a23 P L).length=26+4 * P.length+2 * L.length:=by
 unfold allN
 simp only [List.length_append,List.length_cons,pn_len,ln_len,n24,List.length_nil]
 omega
theorem pieces_numbers (P:List Pc) (hP:P.length≤1048576):T (fun k=>impl_piecesNumbers.f k P) (·=(P.length:Int) :: pn P):=by
 have key:∀ (d i:Nat) (A:List Int),A.length≤4 * i+1→P.length - i=d→i≤P.length→T (fun k=>impl_piecesNumbers.l0 k A P (P.length:Int) (i:Int)) (·=A ++ pn (P.drop i)):=by
  intro d
  induction d with
  | zero =>
   intro i A hA hd hi
   refine T.succ ?_
   simp only [impl_piecesNumbers.l0]
   refine T.neg (by omega) (T.ret ?_)
   rw [List.drop_of_length_le (by omega)]
   simp [pn]
  | succ d ih =>
   intro i A hA hd hi
   have hlt:i<P.length:=by omega
   refine T.succ ?_
   simp only [impl_piecesNumbers.l0,Option.bind_some,rdP P i hlt,wrap_succ hlt (show P.length≤4611686018427387904 by omega)]
   refine T.pos (by omega) (T.pos (by omega) (T.pos (by omega) (T.pos (by simp only [List.length_cons,List.length_nil];omega) ?_)))
   rw [List.drop_eq_getElem_cons hlt]
   have:=ih (i+1) (A ++ [P[i].f0,P[i].f1,P[i].f2,P[i].f3]) (by simp only [List.length_append,List.length_cons,List.length_nil];omega) (by omega) (by omega)
   simpa [pn,List.append_assoc] using this
 simp only [impl_piecesNumbers.f]
 simpa using key _ 0 [(P.length:Int)] (by simp) rfl (Nat.zero_le _)
theorem last_numbers (L:List La) (hL:L.length≤1048576):T (fun k=>impl_lastNumbers.f k L) (·=(L.length:Int) :: ln L):=by
 have key:∀ (d i:Nat) (A:List Int),A.length≤2 * i+1→L.length - i=d→i≤L.length→T (fun k=>impl_lastNumbers.l0 k A L (L.length:Int) (i:Int)) (·=A ++ ln (L.drop i)):=by
  intro d
  induction d with
  | zero =>
   intro i A hA hd hi
   refine T.succ ?_
   simp only [impl_lastNumbers.l0]
   refine T.neg (by omega) (T.ret ?_)
   rw [List.drop_of_length_le (by omega)]
   simp [ln]
  | succ d ih =>
   intro i A hA hd hi
   have hlt:i<L.length:=by omega
   refine T.succ ?_
   simp only [impl_lastNumbers.l0,Option.bind_some,rdLa L i hlt,wrap_succ hlt (show L.length≤4611686018427387904 by omega)]
   refine T.pos (by omega) (T.pos (by omega) (T.pos (by omega) (T.pos (by simp only [List.length_cons,List.length_nil];omega) ?_)))
   rw [List.drop_eq_getElem_cons hlt]
   have:=ih (i+1) (A ++ [L[i].f0,L[i].f1]) (by simp only [List.length_append,List.length_cons,List.length_nil];omega) (by omega) (by omega)
   simpa [ln,List.append_assoc] using this
 simp only [impl_lastNumbers.f]
 simpa using key _ 0 [(L.length:Int)] (by simp) rfl (Nat.zero_le _)
theorem word_numbers (a0 a1 a2 a3 a4 a5 a6 a7 a8 a9 a10 a11 a12 a13 a14 a15 a16 a17 a18 a19 a20 a21 a22 a23:Int) (P:List Pc) (L:List La) (hP:P.length≤1048576) (hL:L.length≤1048576):T (fun k=>impl_wordNumbers.f k a0 a1 a2 a3 a4 a5 a6 a7 a8 a9 a10 a11 a12 a13 a14 a15 a16 a17 a18 a19 a20 a21 a22 a23 P L) (·=allN a0 a1 a2 a3 a4 a5 a6 a7 a8 a9 a10 a11 a12 a13 a14 a15 a16 a17 a18 a19 a20 a21 a22 a23 P L):=by
 simp only [impl_wordNumbers.f,impl_cmdNumbers.f,Option.bind_some]
 refine T.pos (by simp only [List.length_cons,List.length_nil];omega) (T.pos (by simp only [List.length_append,List.length_cons,List.length_nil];omega) ?_)
 refine T.bind_eq (pieces_numbers P hP) ?_
 refine T.pos (by simp only [List.length_append,List.length_cons,List.length_nil,pn_len];omega) ?_
 refine T.bind_eq (last_numbers L hL) ?_
 refine T.pos (by simp only [List.length_append,List.length_cons,List.length_nil,pn_len,ln_len];omega) (T.ret ?_)
 simp [allN,n24]
theorem bok_small {P:List Pc} (h:bok P=true):P.length≤60∧(pn P).all okN=true:=by
 have hb:=(bok_iff P).1 h
 refine ⟨hb.1,?_⟩
 have hg:∀ p ∈ P,good p:=fun p hp=>by
  obtain ⟨j,hj,rfl⟩:=List.getElem_of_mem hp
  exact (hb.2 j (Nat.zero_le _) hj).1
 clear hb h
 induction P with
 | nil=>rfl
 | cons p r ih =>
  have g:=hg p (by simp)
  unfold good at g
  simp only [pn,List.all_cons,okN,Bool.and_eq_true,decide_eq_true_eq]
  exact ⟨by omega,by omega,by omega,by omega,ih (fun q hq=>hg q (by simp [hq]))⟩
theorem lok_small {L:List La} (h:lok L=true):L.length≤4∧(ln L).all okN=true:=by
 have hb:=(lok_iff L).1 h
 refine ⟨hb.1,?_⟩
 have hg:∀ p ∈ L,goodL p:=fun p hp=>by
  obtain ⟨j,hj,rfl⟩:=List.getElem_of_mem hp
  exact (hb.2 j (Nat.zero_le _) hj).1
 clear hb h
 induction L with
 | nil=>rfl
 | cons p r ih =>
  have g:=hg p (by simp)
  unfold goodL at g
  simp only [ln,List.all_cons,okN,Bool.and_eq_true,decide_eq_true_eq]
  exact ⟨by omega,by omega,ih (fun q hq=>hg q (by simp [hq]))⟩
def placeB (x:Int):Bool:=decide (0≤x∧x≤4) || decide (100≤x∧x≤103)
theorem impl_place (x:Int) (h:okN x=true ∨ (-9223372036854775808≤x∧x≤9223372036854775807)):impl_isPlace.f x=some (placeB x):=by
 have hx:-9223372036854775808≤x∧x≤9223372036854775807:=by
  rcases h with h|h
  ·unfold okN at h;simp only [decide_eq_true_eq] at h;omega
  ·exact h
 simp only [impl_isPlace.f,impl_isServer.f,impl_isClient.f,in_f,Option.bind_some]
 unfold placeB
 by_cases h1:0≤x∧x≤4
 ·simp [h1]
 ·rw [if_neg (by simp only [decide_eq_true_eq];exact h1),decide_eq_false h1,Bool.false_or]
  congr 2
  unfold wrap64
  simp only [eq_iff_iff]
  omega
theorem spec_place (x:Int):spec_l11Place.f x=some (placeB x):=by
 simp only [spec_l11Place.f,l6In_f,Option.bind_some]
 unfold placeB
 by_cases h1:0≤x∧x≤4
 ·simp [h1]
 ·rw [if_neg (by simp only [decide_eq_true_eq];exact h1),decide_eq_false h1,Bool.false_or]
noncomputable def restB (a0 a1 a2 a3 a4 a5 a6 a7 a8 a9 a10 a11 a12 a13 a14 a15 a16 a17 a18 a19 a20 a21 a22 a23:Int) (P:List Pc) (L:List La):Bool:=decide (1≤a0∧a0≤15) && (placeB a1 && (placeB a2 && (cmdB a6 a7 a8 a9 a10 a11 a12 a13 a14 a15 && (bok P && lok L))))
noncomputable def wordB (a0 a1 a2 a3 a4 a5 a6 a7 a8 a9 a10 a11 a12 a13 a14 a15 a16 a17 a18 a19 a20 a21 a22 a23:Int) (P:List Pc) (L:List La):Bool:=(n24 a0 a1 a2 a3 a4 a5 a6 a7 a8 a9 a10 a11 a12 a13 a14 a15 a16 a17 a18 a19 a20 a21 a22 a23).all okN && restB a0 a1 a2 a3 a4 a5 a6 a7 a8 a9 a10 a11 a12 a13 a14 a15 a16 a17 a18 a19 a20 a21 a22 a23 P L
theorem spec_word (a0 a1 a2 a3 a4 a5 a6 a7 a8 a9 a10 a11 a12 a13 a14 a15 a16 a17 a18 a19 a20 a21 a22 a23:Int) (P:List Pc) (L:List La):T (fun k=>spec_WordOk.f k a0 a1 a2 a3 a4 a5 a6 a7 a8 a9 a10 a11 a12 a13 a14 a15 a16 a17 a18 a19 a20 a21 a22 a23 P L) (·=wordB a0 a1 a2 a3 a4 a5 a6 a7 a8 a9 a10 a11 a12 a13 a14 a15 a16 a17 a18 a19 a20 a21 a22 a23 P L):=by
 simp only [spec_WordOk.f,spec_l11Nums.f,Option.bind_some]
 have key:∀ (l:List Int),l.length≤1000→∀ (d i:Nat),l.length - i=d→i≤l.length→T (fun k=>spec_WordOk.l0 k l (i:Int) a0 a1 a2 a3 a4 a5 a6 a7 a8 a9 a10 a11 a12 a13 a14 a15 a16 a17 a18 a19 a20 a21 a22 a23 P L) (·=((l.drop i).all okN && restB a0 a1 a2 a3 a4 a5 a6 a7 a8 a9 a10 a11 a12 a13 a14 a15 a16 a17 a18 a19 a20 a21 a22 a23 P L)):=by
  intro l hl d
  induction d with
  | zero =>
   intro i hd hi
   refine T.succ ?_
   simp only [spec_WordOk.l0]
   refine T.neg (by omega) ?_
   rw [List.drop_of_length_le (by omega),List.all_nil,Bool.true_and]
   simp only [l6In_f,spec_place,spec_cmd,Option.bind_some]
   unfold restB
   refine T.ite (fun h=>?_) (fun h=>T.ret (by rw [Bool.eq_false_iff.2 h,Bool.false_and]))
   rw [h,Bool.true_and]
   refine T.ite (fun h=>?_) (fun h=>T.ret (by rw [Bool.eq_false_iff.2 h,Bool.false_and]))
   rw [h,Bool.true_and]
   refine T.ite (fun h=>?_) (fun h=>T.ret (by rw [Bool.eq_false_iff.2 h,Bool.false_and]))
   rw [h,Bool.true_and]
   refine T.ite (fun h=>?_) (fun h=>T.ret (by rw [Bool.eq_false_iff.2 h,Bool.false_and]))
   rw [h,Bool.true_and]
   refine T.bind_eq (spec_ok_eq P) ?_
   refine T.ite (fun h=>?_) (fun h=>T.ret (by rw [Bool.eq_false_iff.2 h,Bool.false_and]))
   rw [h,Bool.true_and]
   exact T.bind_eq (spec_lok L) (T.ret rfl)
  | succ d ih =>
   intro i hd hi
   have hlt:i<l.length:=by omega
   refine T.succ ?_
   simp only [spec_WordOk.l0,spec_l11Num.f,l6In_f,Option.bind_some,rdNum l i hlt,wrap_succ hlt (show l.length≤4611686018427387904 by omega)]
   refine T.pos (by omega) (T.pos (by omega) ?_)
   rw [List.drop_eq_getElem_cons hlt,List.all_cons]
   refine T.ite (fun h=>?_) (fun h=>T.ret ?_)
   ·rw [show okN l[i]=true from h,Bool.true_and];exact ih (i+1) (by omega) (by omega)
   ·rw [show okN l[i]=false from Bool.eq_false_iff.2 h,Bool.false_and,Bool.false_and]
 have:=key (n24 a0 a1 a2 a3 a4 a5 a6 a7 a8 a9 a10 a11 a12 a13 a14 a15 a16 a17 a18 a19 a20 a21 a22 a23) (by simp [n24]) _ 0 rfl (Nat.zero_le _)
 rw [List.drop_zero] at this
 exact this
theorem impl_word (a0 a1 a2 a3 a4 a5 a6 a7 a8 a9 a10 a11 a12 a13 a14 a15 a16 a17 a18 a19 a20 a21 a22 a23:Int) (P:List Pc) (L:List La) (hP:P.length≤1048576) (hL:L.length≤1048576) (h1:-9223372036854775808≤a1∧a1≤9223372036854775807) (h2:-9223372036854775808≤a2∧a2≤9223372036854775807):T (fun k=>impl_WordOk.f k a0 a1 a2 a3 a4 a5 a6 a7 a8 a9 a10 a11 a12 a13 a14 a15 a16 a17 a18 a19 a20 a21 a22 a23 P L) (·=wordB a0 a1 a2 a3 a4 a5 a6 a7 a8 a9 a10 a11 a12 a13 a14 a15 a16 a17 a18 a19 a20 a21 a22 a23 P L):=by
 simp only [impl_WordOk.f,in_f,impl_place a1 (.inr h1),impl_place a2 (.inr h2),Option.bind_some]
 have bad:∀ b:Bool,b=false→restB a0 a1 a2 a3 a4 a5 a6 a7 a8 a9 a10 a11 a12 a13 a14 a15 a16 a17 a18 a19 a20 a21 a22 a23 P L=b→wordB a0 a1 a2 a3 a4 a5 a6 a7 a8 a9 a10 a11 a12 a13 a14 a15 a16 a17 a18 a19 a20 a21 a22 a23 P L=false:=fun b hb h=>by unfold wordB;rw [h,hb,Bool.and_false]
 refine T.ite (fun e1=>?_) (fun h=>T.ret (bad _ rfl (by unfold restB;rw [Bool.eq_false_iff.2 h,Bool.false_and])).symm)
 refine T.ite (fun e2=>?_) (fun h=>T.ret (bad _ rfl (by unfold restB;rw [Bool.eq_false_iff.2 h];simp)).symm)
 refine T.ite (fun e3=>?_) (fun h=>T.ret (bad _ rfl (by unfold restB;rw [Bool.eq_false_iff.2 h];simp)).symm)
 refine T.bind_eq (impl_cmd a6 a7 a8 a9 a10 a11 a12 a13 a14 a15) ?_
 refine T.ite (fun e4=>?_) (fun h=>T.ret (bad _ rfl (by unfold restB;rw [Bool.eq_false_iff.2 h];simp)).symm)
 refine T.bind_eq (impl_ok_eq P (by omega)) ?_
 refine T.ite (fun e5=>?_) (fun h=>T.ret (bad _ rfl (by unfold restB;rw [Bool.eq_false_iff.2 h];simp)).symm)
 refine T.bind_eq (impl_lok L (by omega)) ?_
 refine T.ite (fun e6=>?_) (fun h=>T.ret (bad _ rfl (by unfold restB;rw [Bool.eq_false_iff.2 h];simp)).symm)
 refine T.bind_eq (word_numbers a0 a1 a2 a3 a4 a5 a6 a7 a8 a9 a10 a11 a12 a13 a14 a15 a16 a17 a18 a19 a20 a21 a22 a23 P L hP hL) ?_
 have b1:=bok_small e5
 have b2:=lok_small e6
 have hlen:=allN_len a0 a1 a2 a3 a4 a5 a6 a7 a8 a9 a10 a11 a12 a13 a14 a15 a16 a17 a18 a19 a20 a21 a22 a23 P L
 simp only [impl_numbersOk.f]
 refine T.bind_eq (numbers_loop _ (by omega) _ 0 rfl (Nat.zero_le _)) (T.ret ?_)
 have e:((allN a0 a1 a2 a3 a4 a5 a6 a7 a8 a9 a10 a11 a12 a13 a14 a15 a16 a17 a18 a19 a20 a21 a22 a23 P L).drop 0).all (fun x=>decide (-1≤x∧x≤99999))=(n24 a0 a1 a2 a3 a4 a5 a6 a7 a8 a9 a10 a11 a12 a13 a14 a15 a16 a17 a18 a19 a20 a21 a22 a23).all okN:=by
  show (allN a0 a1 a2 a3 a4 a5 a6 a7 a8 a9 a10 a11 a12 a13 a14 a15 a16 a17 a18 a19 a20 a21 a22 a23 P L).all okN=_
  unfold allN
  rw [List.all_append,List.all_append,List.all_cons,List.all_cons,b1.2,b2.2]
  have c1:okN (P.length:Int)=true:=by unfold okN;simp only [decide_eq_true_eq];omega
  have c2:okN (L.length:Int)=true:=by unfold okN;simp only [decide_eq_true_eq];omega
  rw [c1,c2]
  simp
 rw [e]
 unfold wordB restB
 rw [e1,e2,e3,e4,e5,e6]
 simp
end Go.Proofs.YtoieojmfkkidnaaX
