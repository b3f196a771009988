/-
 What a voter does with a word,for the program and the reference alike.
 Conditions: lists of at most a million elements.
-/
import Derived.Test.YtoieojmfkkidnaaXVoter
import Derived.Test.YtoieojmfkkidnaaXFind
import Derived.Test.YtoieojmfkkidnaaXWord
import Derived.Test.YtoieojmfkkidnaaPx11
import Derived.Test.YtoieojmfkkidnaaPx8
import Derived.Test.YtoieojmfkkidnaaPx10
import Derived.Test.YtoieojmfkkidnaaPx7
namespace Go.Proofs.YtoieojmfkkidnaaX
open Go.RowKit Go.Proofs.Ytoieojmfkkidnaa.P Go.Proofs.YtoieojmfkkidnaaW.PrintWords Go.Proofs.YtoieojmfkkidnaaW.PrintLast Go.Proofs.YtoieojmfkkidnaaW.PrintMore
set_option linter.unusedVariables false
set_option linter.unusedSimpArgs false
/-- Papers with one more, in place of that of its slot. -/
def putL (p:Pp):Bool→List Pp→List Pp
 | d,[]=>if d=true then [] else [p]
 | d,x :: L=>(if d=false∧x.f0 ≥ p.f0 then [p] else []) ++ ((if x.f0=p.f0 then [] else [x]) ++ putL p (d || decide (x.f0 ≥ p.f0)) L)
theorem spec_vput_loop (p:Pp) (L:List Pp) (hL:L.length≤1048576):∀ (n i:Nat) (acc:List Pp) (d:Bool),L.length - i=n→i≤L.length→acc.length≤2 * i →
  T (fun k=>spec_l21Put.l0 k L acc d (i:Int) p.f0 p.f1 p.f2.f0 p.f2.f1 p.f2.f2 p.f2.f3 p.f2.f4 p.f2.f5 p.f2.f6 p.f2.f7 p.f2.f8 p.f2.f9) (·=acc ++ putL p d (L.drop i)):=by
 intro n
 induction n with
 | zero =>
  intro i acc d hn hi ha
  obtain rfl:i=L.length:=by omega
  rw [List.drop_length]
  refine T.succ ?_
  simp only [spec_l21Put.l0]
  refine T.neg (by omega) (T.succ ?_)
  simp only [spec_l21Put.j4]
  refine T.ite (fun h=>T.ret (by rw [h];simp [putL])) (fun h=>T.pos (by omega) (T.ret (by rw [Bool.eq_false_iff.2 h];simp [putL])))
 | succ n ih =>
  intro i acc d hn hi ha
  have hlt:i<L.length:=by omega
  rw [List.drop_eq_getElem_cons hlt]
  refine T.succ ?_
  simp only [spec_l21Put.l0]
  refine T.pos (by omega) (T.succ ?_)
  simp only [spec_l21Put.j1]
  have j3:∀ (acc:List Pp) (d:Bool),acc.length≤2 * i+1→T (fun k=>spec_l21Put.j3 k L acc d (i:Int) p.f0 p.f1 p.f2.f0 p.f2.f1 p.f2.f2 p.f2.f3 p.f2.f4 p.f2.f5 p.f2.f6 p.f2.f7 p.f2.f8 p.f2.f9) (·=acc ++ ((if L[i].f0=p.f0 then [] else [L[i]]) ++ putL p d (L.drop (i+1)))):=fun acc d ha=>by
   refine T.succ ?_
   simp only [spec_l21Put.j3,rdPp L i hlt,wrap_succ hlt (show L.length≤4611686018427387904 by omega)]
   refine T.pos (by omega) (T.pos (by omega) ?_)
   refine T.ite (fun h=>?_) (fun h=>T.pos (by omega) ?_)
   ·rw [if_pos h]
    exact ih (i+1) acc d (by omega) (by omega) (by omega)
   ·rw [if_neg h,← List.append_assoc]
    exact ih (i+1) (acc ++ [L[i]]) d (by omega) (by omega) (by rw [List.length_append,List.length_singleton];omega)
  have j2:∀ (b:Bool),(b=true→d=false)→T (fun k=>spec_l21Put.j2 k L acc d (i:Int) b p.f0 p.f1 p.f2.f0 p.f2.f1 p.f2.f2 p.f2.f3 p.f2.f4 p.f2.f5 p.f2.f6 p.f2.f7 p.f2.f8 p.f2.f9) (·=acc ++ ((if b=true then [p] else []) ++ ((if L[i].f0=p.f0 then [] else [L[i]]) ++ putL p (d || b) (L.drop (i+1))))):=fun b hb=>by
   refine T.succ ?_
   simp only [spec_l21Put.j2]
   refine T.ite (fun h=>T.pos (by omega) ?_) (fun h=>?_)
   ·rw [if_pos h,h,Bool.or_true,← List.append_assoc]
    exact j3 (acc ++ [p]) true (by rw [List.length_append,List.length_singleton];omega)
   ·rw [if_neg h,Bool.eq_false_iff.2 h,Bool.or_false,List.nil_append]
    exact j3 acc d (by omega)
  refine T.ite (fun h=>?_) (fun h=>T.pos (by omega) (T.pos (by omega) ?_))
  ·refine (j2 false (fun h=>by cases h)).mono (fun r hr=>?_)
   rw [hr,h]
   simp [putL]
  ·rw [rdPp L i hlt]
   refine (j2 (decide (L[i].f0 ≥ p.f0)) (fun _=>Bool.eq_false_iff.2 h)).mono (fun r hr=>?_)
   rw [hr,Bool.eq_false_iff.2 h]
   simp [putL]
theorem spec_vput (p:Pp) (L:List Pp) (hL:L.length≤1048576):T (fun k=>spec_l21Put.f k L p.f0 p.f1 p.f2.f0 p.f2.f1 p.f2.f2 p.f2.f3 p.f2.f4 p.f2.f5 p.f2.f6 p.f2.f7 p.f2.f8 p.f2.f9) (·=putL p false L):=by
 simp only [spec_l21Put.f]
 exact spec_vput_loop p L hL _ 0 [] false rfl (Nat.zero_le _) (Nat.zero_le _)
theorem impl_vput_loop (p:Pp) (L:List Pp) (hL:L.length≤1048576):∀ (n i:Nat) (acc:List Pp) (d:Bool),L.length - i=n→i≤L.length→acc.length≤2 * i →
  T (fun k=>impl_paperPut.l0 k acc d L (L.length:Int) (i:Int) p.f0 p.f1 p.f2.f0 p.f2.f1 p.f2.f2 p.f2.f3 p.f2.f4 p.f2.f5 p.f2.f6 p.f2.f7 p.f2.f8 p.f2.f9) (·=acc ++ putL p d (L.drop i)):=by
 intro n
 induction n with
 | zero =>
  intro i acc d hn hi ha
  obtain rfl:i=L.length:=by omega
  rw [List.drop_length]
  refine T.succ ?_
  simp only [impl_paperPut.l0]
  refine T.neg (by omega) ?_
  refine T.ite (fun h=>T.ret (by rw [h];simp [putL])) (fun h=>T.pos (by omega) (T.ret (by rw [Bool.eq_false_iff.2 h];simp [putL])))
 | succ n ih =>
  intro i acc d hn hi ha
  have hlt:i<L.length:=by omega
  rw [List.drop_eq_getElem_cons hlt]
  refine T.succ ?_
  simp only [impl_paperPut.l0,rdPp L i hlt]
  refine T.pos (by omega) (T.pos (by omega) (T.pos (by omega) ?_))
  have next:∀ (acc:List Pp) (d:Bool),acc.length≤2 * i+2→T (fun k=>impl_paperPut.l0 k acc d L (L.length:Int) (wrap64 ((i:Int)+1)) p.f0 p.f1 p.f2.f0 p.f2.f1 p.f2.f2 p.f2.f3 p.f2.f4 p.f2.f5 p.f2.f6 p.f2.f7 p.f2.f8 p.f2.f9) (·=acc ++ putL p d (L.drop (i+1))):=fun acc d ha=>by
   rw [wrap_succ hlt (show L.length≤4611686018427387904 by omega)]
   exact ih (i+1) acc d (by omega) (by omega) (by omega)
  have j1:∀ (b:Bool),(b=true→d=false)→T (fun k=>impl_paperPut.j1 k acc d L (L.length:Int) (i:Int) b p.f0 p.f1 p.f2.f0 p.f2.f1 p.f2.f2 p.f2.f3 p.f2.f4 p.f2.f5 p.f2.f6 p.f2.f7 p.f2.f8 p.f2.f9 L[i].f0 L[i].f1 L[i].f2.f0 L[i].f2.f1 L[i].f2.f2 L[i].f2.f3 L[i].f2.f4 L[i].f2.f5 L[i].f2.f6 L[i].f2.f7 L[i].f2.f8 L[i].f2.f9) (·=acc ++ ((if b=true then [p] else []) ++ ((if L[i].f0=p.f0 then [] else [L[i]]) ++ putL p (d || b) (L.drop (i+1))))):=fun b hb=>by
   refine T.succ ?_
   simp only [impl_paperPut.j1,Option.bind_some]
   refine T.ite (fun h=>T.pos (by omega) ?_) (fun h=>?_)
   ·rw [if_pos h,h,Bool.or_true,← List.append_assoc]
    refine T.ite (fun h2=>?_) (fun h2=>T.pos (by rw [List.length_append,List.length_singleton];omega) ?_)
    ·rw [if_pos h2]
     exact next (acc ++ [p]) true (by rw [List.length_append,List.length_singleton];omega)
    ·rw [if_neg h2,← List.append_assoc]
     exact next (acc ++ [p] ++ [L[i]]) true (by rw [List.length_append,List.length_append,List.length_singleton,List.length_singleton];omega)
   ·rw [if_neg h,Bool.eq_false_iff.2 h,Bool.or_false,List.nil_append]
    refine T.ite (fun h2=>?_) (fun h2=>T.pos (by omega) ?_)
    ·rw [if_pos h2]
     exact next acc d (by omega)
    ·rw [if_neg h2,← List.append_assoc]
     exact next (acc ++ [L[i]]) d (by rw [List.length_append,List.length_singleton];omega)
  refine T.ite (fun h=>?_) (fun h=>?_)
  ·refine (j1 false (fun h=>by cases h)).mono (fun r hr=>?_)
   rw [hr,h]
   simp [putL]
  ·refine (j1 (decide (L[i].f0 ≥ p.f0)) (fun _=>Bool.eq_false_iff.2 h)).mono (fun r hr=>?_)
   rw [hr,Bool.eq_false_iff.2 h]
   simp [putL]
theorem impl_vput (p:Pp) (L:List Pp) (hL:L.length≤1048576):T (fun k=>impl_paperPut.f k L p.f0 p.f1 p.f2.f0 p.f2.f1 p.f2.f2 p.f2.f3 p.f2.f4 p.f2.f5 p.f2.f6 p.f2.f7 p.f2.f8 p.f2.f9) (·=putL p false L):=by
 simp only [impl_paperPut.f]
 exact impl_vput_loop p L hL _ 0 [] false rfl (Nat.zero_le _) (Nat.zero_le _)
/-- What a voter does, and what it answers. -/
noncomputable def voteC (V:Int) (L:List Pp) (me:Int) (a0 a1 a2 a3 a4 a5 a6 a7 a8 a9 a10 a11 a12 a13 a14 a15 a16 a17 a18 a19 a20 a21 a22 a23:Int) (Pi:List Pc) (Ls:List La):Bool:=voterB V L && (wordB a0 a1 a2 a3 a4 a5 a6 a7 a8 a9 a10 a11 a12 a13 a14 a15 a16 a17 a18 a19 a20 a21 a22 a23 Pi Ls && (decide (0≤me∧me≤2) && (decide (1≤a4∧a4≤60) && (decide (¬ a3<1) && decide (a0=1 ∨ a0=3)))))
abbrev VT:=Int × List Pp × Int × Int × Int × Int × Int × Int × Int × Int × Int × Int × Int × Int × Int × Int × Int × Int × Int × Int × Int × Int × Int × Int × Int × Int × List Pc × List La × Bool
def promT (me a1 a3 a4:Int) (L:List Pp) (m:Option Pp):VT:=match m with
 | some q=>(a3,L,2,me,a1,a3,a4,q.f1,q.f2.f0,q.f2.f1,q.f2.f2,q.f2.f3,q.f2.f4,q.f2.f5,q.f2.f6,q.f2.f7,q.f2.f8,q.f2.f9,0,0,0,0,0,0,0,0,[],[],true)
 | none=>(a3,L,2,me,a1,a3,a4,0,0,0,0,0,0,0,0,0,0,0,0,0,0,0,0,0,0,0,[],[],true)
noncomputable def voteR (V:Int) (L:List Pp) (me:Int) (a0 a1 a2 a3 a4 a5 a6 a7 a8 a9 a10 a11 a12 a13 a14 a15 a16 a17 a18 a19 a20 a21 a22 a23:Int) (Pi:List Pc) (Ls:List La):VT :=
 if voteC V L me a0 a1 a2 a3 a4 a5 a6 a7 a8 a9 a10 a11 a12 a13 a14 a15 a16 a17 a18 a19 a20 a21 a22 a23 Pi Ls=true then
  (if a0=1∧a3 > V then promT me a1 a3 a4 L (L.find? (fun p=>decide (p.f0=a4) && true))
  else if a0=3∧a3 ≥ V then (a3,putL ⟨a4,a3,⟨a6,a7,a8,a9,a10,a11,a12,a13,a14,a15⟩⟩ false L,4,me,a1,a3,a4,0,0,0,0,0,0,0,0,0,0,0,0,0,0,0,0,0,0,0,[],[],true) else (V,L,5,me,a1,a3,a4,V,0,0,0,0,0,0,0,0,0,0,0,0,0,0,0,0,0,0,[],[],true))
 else (V,L,0,0,0,0,0,0,0,0,0,0,0,0,0,0,0,0,0,0,0,0,0,0,0,0,[],[],false)
theorem voteR_no (V:Int) (L:List Pp) (me:Int) (a0 a1 a2 a3 a4 a5 a6 a7 a8 a9 a10 a11 a12 a13 a14 a15 a16 a17 a18 a19 a20 a21 a22 a23:Int) (Pi:List Pc) (Ls:List La) (h:voteC V L me a0 a1 a2 a3 a4 a5 a6 a7 a8 a9 a10 a11 a12 a13 a14 a15 a16 a17 a18 a19 a20 a21 a22 a23 Pi Ls=false):voteR V L me a0 a1 a2 a3 a4 a5 a6 a7 a8 a9 a10 a11 a12 a13 a14 a15 a16 a17 a18 a19 a20 a21 a22 a23 Pi Ls=(V,L,0,0,0,0,0,0,0,0,0,0,0,0,0,0,0,0,0,0,0,0,0,0,0,0,[],[],false):=by
 unfold voteR
 rw [h]
 rfl
theorem spec_vote (V:Int) (L:List Pp) (me:Int) (a0 a1 a2 a3 a4 a5 a6 a7 a8 a9 a10 a11 a12 a13 a14 a15 a16 a17 a18 a19 a20 a21 a22 a23:Int) (Pi:List Pc) (Ls:List La) (hL:L.length≤1048576):T (fun k=>spec_SynVote.f k V L me a0 a1 a2 a3 a4 a5 a6 a7 a8 a9 a10 a11 a12 a13 a14 a15 a16 a17 a18 a19 a20 a21 a22 a23 Pi Ls) (·=voteR V L me a0 a1 a2 a3 a4 a5 a6 a7 a8 a9 a10 a11 a12 a13 a14 a15 a16 a17 a18 a19 a20 a21 a22 a23 Pi Ls):=by
 have bad:voteC V L me a0 a1 a2 a3 a4 a5 a6 a7 a8 a9 a10 a11 a12 a13 a14 a15 a16 a17 a18 a19 a20 a21 a22 a23 Pi Ls=false→T (fun k=>spec_SynVote.j0 k me true V L a0 a1 a2 a3 a4 a5 a6 a7 a8 a9 a10 a11 a12 a13 a14 a15 a16 a17 a18 a19 a20 a21 a22 a23 Pi Ls) (·=voteR V L me a0 a1 a2 a3 a4 a5 a6 a7 a8 a9 a10 a11 a12 a13 a14 a15 a16 a17 a18 a19 a20 a21 a22 a23 Pi Ls):=fun h=>by
  rw [voteR_no V L me a0 a1 a2 a3 a4 a5 a6 a7 a8 a9 a10 a11 a12 a13 a14 a15 a16 a17 a18 a19 a20 a21 a22 a23 Pi Ls h]
  refine T.succ ?_
  simp only [spec_SynVote.j0,if_true,Option.bind_some,List.nil_append,List.length_nil]
  exact T.pos (by omega) (T.ret rfl)
 have nl:∀ b c d e f g:Bool,voteC V L me a0 a1 a2 a3 a4 a5 a6 a7 a8 a9 a10 a11 a12 a13 a14 a15 a16 a17 a18 a19 a20 a21 a22 a23 Pi Ls=(b && (c && (d && (e && (f && g)))))→b=false ∨ c=false ∨ d=false ∨ e=false ∨ f=false ∨ g=false→voteC V L me a0 a1 a2 a3 a4 a5 a6 a7 a8 a9 a10 a11 a12 a13 a14 a15 a16 a17 a18 a19 a20 a21 a22 a23 Pi Ls=false:=fun b c d e f g h h2=>by
  rw [h]
  rcases h2 with h2|h2|h2|h2|h2|h2<;>rw [h2]<;>simp
 have nl:=nl _ _ _ _ _ _ rfl
 have good:voteC V L me a0 a1 a2 a3 a4 a5 a6 a7 a8 a9 a10 a11 a12 a13 a14 a15 a16 a17 a18 a19 a20 a21 a22 a23 Pi Ls=true→Uni L→(a0=1 ∨ a0=3)→T (fun k=>spec_SynVote.j0 k me false V L a0 a1 a2 a3 a4 a5 a6 a7 a8 a9 a10 a11 a12 a13 a14 a15 a16 a17 a18 a19 a20 a21 a22 a23 Pi Ls) (·=voteR V L me a0 a1 a2 a3 a4 a5 a6 a7 a8 a9 a10 a11 a12 a13 a14 a15 a16 a17 a18 a19 a20 a21 a22 a23 Pi Ls):=fun h hu hk=>by
  have e:voteR V L me a0 a1 a2 a3 a4 a5 a6 a7 a8 a9 a10 a11 a12 a13 a14 a15 a16 a17 a18 a19 a20 a21 a22 a23 Pi Ls=(if a0=1∧a3 > V then promT me a1 a3 a4 L (L.find? (fun p=>decide (p.f0=a4) && true)) else if a0=3∧a3 ≥ V then (a3,putL ⟨a4,a3,⟨a6,a7,a8,a9,a10,a11,a12,a13,a14,a15⟩⟩ false L,4,me,a1,a3,a4,0,0,0,0,0,0,0,0,0,0,0,0,0,0,0,0,0,0,0,[],[],true) else (V,L,5,me,a1,a3,a4,V,0,0,0,0,0,0,0,0,0,0,0,0,0,0,0,0,0,0,[],[],true)):=if_pos h
  rw [e]
  refine T.succ ?_
  simp only [spec_SynVote.j0,Option.bind_some,List.nil_append,List.length_nil]
  refine T.neg (by simp) (T.pos (by omega) ?_)
  have j1:∀ b:Bool,b=decide (a0=1∧a3 > V)→T (fun k=>spec_SynVote.j1 k b V L a0 a1 a2 a3 a4 a5 a6 a7 a8 a9 a10 a11 a12 a13 a14 a15 a16 a17 a18 a19 a20 a21 a22 a23 Pi Ls V L 0 me a1 a3 a4 0 0 0 0 0 0 0 0 0 0 0 0 0 0 0 0 0 0 0) (·=(if a0=1∧a3 > V then promT me a1 a3 a4 L (L.find? (fun p=>decide (p.f0=a4) && true)) else if a0=3∧a3 ≥ V then (a3,putL ⟨a4,a3,⟨a6,a7,a8,a9,a10,a11,a12,a13,a14,a15⟩⟩ false L,4,me,a1,a3,a4,0,0,0,0,0,0,0,0,0,0,0,0,0,0,0,0,0,0,0,[],[],true) else (V,L,5,me,a1,a3,a4,V,0,0,0,0,0,0,0,0,0,0,0,0,0,0,0,0,0,0,[],[],true))):=fun b hb=>by
   refine T.succ ?_
   simp only [spec_SynVote.j1,spec_l21Paper.f]
   refine T.ite (fun h1=>?_) (fun h1=>?_)
   ·rw [hb,decide_eq_true_eq] at h1
    rw [if_pos h1]
    refine T.bind (spec_find L a4 hL _ 0 rfl (Nat.zero_le _) (fun j h=>absurd h (Nat.not_lt_zero _))) (fun r hr=>?_)
    obtain ⟨rfl,hn⟩|⟨a,rfl,ha,hs⟩:=hr
    ·rw [find_no (G:=fun _=>true) hn]
     exact T.neg (by omega) (T.ret rfl)
    ·rw [find_uni (G:=fun _=>true) hu (by rw [rdPp L a ha];exact List.getElem_mem ha) hs]
     exact T.pos (by omega) (T.pos (by omega) (T.pos (by omega) (T.ret rfl)))
   ·rw [hb,decide_eq_true_eq] at h1
    rw [if_neg h1]
    refine T.ite (fun h2=>?_) (fun h2=>T.ret (by rw [if_neg (fun h=>h2 h.1)]))
    refine T.ite (fun h3=>?_) (fun h3=>T.ret (by rw [if_neg (fun h=>h3 h.2)]))
    rw [if_pos ⟨h2,h3⟩]
    exact T.bind_eq (spec_vput ⟨a4,a3,⟨a6,a7,a8,a9,a10,a11,a12,a13,a14,a15⟩⟩ L hL) (T.ret rfl)
  refine T.ite (fun h1=>j1 _ (by simp [h1])) (fun h1=>j1 _ (by simp [h1]))
 simp only [spec_SynVote.f,l6In_f,Option.bind_some]
 refine T.bind_eq (spec_voter V L (by omega)) ?_
 refine T.ite (fun h1=>?_) (fun h1=>bad (nl (.inl (Bool.eq_false_iff.2 h1))))
 refine T.bind_eq (spec_word a0 a1 a2 a3 a4 a5 a6 a7 a8 a9 a10 a11 a12 a13 a14 a15 a16 a17 a18 a19 a20 a21 a22 a23 Pi Ls) ?_
 refine T.ite (fun h2=>?_) (fun h2=>bad (nl (.inr (.inl (Bool.eq_false_iff.2 h2)))))
 refine T.ite (fun h3=>?_) (fun h3=>bad (nl (.inr (.inr (.inl (Bool.eq_false_iff.2 h3))))))
 refine T.ite (fun h4=>?_) (fun h4=>bad (nl (.inr (.inr (.inr (.inl (Bool.eq_false_iff.2 h4)))))))
 refine T.ite (fun h5=>bad (nl (.inr (.inr (.inr (.inr (.inl (decide_eq_false (fun h=>h h5)))))))))  (fun h5=>?_)
 have hu:Uni L:=uni_of ((voterB_iff V L).1 h1).1
 have all:(a0=1 ∨ a0=3)→voteC V L me a0 a1 a2 a3 a4 a5 a6 a7 a8 a9 a10 a11 a12 a13 a14 a15 a16 a17 a18 a19 a20 a21 a22 a23 Pi Ls=true:=fun h=>by
  unfold voteC
  rw [h1,h2,h3,h4,decide_eq_true h5,decide_eq_true h]
  rfl
 refine T.ite (fun h6=>good (all (.inl h6)) hu (.inl h6)) (fun h6=>?_)
 by_cases h7:a0=3
 ·rw [show (a0 != 3)=false by simp [h7]]
  exact good (all (.inr h7)) hu (.inr h7)
 ·rw [show (a0 != 3)=true by simp [h7]]
  exact bad (nl (.inr (.inr (.inr (.inr (.inr (decide_eq_false (fun h=>h.elim h6 h7))))))))
def wasO (m:Option Pp):Int:=match m with
 | some q=>q.f1
 | none=>0
def cmO (m:Option Pp):S24:=match m with
 | some q=>q.f2
 | none=>⟨0,0,0,0,0,0,0,0,0,0⟩
def lastF (s:Int) (m:Option Pp):List Pp→Option Pp
 | []=>m
 | x :: L=>lastF s (if x.f0=s then some x else m) L
theorem lastF_all {s:Int} {x:Pp}:∀ (L:List Pp),(∀ p ∈ L,p.f0=s→p=x)→lastF s (some x) L=some x
 | [],_=>rfl
 | y :: L,h=>by
  rw [lastF]
  have h2:(if y.f0=s then some y else some x)=some x:=by
   by_cases e:y.f0=s
   ·rw [if_pos e,h y (List.mem_cons_self ..) e]
   ·rw [if_neg e]
  rw [h2]
  exact lastF_all L (fun p hp=>h p (List.mem_cons_of_mem _ hp))
theorem lastF_find {s:Int}:∀ (L:List Pp),(∀ p ∈ L,∀ q ∈ L,p.f0=s→q.f0=s→p=q)→lastF s none L=L.find? (fun p=>decide (p.f0=s) && true)
 | [],_=>rfl
 | x :: L,h=>by
  rw [lastF,List.find?_cons]
  by_cases e:x.f0=s
  ·rw [if_pos e]
   rw [show (decide (x.f0=s) && true)=true by simp [e]]
   exact lastF_all L (fun p hp hs=>h p (List.mem_cons_of_mem _ hp) x (List.mem_cons_self ..) hs e)
  ·rw [if_neg e]
   rw [show (decide (x.f0=s) && true)=false by simp [e]]
   exact lastF_find L (fun p hp q hq=>h p (List.mem_cons_of_mem _ hp) q (List.mem_cons_of_mem _ hq))
theorem impl_prom (V:Int) (L:List Pp) (me:Int) (a0 a1 a2 a3 a4 a5 a6 a7 a8 a9 a10 a11 a12 a13 a14 a15 a16 a17 a18 a19 a20 a21 a22 a23:Int) (Pi:List Pc) (Ls:List La) (hL:L.length≤1048576):∀ (n i:Nat) (m:Option Pp),L.length - i=n→i≤L.length →
  T (fun k=>impl_SynVote.l0 k L (L.length:Int) (i:Int) a0 a1 a2 a3 a4 a5 a6 a7 a8 a9 a10 a11 a12 a13 a14 a15 a16 a17 a18 a19 a20 a21 a22 a23 Pi Ls a3 L 2 me a1 a3 a4 (wasO m) (cmO m).f0 (cmO m).f1 (cmO m).f2 (cmO m).f3 (cmO m).f4 (cmO m).f5 (cmO m).f6 (cmO m).f7 (cmO m).f8 (cmO m).f9 0 0 0 0 0 0 0 0) (·=promT me a1 a3 a4 L (lastF a4 m (L.drop i))):=by
 intro n
 induction n with
 | zero =>
  intro i m hn hi
  obtain rfl:i=L.length:=by omega
  rw [List.drop_length]
  refine T.succ ?_
  simp only [impl_SynVote.l0]
  refine T.neg (by omega) (T.ret ?_)
  cases m<;>rfl
 | succ n ih =>
  intro i m hn hi
  have hlt:i<L.length:=by omega
  rw [List.drop_eq_getElem_cons hlt,lastF]
  refine T.succ ?_
  simp only [impl_SynVote.l0,rdPp L i hlt,wrap_succ hlt (show L.length≤4611686018427387904 by omega)]
  refine T.pos (by omega) (T.pos (by omega) (T.pos (by omega) ?_))
  refine T.ite (fun h=>?_) (fun h=>?_)
  ·rw [if_pos h]
   exact ih (i+1) (some L[i]) (by omega) (by omega)
  ·rw [if_neg h]
   exact ih (i+1) m (by omega) (by omega)
theorem putL_len (p:Pp):∀ (L:List Pp) (d:Bool),(putL p d L).length≤2 * L.length+1
 | [],d=>by cases d<;>simp [putL]
 | x :: L,d=>by
  have:=putL_len p L (d || decide (x.f0 ≥ p.f0))
  simp only [putL,List.length_append,List.length_cons]
  split<;>split<;>simp only [List.length_cons,List.length_nil]<;>omega
theorem impl_vote (V:Int) (L:List Pp) (me:Int) (a0 a1 a2 a3 a4 a5 a6 a7 a8 a9 a10 a11 a12 a13 a14 a15 a16 a17 a18 a19 a20 a21 a22 a23:Int) (Pi:List Pc) (Ls:List La) (hL:L.length≤1048576) (hP:Pi.length≤1048576) (hLs:Ls.length≤1048576) (w1:-9223372036854775808≤a1∧a1≤9223372036854775807) (w2:-9223372036854775808≤a2∧a2≤9223372036854775807):T (fun k=>impl_SynVote.f k V L me a0 a1 a2 a3 a4 a5 a6 a7 a8 a9 a10 a11 a12 a13 a14 a15 a16 a17 a18 a19 a20 a21 a22 a23 Pi Ls) (·=voteR V L me a0 a1 a2 a3 a4 a5 a6 a7 a8 a9 a10 a11 a12 a13 a14 a15 a16 a17 a18 a19 a20 a21 a22 a23 Pi Ls):=by
 have bad:voteC V L me a0 a1 a2 a3 a4 a5 a6 a7 a8 a9 a10 a11 a12 a13 a14 a15 a16 a17 a18 a19 a20 a21 a22 a23 Pi Ls=false→T (fun k=>impl_SynVote.j0 k me true V L a0 a1 a2 a3 a4 a5 a6 a7 a8 a9 a10 a11 a12 a13 a14 a15 a16 a17 a18 a19 a20 a21 a22 a23 Pi Ls V L) (·=voteR V L me a0 a1 a2 a3 a4 a5 a6 a7 a8 a9 a10 a11 a12 a13 a14 a15 a16 a17 a18 a19 a20 a21 a22 a23 Pi Ls):=fun h=>by
  rw [voteR_no V L me a0 a1 a2 a3 a4 a5 a6 a7 a8 a9 a10 a11 a12 a13 a14 a15 a16 a17 a18 a19 a20 a21 a22 a23 Pi Ls h]
  refine T.succ ?_
  simp only [impl_SynVote.j0,if_true]
  exact T.ret rfl
 have nl:∀ b c d e f g:Bool,voteC V L me a0 a1 a2 a3 a4 a5 a6 a7 a8 a9 a10 a11 a12 a13 a14 a15 a16 a17 a18 a19 a20 a21 a22 a23 Pi Ls=(b && (c && (d && (e && (f && g)))))→b=false ∨ c=false ∨ d=false ∨ e=false ∨ f=false ∨ g=false→voteC V L me a0 a1 a2 a3 a4 a5 a6 a7 a8 a9 a10 a11 a12 a13 a14 a15 a16 a17 a18 a19 a20 a21 a22 a23 Pi Ls=false:=fun b c d e f g h h2=>by
  rw [h]
  rcases h2 with h2|h2|h2|h2|h2|h2<;>rw [h2]<;>simp
 have nl:=nl _ _ _ _ _ _ rfl
 have good:voteC V L me a0 a1 a2 a3 a4 a5 a6 a7 a8 a9 a10 a11 a12 a13 a14 a15 a16 a17 a18 a19 a20 a21 a22 a23 Pi Ls=true→Uni L→(a0=1 ∨ a0=3)→T (fun k=>impl_SynVote.j0 k me false V L a0 a1 a2 a3 a4 a5 a6 a7 a8 a9 a10 a11 a12 a13 a14 a15 a16 a17 a18 a19 a20 a21 a22 a23 Pi Ls V L) (·=voteR V L me a0 a1 a2 a3 a4 a5 a6 a7 a8 a9 a10 a11 a12 a13 a14 a15 a16 a17 a18 a19 a20 a21 a22 a23 Pi Ls):=fun h hu hk=>by
  have e:voteR V L me a0 a1 a2 a3 a4 a5 a6 a7 a8 a9 a10 a11 a12 a13 a14 a15 a16 a17 a18 a19 a20 a21 a22 a23 Pi Ls=(if a0=1∧a3 > V then promT me a1 a3 a4 L (L.find? (fun p=>decide (p.f0=a4) && true)) else if a0=3∧a3 ≥ V then (a3,putL ⟨a4,a3,⟨a6,a7,a8,a9,a10,a11,a12,a13,a14,a15⟩⟩ false L,4,me,a1,a3,a4,0,0,0,0,0,0,0,0,0,0,0,0,0,0,0,0,0,0,0,[],[],true) else (V,L,5,me,a1,a3,a4,V,0,0,0,0,0,0,0,0,0,0,0,0,0,0,0,0,0,0,[],[],true)):=if_pos h
  rw [e]
  refine T.succ ?_
  simp only [impl_SynVote.j0]
  refine T.neg (by simp) ?_
  have j3:∀ b:Bool,b=decide (a0=3∧a3 ≥ V)→T (fun k=>impl_SynVote.j3 k b a0 a1 a2 a3 a4 a5 a6 a7 a8 a9 a10 a11 a12 a13 a14 a15 a16 a17 a18 a19 a20 a21 a22 a23 Pi Ls V L 5 me a1 a3 a4 V 0 0 0 0 0 0 0 0 0 0 0 0 0 0 0 0 0 0) (·=(if a0=3∧a3 ≥ V then (a3,putL ⟨a4,a3,⟨a6,a7,a8,a9,a10,a11,a12,a13,a14,a15⟩⟩ false L,4,me,a1,a3,a4,0,0,0,0,0,0,0,0,0,0,0,0,0,0,0,0,0,0,0,[],[],true) else (V,L,5,me,a1,a3,a4,V,0,0,0,0,0,0,0,0,0,0,0,0,0,0,0,0,0,0,[],[],true))):=fun b hb=>by
   refine T.succ ?_
   simp only [impl_SynVote.j3]
   refine T.ite (fun h1=>?_) (fun h1=>T.ret ?_)
   ·rw [hb,decide_eq_true_eq] at h1
    rw [if_pos h1]
    refine T.bind_eq (impl_vput ⟨a4,a3,⟨a6,a7,a8,a9,a10,a11,a12,a13,a14,a15⟩⟩ L hL) ?_
    have hl:=putL_len ⟨a4,a3,⟨a6,a7,a8,a9,a10,a11,a12,a13,a14,a15⟩⟩ L false
    simp only [impl_copied_SynPaper.f]
    rw [if_pos (by omega)]
    exact T.ret rfl
   ·rw [hb,decide_eq_true_eq] at h1
    rw [if_neg h1]
  have j1:∀ b:Bool,b=decide (a0=1∧a3 > V)→T (fun k=>impl_SynVote.j1 k b V L a0 a1 a2 a3 a4 a5 a6 a7 a8 a9 a10 a11 a12 a13 a14 a15 a16 a17 a18 a19 a20 a21 a22 a23 Pi Ls V L 5 me a1 a3 a4 V 0 0 0 0 0 0 0 0 0 0 0 0 0 0 0 0 0 0) (·=(if a0=1∧a3 > V then promT me a1 a3 a4 L (L.find? (fun p=>decide (p.f0=a4) && true)) else if a0=3∧a3 ≥ V then (a3,putL ⟨a4,a3,⟨a6,a7,a8,a9,a10,a11,a12,a13,a14,a15⟩⟩ false L,4,me,a1,a3,a4,0,0,0,0,0,0,0,0,0,0,0,0,0,0,0,0,0,0,0,[],[],true) else (V,L,5,me,a1,a3,a4,V,0,0,0,0,0,0,0,0,0,0,0,0,0,0,0,0,0,0,[],[],true))):=fun b hb=>by
   refine T.succ ?_
   simp only [impl_SynVote.j1]
   refine T.ite (fun h1=>?_) (fun h1=>?_)
   ·rw [hb,decide_eq_true_eq] at h1
    rw [if_pos h1,← lastF_find L (fun p hp q hq h1 h2=>hu p hp q hq (by rw [h1,h2]))]
    exact impl_prom V L me a0 a1 a2 a3 a4 a5 a6 a7 a8 a9 a10 a11 a12 a13 a14 a15 a16 a17 a18 a19 a20 a21 a22 a23 Pi Ls hL _ 0 none rfl (Nat.zero_le _)
   ·rw [hb,decide_eq_true_eq] at h1
    rw [if_neg h1]
    refine T.ite (fun h2=>j3 _ (by simp [h2])) (fun h2=>j3 _ (by simp [h2]))
  refine T.ite (fun h1=>j1 _ (by simp [h1])) (fun h1=>j1 _ (by simp [h1]))
 simp only [impl_SynVote.f,impl_voterCopy.f,impl_copied_SynPaper.f,impl_isVoter.f,in_f,Option.bind_some]
 rw [if_pos (by omega)]
 simp only [Option.bind_some]
 refine T.bind_eq (impl_voter V L (by omega)) ?_
 refine T.ite (fun h1=>?_) (fun h1=>bad (nl (.inl (Bool.eq_false_iff.2 h1))))
 refine T.bind_eq (impl_word a0 a1 a2 a3 a4 a5 a6 a7 a8 a9 a10 a11 a12 a13 a14 a15 a16 a17 a18 a19 a20 a21 a22 a23 Pi Ls hP hLs w1 w2) ?_
 refine T.ite (fun h2=>?_) (fun h2=>bad (nl (.inr (.inl (Bool.eq_false_iff.2 h2)))))
 have hu:Uni L:=uni_of ((voterB_iff V L).1 h1).1
 have rest:(a0=1 ∨ a0=3)→T (fun k=>if decide (0≤me∧me≤2)=true then (if decide (1≤a4∧a4≤60)=true then impl_SynVote.j0 k me (decide (a3<1)) V L a0 a1 a2 a3 a4 a5 a6 a7 a8 a9 a10 a11 a12 a13 a14 a15 a16 a17 a18 a19 a20 a21 a22 a23 Pi Ls V L else impl_SynVote.j0 k me true V L a0 a1 a2 a3 a4 a5 a6 a7 a8 a9 a10 a11 a12 a13 a14 a15 a16 a17 a18 a19 a20 a21 a22 a23 Pi Ls V L) else impl_SynVote.j0 k me true V L a0 a1 a2 a3 a4 a5 a6 a7 a8 a9 a10 a11 a12 a13 a14 a15 a16 a17 a18 a19 a20 a21 a22 a23 Pi Ls V L) (·=voteR V L me a0 a1 a2 a3 a4 a5 a6 a7 a8 a9 a10 a11 a12 a13 a14 a15 a16 a17 a18 a19 a20 a21 a22 a23 Pi Ls):=fun h6=>by
  refine T.ite (fun h3=>?_) (fun h3=>bad (nl (.inr (.inr (.inl (Bool.eq_false_iff.2 h3))))))
  refine T.ite (fun h4=>?_) (fun h4=>bad (nl (.inr (.inr (.inr (.inl (Bool.eq_false_iff.2 h4)))))))
  by_cases h5:a3<1
  ·rw [decide_eq_true h5]
   exact bad (nl (.inr (.inr (.inr (.inr (.inl (decide_eq_false (fun h=>h h5))))))))
  ·rw [decide_eq_false h5]
   refine good ?_ hu h6
   unfold voteC
   rw [h1,h2,h3,h4,decide_eq_true h5,decide_eq_true h6]
   rfl
 refine T.ite (fun h6=>rest (.inl h6)) (fun h6=>T.ite (fun h7=>rest (.inr h7)) (fun h7=>?_))
 exact bad (nl (.inr (.inr (.inr (.inr (.inr (decide_eq_false (fun h=>h.elim h6 h7))))))))
end Go.Proofs.YtoieojmfkkidnaaX
