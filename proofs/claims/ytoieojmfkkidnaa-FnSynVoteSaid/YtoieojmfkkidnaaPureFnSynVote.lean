/-
 A voter never takes back a promise.
 Conditions: those of the pure statement,none beside.
-/
import Derived.Test.YtoieojmfkkidnaaPx15
import Derived.Test.YtoieojmfkkidnaaXDrawVote
import Derived.Test.YtoieojmfkkidnaaXLpVote
namespace Go.Proofs.Ytoieojmfkkidnaa.Pure
open Go.RowKit Go.Proofs.Ytoieojmfkkidnaa.P Go.Proofs.YtoieojmfkkidnaaX Go.Proofs.YtoieojmfkkidnaaW.PrintWords Go.Proofs.YtoieojmfkkidnaaW.PrintLast Go.Proofs.YtoieojmfkkidnaaW.PrintMore
set_option linter.unusedVariables false
set_option linter.unusedSimpArgs false
theorem FnSynVote:laws_FnSynVote.Pure:=by
 intro l hm _ hw
 refine T.rounds (g:=fun k=>laws_FnSynVote.f k l) ?_
 simp only [laws_FnSynVote.f]
 refine T.ite (fun _=>T.ret rfl) (fun _=>?_)
 refine T.bind (drawVote_T l hw hm) (fun r hr=>?_)
 obtain ⟨V,L,me,a0,a1,a2,a3,a4,a5,a6,a7,a8,a9,a10,a11,a12,a13,a14,a15,a16,a17,a18,a19,a20,a21,a22,a23,Pi,Ls⟩:=r
 simp only at hr
 obtain ⟨hL,w1,w2,hP,hLs⟩:=hr
 refine T.bind_eq (spec_vote V L me a0 a1 a2 a3 a4 a5 a6 a7 a8 a9 a10 a11 a12 a13 a14 a15 a16 a17 a18 a19 a20 a21 a22 a23 Pi Ls (by omega)) ?_
 refine T.bind_eq (spec_voter V L (by omega)) ?_
 refine T.bind_eq (impl_vote V L me a0 a1 a2 a3 a4 a5 a6 a7 a8 a9 a10 a11 a12 a13 a14 a15 a16 a17 a18 a19 a20 a21 a22 a23 Pi Ls (by omega) (by omega) (by omega) (by omega) (by omega)) ?_
 have good:=vote_good V L me a0 a1 a2 a3 a4 a5 a6 a7 a8 a9 a10 a11 a12 a13 a14 a15 a16 a17 a18 a19 a20 a21 a22 a23 Pi Ls
 have bad:=vote_bad V L me a0 a1 a2 a3 a4 a5 a6 a7 a8 a9 a10 a11 a12 a13 a14 a15 a16 a17 a18 a19 a20 a21 a22 a23 Pi Ls
 have hlen:=voteR_len V L me a0 a1 a2 a3 a4 a5 a6 a7 a8 a9 a10 a11 a12 a13 a14 a15 a16 a17 a18 a19 a20 a21 a22 a23 Pi Ls
 have hrows:(voteR V L me a0 a1 a2 a3 a4 a5 a6 a7 a8 a9 a10 a11 a12 a13 a14 a15 a16 a17 a18 a19 a20 a21 a22 a23 Pi Ls).2.2.2.2.2.2.2.2.2.2.2.2.2.2.2.2.2.2.2.2.2.2.2.2.2.2.1=[]∧(voteR V L me a0 a1 a2 a3 a4 a5 a6 a7 a8 a9 a10 a11 a12 a13 a14 a15 a16 a17 a18 a19 a20 a21 a22 a23 Pi Ls).2.2.2.2.2.2.2.2.2.2.2.2.2.2.2.2.2.2.2.2.2.2.2.2.2.2.2.1=[]:=by
  unfold voteR promT
  split
  ·split
   ·split<;>exact ⟨rfl,rfl⟩
   ·split<;>exact ⟨rfl,rfl⟩
  ·exact ⟨rfl,rfl⟩
 generalize voteR V L me a0 a1 a2 a3 a4 a5 a6 a7 a8 a9 a10 a11 a12 a13 a14 a15 a16 a17 a18 a19 a20 a21 a22 a23 Pi Ls=X at good bad hlen hrows ⊢
 obtain ⟨xP,xL,y0,y1,y2,y3,y4,y5,y6,y7,y8,y9,y10,y11,y12,y13,y14,y15,y16,y17,y18,y19,y20,y21,y22,y23,yP,yL,ok⟩:=X
 simp only at good bad hlen hrows ⊢
 obtain ⟨rfl,rfl⟩:=hrows
 refine T.neg (by simp) ?_
 refine T.bind_eq (lpWord_same y0 y1 y2 y3 y4 y5 y6 y7 y8 y9 y10 y11 y12 y13 y14 y15 y16 y17 y18 y19 y20 y21 y22 y23 [] [] (by simp) (by simp)) ?_
 refine T.pos rfl (T.pos trivial ?_)
 refine T.bind_eq (lpPapers_same xL (by omega)) ?_
 refine T.succ ?_
 simp only [laws_FnSynVote.j0]
 refine T.neg (by simp) ?_
 refine T.ite (fun h=>?_) (fun h=>?_)
 ·obtain ⟨hv,hx,g1,g2,g3,g4⟩:=good h
  refine T.pos hv ?_
  refine T.bind_eq (impl_voter xP xL (by omega)) ?_
  refine T.pos hx (T.neg (by omega) ?_)
  rw [decide_eq_false (by omega)]
  refine T.succ ?_
  simp only [laws_FnSynVote.j1]
  refine T.neg (by simp) ?_
  exact law_l0 V L a0 a1 a2 a3 a4 a5 a6 a7 a8 a9 a10 a11 a12 a13 a14 a15 a16 a17 a18 a19 a20 a21 a22 a23 Pi Ls xP xL y0 y1 y2 y3 y4 y5 y6 y7 y8 y9 y10 y11 y12 y13 y14 y15 y16 y17 y18 y19 y20 y21 y22 y23 [] [] (by omega) (by omega) g3 g4 _ 0 rfl (Nat.zero_le _)
 ·obtain ⟨b1,b2⟩:=bad (Bool.eq_false_iff.2 h)
  exact T.pos b1 (T.ret (by simp [b2]))
end Go.Proofs.Ytoieojmfkkidnaa.Pure
