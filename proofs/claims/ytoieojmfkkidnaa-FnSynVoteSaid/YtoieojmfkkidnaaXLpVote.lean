/-
 What the law's own functions come to;what a vote never takes back.
 Conditions: lists of at most two millions of elements.
-/
import Derived.Test.YtoieojmfkkidnaaXVote2
import Derived.Test.YtoieojmfkkidnaaPx14
import Derived.Test.YtoieojmfkkidnaaPx15
namespace Go.Proofs.YtoieojmfkkidnaaX
open Go.RowKit Go.Proofs.Ytoieojmfkkidnaa.P Go.Proofs.YtoieojmfkkidnaaW.PrintWords Go.Proofs.YtoieojmfkkidnaaW.PrintLast Go.Proofs.YtoieojmfkkidnaaW.PrintMore
set_option linter.unusedVariables false
set_option linter.unusedSimpArgs false
theorem runS {g:Nat→Int→Option Bool} (n:Nat) (hg:∀ k (i:Nat),i<n→g (k+1) (i:Int)=g k ((i+1:Nat):Int)) (he:∀ k,g (k+1) (n:Int)=some true):T (fun k=>g k 0) (·=true):=by
 have aux:∀ (d i:Nat),n - i=d→i≤n→T (fun k=>g k (i:Int)) (·=true):=by
  intro d
  induction d with
  | zero =>
   intro i hd hi
   obtain rfl:i=n:=by omega
   exact T.succ (T.congr (T.ret rfl) he)
  | succ d ih =>
   intro i hd hi
   exact T.succ (T.congr (ih (i+1) (by omega) (by omega)) (fun k=>hg k i (by omega)))
 exact aux n 0 rfl (Nat.zero_le _)
theorem lpInts_same (l:List Int) (hl:l.length≤4611686018427387904):T (fun k=>laws_lpInts.f k l l) (·=true):=by
 unfold laws_lpInts.f
 refine T.pos rfl (runS (g:=fun k i=>laws_lpInts.l0 k l l i) l.length (fun k i hi=>?_) (fun k=>?_))
 ·simp only [laws_lpInts.l0]
  rw [if_pos (by omega),if_pos (by omega),if_pos (by omega),if_pos trivial,wrap_succ hi hl]
 ·simp only [laws_lpInts.l0]
  rw [if_neg (by omega)]
theorem lpPieces_same (l:List S138) (hl:l.length≤4611686018427387904):T (fun k=>laws_lpPieces.f k l l) (·=true):=by
 unfold laws_lpPieces.f
 refine T.pos rfl (runS (g:=fun k i=>laws_lpPieces.l0 k l l i) l.length (fun k i hi=>?_) (fun k=>?_))
 ·simp only [laws_lpPieces.l0]
  rw [if_pos (by omega),if_pos (by omega),if_pos (by omega),if_neg (by simp),wrap_succ hi hl]
 ·simp only [laws_lpPieces.l0]
  rw [if_neg (by omega)]
theorem lpLast_same (l:List S140) (hl:l.length≤4611686018427387904):T (fun k=>laws_lpLast.f k l l) (·=true):=by
 unfold laws_lpLast.f
 refine T.pos rfl (runS (g:=fun k i=>laws_lpLast.l0 k l l i) l.length (fun k i hi=>?_) (fun k=>?_))
 ·simp only [laws_lpLast.l0]
  rw [if_pos (by omega),if_pos (by omega),if_pos (by omega),if_neg (by simp),wrap_succ hi hl]
 ·simp only [laws_lpLast.l0]
  rw [if_neg (by omega)]
theorem lpPapers_same (l:List S64) (hl:l.length≤4611686018427387904):T (fun k=>laws_lpPapers.f k l l) (·=true):=by
 unfold laws_lpPapers.f
 refine T.pos rfl (runS (g:=fun k i=>laws_lpPapers.l0 k l l i) l.length (fun k i hi=>?_) (fun k=>?_))
 ·simp only [laws_lpPapers.l0]
  rw [if_pos (by omega),if_pos (by omega),if_pos (by omega),if_neg (by simp),wrap_succ hi hl]
 ·simp only [laws_lpPapers.l0]
  rw [if_neg (by omega)]
theorem lpWord_same (a0 a1 a2 a3 a4 a5 a6 a7 a8 a9 a10 a11 a12 a13 a14 a15 a16 a17 a18 a19 a20 a21 a22 a23:Int) (Pi:List Pc) (Ls:List La) (hP:Pi.length≤4611686018427387904) (hL:Ls.length≤4611686018427387904):T (fun k=>laws_lpWord.f k a0 a1 a2 a3 a4 a5 a6 a7 a8 a9 a10 a11 a12 a13 a14 a15 a16 a17 a18 a19 a20 a21 a22 a23 Pi Ls a0 a1 a2 a3 a4 a5 a6 a7 a8 a9 a10 a11 a12 a13 a14 a15 a16 a17 a18 a19 a20 a21 a22 a23 Pi Ls) (·=true):=by
 simp only [laws_lpWord.f]
 refine T.bind_eq (lpInts_same _ (by simp)) (T.pos rfl (T.pos (by simp) ?_))
 refine T.bind_eq (lpPieces_same Pi hP) (T.pos rfl ?_)
 exact T.bind_eq (lpLast_same Ls hL) (T.ret rfl)
def sameV (p q:Pp):Bool:=(p.f0 == q.f0 && (p.f1 == q.f1 && (p.f2.f0 == q.f2.f0 && (p.f2.f1 == q.f2.f1 && (p.f2.f2 == q.f2.f2 && (p.f2.f3 == q.f2.f3 && (p.f2.f4 == q.f2.f4 && (p.f2.f5 == q.f2.f5 && (p.f2.f6 == q.f2.f6 && (p.f2.f7 == q.f2.f7 && (p.f2.f8 == q.f2.f8 && (p.f2.f9 == q.f2.f9))))))))))))
theorem sameV_iff (p q:Pp):sameV p q=true ↔ p=q:=by
 obtain ⟨a0,a1,⟨b0,b1,b2,b3,b4,b5,b6,b7,b8,b9⟩⟩:=p
 obtain ⟨c0,c1,⟨d0,d1,d2,d3,d4,d5,d6,d7,d8,d9⟩⟩:=q
 simp [sameV]
/-- A paper that stands for another one. -/
def stands (V a0 a3:Int) (p q:Pp):Prop:=q=p ∨ (q.f0=p.f0∧q.f1 ≥ p.f1∧a0=3∧a3 ≥ V)
theorem law_l1 (V:Int) (L:List Pp) (a0 a1 a2 a3 a4 a5 a6 a7 a8 a9 a10 a11 a12 a13 a14 a15 a16 a17 a18 a19 a20 a21 a22 a23:Int) (Pi:List Pc) (Ls:List La) (xP:Int) (xL:List Pp) (y0 y1 y2 y3 y4 y5 y6 y7 y8 y9 y10 y11 y12 y13 y14 y15 y16 y17 y18 y19 y20 y21 y22 y23:Int) (yP:List Pc) (yL:List La) (r:Bool) (hx:xL.length≤4000000) (i:Nat) (hi:i<L.length) (hr:T (fun k=>laws_FnSynVote.l0 k (wrap64 ((i:Int)+1)) V L a0 a1 a2 a3 a4 a5 a6 a7 a8 a9 a10 a11 a12 a13 a14 a15 a16 a17 a18 a19 a20 a21 a22 a23 Pi Ls xP xL y0 y1 y2 y3 y4 y5 y6 y7 y8 y9 y10 y11 y12 y13 y14 y15 y16 y17 y18 y19 y20 y21 y22 y23 yP yL) (·=r)):∀ (n j:Nat) (f:Bool),xL.length - j=n→j≤xL.length→(f=true ∨ ∃ q ∈ xL.drop j,stands V a0 a3 L[i] q) →
  T (fun k=>laws_FnSynVote.l1 k (i:Int) f (j:Int) V L a0 a1 a2 a3 a4 a5 a6 a7 a8 a9 a10 a11 a12 a13 a14 a15 a16 a17 a18 a19 a20 a21 a22 a23 Pi Ls xP xL y0 y1 y2 y3 y4 y5 y6 y7 y8 y9 y10 y11 y12 y13 y14 y15 y16 y17 y18 y19 y20 y21 y22 y23 yP yL) (·=r):=by
 intro n
 induction n with
 | zero =>
  intro j f hn hj hf
  obtain rfl:j=xL.length:=by omega
  have hf:f=true:=by
   obtain hf|⟨q,hq,_⟩:=hf
   ·exact hf
   ·rw [List.drop_length] at hq
    cases hq
  refine T.succ ?_
  simp only [laws_FnSynVote.l1]
  exact T.neg (by omega) (T.pos hf hr)
 | succ n ih =>
  intro j f hn hj hf
  have hlt:j<xL.length:=by omega
  have next:=fun f hf=>ih (j+1) f (by omega) (by omega) hf
  refine T.succ ?_
  simp only [laws_FnSynVote.l1,wrap_succ hlt (show xL.length≤4611686018427387904 by omega),rdPp xL j hlt,rdPp L i hi]
  refine T.pos (by omega) (T.ite (fun h=>next true (.inl rfl)) (fun h=>?_))
  have hf:∃ q ∈ xL.drop j,stands V a0 a3 L[i] q:=hf.resolve_left h
  obtain ⟨q,hq,hs⟩:=hf
  rw [List.drop_eq_getElem_cons hlt] at hq
  refine T.pos (by omega) (T.pos (by omega) (T.pos (by omega) ?_))
  have e:(xL[j].f0 == L[i].f0 && (xL[j].f1 == L[i].f1 && (xL[j].f2.f0 == L[i].f2.f0 && (xL[j].f2.f1 == L[i].f2.f1 && (xL[j].f2.f2 == L[i].f2.f2 && (xL[j].f2.f3 == L[i].f2.f3 && (xL[j].f2.f4 == L[i].f2.f4 && (xL[j].f2.f5 == L[i].f2.f5 && (xL[j].f2.f6 == L[i].f2.f6 && (xL[j].f2.f7 == L[i].f2.f7 && (xL[j].f2.f8 == L[i].f2.f8 && (xL[j].f2.f9 == L[i].f2.f9))))))))))))=sameV xL[j] L[i]:=rfl
  rw [e]
  refine T.ite (fun h1=>next true (.inl rfl)) (fun h1=>?_)
  have go:∀ f:Bool,(stands V a0 a3 L[i] xL[j]→f=true)→T (fun k=>laws_FnSynVote.l1 k (i:Int) f ((j+1:Nat):Int) V L a0 a1 a2 a3 a4 a5 a6 a7 a8 a9 a10 a11 a12 a13 a14 a15 a16 a17 a18 a19 a20 a21 a22 a23 Pi Ls xP xL y0 y1 y2 y3 y4 y5 y6 y7 y8 y9 y10 y11 y12 y13 y14 y15 y16 y17 y18 y19 y20 y21 y22 y23 yP yL) (·=r):=fun f hf=>next f (by
   obtain rfl|hq:=List.mem_cons.1 hq
   ·exact .inl (hf hs)
   ·exact .inr ⟨q,hq,hs⟩)
  have ne:xL[j]≠L[i]:=fun h=>h1 ((sameV_iff _ _).2 h)
  refine T.ite (fun h2=>?_) (fun h2=>go false (fun h=>absurd (h.resolve_left ne).1 h2))
  refine T.ite (fun h3=>?_) (fun h3=>go false (fun h=>absurd (h.resolve_left ne).2.1 h3))
  refine T.ite (fun h4=>?_) (fun h4=>go false (fun h=>absurd (h.resolve_left ne).2.2.1 h4))
  exact go _ (fun h=>decide_eq_true (h.resolve_left ne).2.2.2)
theorem law_l0 (V:Int) (L:List Pp) (a0 a1 a2 a3 a4 a5 a6 a7 a8 a9 a10 a11 a12 a13 a14 a15 a16 a17 a18 a19 a20 a21 a22 a23:Int) (Pi:List Pc) (Ls:List La) (xP:Int) (xL:List Pp) (y0 y1 y2 y3 y4 y5 y6 y7 y8 y9 y10 y11 y12 y13 y14 y15 y16 y17 y18 y19 y20 y21 y22 y23:Int) (yP:List Pc) (yL:List La) (hx:xL.length≤4000000) (hL:L.length≤4000000) (hall:∀ p ∈ L,∃ q ∈ xL,stands V a0 a3 p q) (hk:y0=4→a3 ≥ V):∀ (n i:Nat),L.length - i=n→i≤L.length →
  T (fun k=>laws_FnSynVote.l0 k (i:Int) V L a0 a1 a2 a3 a4 a5 a6 a7 a8 a9 a10 a11 a12 a13 a14 a15 a16 a17 a18 a19 a20 a21 a22 a23 Pi Ls xP xL y0 y1 y2 y3 y4 y5 y6 y7 y8 y9 y10 y11 y12 y13 y14 y15 y16 y17 y18 y19 y20 y21 y22 y23 yP yL) (·=true):=by
 intro n
 induction n with
 | zero =>
  intro i hn hi
  obtain rfl:i=L.length:=by omega
  refine T.succ ?_
  simp only [laws_FnSynVote.l0]
  refine T.neg (by omega) (T.ite (fun h=>T.ret (decide_eq_true (hk h))) (fun _=>T.ret rfl))
 | succ n ih =>
  intro i hn hi
  have hlt:i<L.length:=by omega
  refine T.succ ?_
  simp only [laws_FnSynVote.l0]
  refine T.pos (by omega) ?_
  refine law_l1 V L a0 a1 a2 a3 a4 a5 a6 a7 a8 a9 a10 a11 a12 a13 a14 a15 a16 a17 a18 a19 a20 a21 a22 a23 Pi Ls xP xL y0 y1 y2 y3 y4 y5 y6 y7 y8 y9 y10 y11 y12 y13 y14 y15 y16 y17 y18 y19 y20 y21 y22 y23 yP yL true hx i hlt ?_ xL.length 0 false rfl (Nat.zero_le _) (.inr (hall _ (List.getElem_mem hlt)))
  rw [wrap_succ hlt (show L.length≤4611686018427387904 by omega)]
  exact ih (i+1) (by omega) (by omega)
theorem word_num {a0 a1 a2 a3 a4 a5 a6 a7 a8 a9 a10 a11 a12 a13 a14 a15 a16 a17 a18 a19 a20 a21 a22 a23:Int} {Pi:List Pc} {Ls:List La} (h:wordB a0 a1 a2 a3 a4 a5 a6 a7 a8 a9 a10 a11 a12 a13 a14 a15 a16 a17 a18 a19 a20 a21 a22 a23 Pi Ls=true):a3≤99999∧cmdB a6 a7 a8 a9 a10 a11 a12 a13 a14 a15=true:=by
 unfold wordB restB at h
 simp only [Bool.and_eq_true] at h
 refine ⟨?_,h.2.2.2.2.1⟩
 have:=List.all_eq_true.1 h.1 a3 (by simp [n24])
 unfold okN at this
 exact (of_decide_eq_true this).2
/-- A vote that is told: nothing is taken back. -/
theorem vote_good (V:Int) (L:List Pp) (me:Int) (a0 a1 a2 a3 a4 a5 a6 a7 a8 a9 a10 a11 a12 a13 a14 a15 a16 a17 a18 a19 a20 a21 a22 a23:Int) (Pi:List Pc) (Ls:List La) (hok:(voteR V L me a0 a1 a2 a3 a4 a5 a6 a7 a8 a9 a10 a11 a12 a13 a14 a15 a16 a17 a18 a19 a20 a21 a22 a23 Pi Ls).2.2.2.2.2.2.2.2.2.2.2.2.2.2.2.2.2.2.2.2.2.2.2.2.2.2.2.2=true):voterB V L=true∧voterB (voteR V L me a0 a1 a2 a3 a4 a5 a6 a7 a8 a9 a10 a11 a12 a13 a14 a15 a16 a17 a18 a19 a20 a21 a22 a23 Pi Ls).1 (voteR V L me a0 a1 a2 a3 a4 a5 a6 a7 a8 a9 a10 a11 a12 a13 a14 a15 a16 a17 a18 a19 a20 a21 a22 a23 Pi Ls).2.1=true∧V≤(voteR V L me a0 a1 a2 a3 a4 a5 a6 a7 a8 a9 a10 a11 a12 a13 a14 a15 a16 a17 a18 a19 a20 a21 a22 a23 Pi Ls).1∧L.length≤(voteR V L me a0 a1 a2 a3 a4 a5 a6 a7 a8 a9 a10 a11 a12 a13 a14 a15 a16 a17 a18 a19 a20 a21 a22 a23 Pi Ls).2.1.length∧(∀ p ∈ L,∃ q ∈ (voteR V L me a0 a1 a2 a3 a4 a5 a6 a7 a8 a9 a10 a11 a12 a13 a14 a15 a16 a17 a18 a19 a20 a21 a22 a23 Pi Ls).2.1,stands V a0 a3 p q)∧((voteR V L me a0 a1 a2 a3 a4 a5 a6 a7 a8 a9 a10 a11 a12 a13 a14 a15 a16 a17 a18 a19 a20 a21 a22 a23 Pi Ls).2.2.1=4→a3 ≥ V):=by
 unfold voteR at hok ⊢
 by_cases hc:voteC V L me a0 a1 a2 a3 a4 a5 a6 a7 a8 a9 a10 a11 a12 a13 a14 a15 a16 a17 a18 a19 a20 a21 a22 a23 Pi Ls=true
 ·rw [if_pos hc]
  have hc2:=hc
  unfold voteC at hc2
  simp only [Bool.and_eq_true,decide_eq_true_eq] at hc2
  obtain ⟨hv,hw,_,hslot,hb,hk⟩:=hc2
  obtain ⟨h5,hcmd⟩:=word_num hw
  by_cases h1:a0=1∧a3 > V
  ·rw [if_pos h1]
   have e1:∀ m,(promT me a1 a3 a4 L m).1=a3:=fun m=>by cases m<;>rfl
   have e2:∀ m,(promT me a1 a3 a4 L m).2.1=L:=fun m=>by cases m<;>rfl
   have e3:∀ m,(promT me a1 a3 a4 L m).2.2.1=2:=fun m=>by cases m<;>rfl
   rw [e1,e2,e3]
   exact ⟨hv,voter_prom hv h1.2 h5,by omega,Nat.le_refl _,fun p hp=>⟨p,hp,.inl rfl⟩,fun h=>by omega⟩
  ·rw [if_neg h1]
   by_cases h2:a0=3∧a3 ≥ V
   ·rw [if_pos h2]
    have hp:paperB ⟨a4,a3,⟨a6,a7,a8,a9,a10,a11,a12,a13,a14,a15⟩⟩=true:=by
     unfold paperB
     simp only
     rw [decide_eq_true hslot,decide_eq_true (show 1≤a3∧a3≤99999 by omega),hcmd]
     rfl
    obtain ⟨hs,_,_⟩:=(voterB_iff V L).1 hv
    obtain ⟨q1,q2⟩:=(slots_iff V L).1 hs
    refine ⟨hv,voter_put hv h2.2 h5 hp,h2.2,put_more L q2,fun p hp=>?_,fun _=>h2.2⟩
    by_cases h3:p.f0=a4
    ·refine ⟨_,(mem_put L).2 (.inl rfl),.inr ⟨h3.symm,?_,h2⟩⟩
     have:=(q1 p hp).2
     show a3 ≥ p.f1
     omega
    ·exact ⟨p,(mem_put L).2 (.inr ⟨hp,h3⟩),.inl rfl⟩
   ·rw [if_neg h2]
    exact ⟨hv,hv,Int.le_refl _,Nat.le_refl _,fun p hp=>⟨p,hp,.inl rfl⟩,fun h=>by simp at h⟩
 ·rw [if_neg hc] at hok
  simp at hok
theorem vote_bad (V:Int) (L:List Pp) (me:Int) (a0 a1 a2 a3 a4 a5 a6 a7 a8 a9 a10 a11 a12 a13 a14 a15 a16 a17 a18 a19 a20 a21 a22 a23:Int) (Pi:List Pc) (Ls:List La) (hok:(voteR V L me a0 a1 a2 a3 a4 a5 a6 a7 a8 a9 a10 a11 a12 a13 a14 a15 a16 a17 a18 a19 a20 a21 a22 a23 Pi Ls).2.2.2.2.2.2.2.2.2.2.2.2.2.2.2.2.2.2.2.2.2.2.2.2.2.2.2.2=false):(voteR V L me a0 a1 a2 a3 a4 a5 a6 a7 a8 a9 a10 a11 a12 a13 a14 a15 a16 a17 a18 a19 a20 a21 a22 a23 Pi Ls).2.2.1=0∧(voteR V L me a0 a1 a2 a3 a4 a5 a6 a7 a8 a9 a10 a11 a12 a13 a14 a15 a16 a17 a18 a19 a20 a21 a22 a23 Pi Ls).1=V:=by
 unfold voteR at hok ⊢
 by_cases hc:voteC V L me a0 a1 a2 a3 a4 a5 a6 a7 a8 a9 a10 a11 a12 a13 a14 a15 a16 a17 a18 a19 a20 a21 a22 a23 Pi Ls=true
 ·rw [if_pos hc] at hok
  by_cases h1:a0=1∧a3 > V
  ·rw [if_pos h1] at hok
   have e4:∀ m,(promT me a1 a3 a4 L m).2.2.2.2.2.2.2.2.2.2.2.2.2.2.2.2.2.2.2.2.2.2.2.2.2.2.2.2=true:=fun m=>by cases m<;>rfl
   rw [e4] at hok
   cases hok
  ·rw [if_neg h1] at hok
   by_cases h2:a0=3∧a3 ≥ V
   ·rw [if_pos h2] at hok
    cases hok
   ·rw [if_neg h2] at hok
    cases hok
 ·rw [if_neg hc]
  exact ⟨rfl,rfl⟩
end Go.Proofs.YtoieojmfkkidnaaX
