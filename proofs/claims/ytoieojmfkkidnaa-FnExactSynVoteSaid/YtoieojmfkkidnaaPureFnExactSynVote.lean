/-
 The program's SynVote answers as the reference's,for all arguments,in new memory.
 Conditions: those of the pure statement,none beside.
-/
import Derived.Test.YtoieojmfkkidnaaPx11
import Derived.Test.YtoieojmfkkidnaaXVote
import Derived.Test.YtoieojmfkkidnaaXExWord
import Derived.Test.YtoieojmfkkidnaaXExVoteM
import Derived.Test.YtoieojmfkkidnaaPx2
namespace Go.Proofs.Ytoieojmfkkidnaa.Pure
open Go.RowKit Go.Proofs.Ytoieojmfkkidnaa.P Go.Proofs.YtoieojmfkkidnaaX Go.Proofs.YtoieojmfkkidnaaW.PrintWords Go.Proofs.YtoieojmfkkidnaaW.PrintLast Go.Proofs.YtoieojmfkkidnaaW.PrintMore
set_option linter.unusedVariables false
set_option linter.unusedSimpArgs false
theorem szV (P:Int) (l:List S57) (hl:l.length≤9223372036854775807):∃ r,laws_szSynVoter.f P l 1048576=some r∧(r<0 ∨ ((l.length:Int)≤1048576∧0≤r∧r≤1048576)):=by
 unfold laws_szSynVoter.f laws_szSynPaperS.f
 rw [wrap64_id (x:=1048576 - (l.length:Int)) (by omega) (by omega)]
 by_cases h:1048576 - (l.length:Int)<0
 ·rw [if_pos h];exact ⟨-1,rfl,.inl (by omega)⟩
 ·rw [if_neg h]
  simp only [Option.bind_some]
  rw [if_neg h]
  exact ⟨_,rfl,.inr (by omega)⟩
theorem szW (a0 a1 a2 a3 a4 a5 a6 a7 a8 a9 a10 a11 a12 a13 a14 a15 a16 a17 a18 a19 a20 a21 a22 a23:Int) (P:List S146) (L:List S148) (x:Int) (h0:0≤x) (hx:x≤1048576) (h1:P.length≤9223372036854775807) (h2:L.length≤9223372036854775807):∃ r,laws_szWord.f a0 a1 a2 a3 a4 a5 a6 a7 a8 a9 a10 a11 a12 a13 a14 a15 a16 a17 a18 a19 a20 a21 a22 a23 P L x=some r∧(r<0 ∨ P.length≤1048576∧L.length≤1048576):=by
 unfold laws_szWord.f
 rw [szBlkPieceS_f P x (by omega) (by omega) h1]
 simp only [Option.bind_some]
 by_cases h:x<(P.length:Int)
 ·rw [if_pos h,if_pos (by omega)];exact ⟨-1,rfl,.inl (by omega)⟩
 ·rw [if_neg h,if_neg (by omega),szBlkLastS_f L _ (by omega) (by omega) h2]
  simp only [Option.bind_some]
  by_cases h3:x - (P.length:Int)<(L.length:Int)
  ·rw [if_pos h3,if_pos (by omega)];exact ⟨-1,rfl,.inl (by omega)⟩
  ·rw [if_neg h3,if_neg (by omega)];exact ⟨_,rfl,.inr (by omega)⟩
theorem markV (Q:Int) (L:List S64) (h:L.length≤10000000):T (fun k=>laws_markSynVoter.f k Q L 1) (fun r=>r.1=1+12 * (L.length:Int)∧r.2.length=L.length∧MkSynPaper 1 r.2):=by
 simp only [laws_markSynVoter.f]
 exact T.bind (markSynPaperS_T L 1 (by omega) (by omega)) (fun m hm=>T.ret hm)
theorem markW (a0 a1 a2 a3 a4 a5 a6 a7 a8 a9 a10 a11 a12 a13 a14 a15 a16 a17 a18 a19 a20 a21 a22 a23:Int) (P:List S138) (L:List S140) (K:Int) (h0:0≤K) (hK:K≤200000000) (h1:P.length≤10000000) (h2:L.length≤10000000):T (fun k=>laws_markWord.f k a0 a1 a2 a3 a4 a5 a6 a7 a8 a9 a10 a11 a12 a13 a14 a15 a16 a17 a18 a19 a20 a21 a22 a23 P L K) (fun r=>r.1=K+4 * (P.length:Int)+2 * (L.length:Int)∧r.2.1.length=P.length∧MkBlkPiece K r.2.1∧r.2.2.length=L.length∧MkBlkLast (K+4 * (P.length:Int)) r.2.2):=by
 simp only [laws_markWord.f]
 refine T.bind (markBlkPieceS_T P K (by omega) (by omega)) (fun m1 hm1=>?_)
 obtain ⟨e1,e2,e3⟩:=hm1
 refine T.bind (markBlkLastS_T L m1.1 (by omega) (by omega)) (fun m2 hm2=>T.ret ?_)
 obtain ⟨g1,g2,g3⟩:=hm2
 rw [e1] at g1 g3
 exact ⟨g1,e2,e3,g2,g3⟩
theorem heldV (Q:Int) (L:List S64) (h:L.length≤10000000) (hm:MkSynPaper 1 L):T (fun k=>laws_heldSynVoter.f k Q L 1) (·=1+12 * (L.length:Int)):=by
 simp only [laws_heldSynVoter.f]
 refine T.bind_eq (heldSynPaperS_T L 1 (by omega) (by omega) hm) (T.neg (by omega) (T.ret rfl))
theorem heldW (a0 a1 a2 a3 a4 a5 a6 a7 a8 a9 a10 a11 a12 a13 a14 a15 a16 a17 a18 a19 a20 a21 a22 a23:Int) (P:List S138) (L:List S140) (K:Int) (h0:0≤K) (hK:K≤200000000) (h1:P.length≤10000000) (h2:L.length≤10000000) (hm1:MkBlkPiece K P) (hm2:MkBlkLast (K+4 * (P.length:Int)) L):T (fun k=>laws_heldWord.f k a0 a1 a2 a3 a4 a5 a6 a7 a8 a9 a10 a11 a12 a13 a14 a15 a16 a17 a18 a19 a20 a21 a22 a23 P L K) (·=K+4 * (P.length:Int)+2 * (L.length:Int)):=by
 simp only [laws_heldWord.f]
 refine T.bind_eq (heldBlkPieceS_T P K (by omega) (by omega) hm1) (T.neg (by omega) ?_)
 exact T.bind_eq (heldBlkLastS_T L _ (by omega) (by omega) hm2) (T.neg (by omega) (T.ret rfl))
theorem eqV (Q:Int) (L:List S64) (h:L.length≤10000000):T (fun k=>laws_eqSynVoter.f k Q L Q L) (·=true):=(eqVoter_T Q Q L L (by omega)).mono (fun r hr=>hr.2 ⟨rfl,rfl⟩)
theorem voteR_len (V:Int) (L:List Pp) (me:Int) (a0 a1 a2 a3 a4 a5 a6 a7 a8 a9 a10 a11 a12 a13 a14 a15 a16 a17 a18 a19 a20 a21 a22 a23:Int) (Pi:List Pc) (Ls:List La):(voteR V L me a0 a1 a2 a3 a4 a5 a6 a7 a8 a9 a10 a11 a12 a13 a14 a15 a16 a17 a18 a19 a20 a21 a22 a23 Pi Ls).2.1.length≤2 * L.length+1:=by
 unfold voteR promT
 split
 ·split
  ·split<;>simp only<;>omega
  ·split
   ·exact putL_len _ L false
   ·simp only
    omega
 ·simp only
  omega
theorem FnExactSynVote:laws_FnExactSynVote.Pure:=by
 intro V0 L0 me a0 a1 a2 a3 a4 a5 a6 a7 a8 a9 a10 a11 a12 a13 a14 a15 a16 a17 a18 a19 a20 a21 a22 a23 P L hw0 _ hw
 have w1:=wf_i64 hw.2.1
 have w2:=wf_i64 hw.2.2.1
 have wL0:L0.length≤maxLen:=hw0.2.1
 have wP:P.length≤maxLen:=hw.2.2.2.2.2.2.2.2.2.2.2.2.2.2.2.1.1
 have wL:L.length≤maxLen:=hw.2.2.2.2.2.2.2.2.2.2.2.2.2.2.2.2.1
 have hm:maxLen≤9223372036854775807:=by decide
 refine T.rounds (g:=fun k=>laws_FnExactSynVote.f k V0 L0 me a0 a1 a2 a3 a4 a5 a6 a7 a8 a9 a10 a11 a12 a13 a14 a15 a16 a17 a18 a19 a20 a21 a22 a23 P L) ?_
 obtain ⟨r,hr,hr2⟩:=szV V0 L0 (by omega)
 simp only [laws_FnExactSynVote.f,hr,Option.bind_some]
 refine T.ite (fun _=>T.ret rfl) (fun h=>?_)
 obtain ⟨s,hs,hs2⟩:=szW a0 a1 a2 a3 a4 a5 a6 a7 a8 a9 a10 a11 a12 a13 a14 a15 a16 a17 a18 a19 a20 a21 a22 a23 P L r (by omega) (by omega) (by omega) (by omega)
 simp only [hs,Option.bind_some]
 refine T.ite (fun _=>T.ret rfl) (fun h2=>?_)
 have hL0:L0.length≤1048576:=by omega
 have hP:P.length≤1048576:=by omega
 have hL:L.length≤1048576:=by omega
 have kL0:(L0.map toPp).length≤1048576:=by rw [List.length_map];exact hL0
 have kP:(P.map toBlkPiece).length≤1048576:=by rw [List.length_map];exact hP
 have kL:(L.map toBlkLast).length≤1048576:=by rw [List.length_map];exact hL
 have tV:=toVoter_T V0 L0 hL0
 have tW:=toWord_T a0 a1 a2 a3 a4 a5 a6 a7 a8 a9 a10 a11 a12 a13 a14 a15 a16 a17 a18 a19 a20 a21 a22 a23 P L hP hL
 have iV:=impl_vote V0 (L0.map toPp) me a0 a1 a2 a3 a4 a5 a6 a7 a8 a9 a10 a11 a12 a13 a14 a15 a16 a17 a18 a19 a20 a21 a22 a23 (P.map toBlkPiece) (L.map toBlkLast) kL0 kP kL w1 w2
 have hlen:=voteR_len V0 (L0.map toPp) me a0 a1 a2 a3 a4 a5 a6 a7 a8 a9 a10 a11 a12 a13 a14 a15 a16 a17 a18 a19 a20 a21 a22 a23 (P.map toBlkPiece) (L.map toBlkLast)
 have hrows:(voteR V0 (L0.map toPp) me a0 a1 a2 a3 a4 a5 a6 a7 a8 a9 a10 a11 a12 a13 a14 a15 a16 a17 a18 a19 a20 a21 a22 a23 (P.map toBlkPiece) (L.map toBlkLast)).2.2.2.2.2.2.2.2.2.2.2.2.2.2.2.2.2.2.2.2.2.2.2.2.2.2.1=[]∧(voteR V0 (L0.map toPp) me a0 a1 a2 a3 a4 a5 a6 a7 a8 a9 a10 a11 a12 a13 a14 a15 a16 a17 a18 a19 a20 a21 a22 a23 (P.map toBlkPiece) (L.map toBlkLast)).2.2.2.2.2.2.2.2.2.2.2.2.2.2.2.2.2.2.2.2.2.2.2.2.2.2.2.1=[]:=by
  unfold voteR promT
  split
  ·split
   ·split<;>exact ⟨rfl,rfl⟩
   ·split<;>exact ⟨rfl,rfl⟩
  ·exact ⟨rfl,rfl⟩
 refine T.bind_eq tV (T.bind_eq tW ?_)
 refine T.bind_eq (spec_vote V0 (L0.map toPp) me a0 a1 a2 a3 a4 a5 a6 a7 a8 a9 a10 a11 a12 a13 a14 a15 a16 a17 a18 a19 a20 a21 a22 a23 (P.map toBlkPiece) (L.map toBlkLast) kL0) ?_
 refine T.bind_eq tV (T.bind_eq tW (T.bind_eq iV ?_))
 generalize voteR V0 (L0.map toPp) me a0 a1 a2 a3 a4 a5 a6 a7 a8 a9 a10 a11 a12 a13 a14 a15 a16 a17 a18 a19 a20 a21 a22 a23 (P.map toBlkPiece) (L.map toBlkLast)=X at hlen hrows iV ⊢
 obtain ⟨xP,xL,y0,y1,y2,y3,y4,y5,y6,y7,y8,y9,y10,y11,y12,y13,y14,y15,y16,y17,y18,y19,y20,y21,y22,y23,yP,yL,ok⟩:=X
 simp only at hlen hrows iV ⊢
 obtain ⟨rfl,rfl⟩:=hrows
 have kx:xL.length≤10000000:=by omega
 have eX:=eqV xP xL kx
 have eW:=eqWord_same y0 y1 y2 y3 y4 y5 y6 y7 y8 y9 y10 y11 y12 y13 y14 y15 y16 y17 y18 y19 y20 y21 y22 y23 [] [] (by simp) (by simp)
 refine T.bind_eq eX (T.pos rfl ?_)
 refine T.bind_eq eW (T.pos rfl (T.neg (by simp) ?_))
 refine T.bind_eq tV (T.bind_eq (eqV V0 (L0.map toPp) (by omega)) (T.pos rfl ?_))
 refine T.bind_eq tW (T.bind_eq (eqWord_same a0 a1 a2 a3 a4 a5 a6 a7 a8 a9 a10 a11 a12 a13 a14 a15 a16 a17 a18 a19 a20 a21 a22 a23 (P.map toBlkPiece) (L.map toBlkLast) (by omega) (by omega)) (T.pos rfl ?_))
 refine T.bind (markV V0 (L0.map toPp) (by omega)) (fun m hm1=>?_)
 refine T.bind (markW a0 a1 a2 a3 a4 a5 a6 a7 a8 a9 a10 a11 a12 a13 a14 a15 a16 a17 a18 a19 a20 a21 a22 a23 (P.map toBlkPiece) (L.map toBlkLast) m.1 (by omega) (by omega) (by omega) (by omega)) (fun m2 hm2=>?_)
 refine T.neg (by omega) ?_
 refine T.bind_eq eX (T.pos rfl ?_)
 refine T.bind_eq eW (T.pos rfl ?_)
 refine T.bind (markV xP xL kx) (fun n hn=>?_)
 obtain ⟨n1,n2,n3⟩:=hn
 refine T.bind (markW y0 y1 y2 y3 y4 y5 y6 y7 y8 y9 y10 y11 y12 y13 y14 y15 y16 y17 y18 y19 y20 y21 y22 y23 [] [] n.1 (by omega) (by omega) (by simp) (by simp)) (fun n' hn'=>?_)
 obtain ⟨g1,g2,g3,g4,g5⟩:=hn'
 simp only [List.length_nil] at g1 g2 g4 g5
 have hh:=heldV xP n.2 (by omega) n3
 have hg:=heldW y0 y1 y2 y3 y4 y5 y6 y7 y8 y9 y10 y11 y12 y13 y14 y15 y16 y17 y18 y19 y20 y21 y22 y23 n'.2.1 n'.2.2 (1+12 * (n.2.length:Int)) (by omega) (by omega) (by omega) (by omega) (by rw [show (1+12 * (n.2.length:Int))=n.1 by omega];exact g3) (by rw [show (1+12 * (n.2.length:Int))+4 * (n'.2.1.length:Int)=n.1+4 * ((0:Nat):Int) by omega];exact g5)
 refine T.bind_eq hh (T.neg (by omega) ?_)
 refine T.bind_eq hg (T.neg (by omega) (T.pos (by omega) ?_))
 refine T.bind_eq tV (T.bind_eq tW (T.bind_eq iV ?_))
 refine T.bind_eq eX (T.pos rfl ?_)
 refine T.bind_eq eW (T.pos rfl (T.neg (by simp) ?_))
 refine T.bind_eq hh (T.neg (by omega) ?_)
 exact T.bind_eq hg (T.neg (by omega) (T.pos (by omega) (T.ret rfl)))
end Go.Proofs.Ytoieojmfkkidnaa.Pure
