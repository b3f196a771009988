/-
 A drawn voter and a drawn word: how long their rows are,and where the word comes from.
 Conditions: Go's bounds of the drawn bytes.
-/
import Derived.Test.YtoieojmfkkidnaaXDrawBlk0
import Derived.Test.YtoieojmfkkidnaaXDrawMark0
import Derived.Test.YtoieojmfkkidnaaXVote2
import Derived.Test.YtoieojmfkkidnaaPx12
import Derived.Test.YtoieojmfkkidnaaPx13
import Derived.Test.YtoieojmfkkidnaaPx14
namespace Go.Proofs.YtoieojmfkkidnaaX
open Go.RowKit Go.Proofs.Ytoieojmfkkidnaa.P Go.Proofs.YtoieojmfkkidnaaW.PrintWords Go.Proofs.YtoieojmfkkidnaaW.PrintLast Go.Proofs.YtoieojmfkkidnaaW.PrintMore
set_option linter.unusedVariables false
set_option linter.unusedSimpArgs false
theorem rd_in (y:List Int) (i:Int) (h0:0≤i) (h1:i<y.length) (c:Int) (hy:∀ x ∈ y,-c≤x∧x≤c):-c≤rd y i∧rd y i≤c:=by
 obtain ⟨n,rfl⟩:∃ n:Nat,i=n:=⟨i.toNat,by omega⟩
 rw [rdNum y n (by omega)]
 exact hy _ (List.getElem_mem _)
theorem cmd_T {b:List Int} (hc:Code b) {p:Int} (h0:0≤p) (h1:p≤100000000):T (fun k=>spec_l72Cmd.f k b p) (fun r=>p≤r.2.2.2.2.2.2.2.2.2.2∧r.2.2.2.2.2.2.2.2.2.2≤p+100):=by
 simp only [spec_l72Cmd.f]
 refine T.bind (pick_T hc h0 (by omega) 8 (by omega) (by omega)) (fun q1 ⟨a1,b1,c1⟩=>?_)
 refine T.bind (pick_T hc (by omega) (by omega) 4 (by omega) (by omega)) (fun q2 ⟨a2,b2,c2⟩=>?_)
 refine T.bind (pick_T hc (by omega) (by omega) 4 (by omega) (by omega)) (fun q3 ⟨a3,b3,c3⟩=>?_)
 refine T.bind (pick_T hc (by omega) (by omega) 3 (by omega) (by omega)) (fun q4 ⟨a4,b4,c4⟩=>?_)
 refine T.bind (pick_T hc (by omega) (by omega) 5 (by omega) (by omega)) (fun q5 ⟨a5,b5,c5⟩=>?_)
 refine T.bind (pick_T hc (by omega) (by omega) 3 (by omega) (by omega)) (fun q6 ⟨a6,b6,c6⟩=>?_)
 refine T.bind (pick_T hc (by omega) (by omega) 3 (by omega) (by omega)) (fun q7 ⟨a7,b7,c7⟩=>?_)
 refine T.bind (pick_T hc (by omega) (by omega) 4 (by omega) (by omega)) (fun q8 ⟨a8,b8,c8⟩=>?_)
 refine T.bind (pick_T hc (by omega) (by omega) 4 (by omega) (by omega)) (fun q9 ⟨a9,b9,c9⟩=>?_)
 refine T.bind (pick_T hc (by omega) (by omega) 5 (by omega) (by omega)) (fun q10 ⟨a10,b10,c10⟩=>?_)
 refine T.bind (pick_T hc (by omega) (by omega) 16 (by omega) (by omega)) (fun q11 ⟨a11,b11,c11⟩=>?_)
 refine T.ite (fun _=>?_) (fun _=>?_)
 ·refine T.bind (num_T hc _ (by omega) (by omega)) (fun q hq=>?_)
  exact T.ret ⟨by show p≤q.2;omega,by show q.2≤_;omega⟩
 refine T.ite (fun _=>?_) (fun _=>?_)
 ·simp only [Option.bind_some]
  refine T.bind (pick_T hc (by omega) (by omega) 3 (by omega) (by omega)) (fun q ⟨a,b,c⟩=>?_)
  have:=b (by omega)
  exact T.pos a (T.pos (by simp only [List.length_cons,List.length_nil];omega) (T.ret ⟨by show p≤q.2;omega,by show q.2≤_;omega⟩))
 refine T.ite (fun _=>?_) (fun _=>?_)
 ·simp only [Option.bind_some]
  refine T.bind (pick_T hc (by omega) (by omega) 2 (by omega) (by omega)) (fun q ⟨a,b,c⟩=>?_)
  have:=b (by omega)
  exact T.pos a (T.pos (by simp only [List.length_cons,List.length_nil];omega) (T.ret ⟨by show p≤q.2;omega,by show q.2≤_;omega⟩))
 ·exact T.ret ⟨by show p≤q11.2;omega,by show q11.2≤_;omega⟩
/-- What is known of a drawn word. -/
def WD (a1 a2:Int) (P:List Pc) (L:List La):Prop:=(-1000≤a1∧a1≤1000)∧(-1000≤a2∧a2≤1000)∧P.length≤1000∧L.length≤1000
theorem word_j0 {b:List Int} (hc:Code b) {p:Int} (h0:0≤p) (h1:p≤100000000) (a0 a1 a2 a3 a4 a5 a6 a7 a8 a9 a10 a11 a12 a13 a14 a15 a16 a17 a18 a19 a20 a21 a22 a23:Int) (P:List Pc) (L:List La) (h:WD a1 a2 P L):T (fun k=>spec_l72Word.j0 k b p a0 a1 a2 a3 a4 a5 a6 a7 a8 a9 a10 a11 a12 a13 a14 a15 a16 a17 a18 a19 a20 a21 a22 a23 P L) (fun r=>WD r.2.1 r.2.2.1 r.2.2.2.2.2.2.2.2.2.2.2.2.2.2.2.2.2.2.2.2.2.2.2.2.1 r.2.2.2.2.2.2.2.2.2.2.2.2.2.2.2.2.2.2.2.2.2.2.2.2.2.1∧p≤r.2.2.2.2.2.2.2.2.2.2.2.2.2.2.2.2.2.2.2.2.2.2.2.2.2.2∧r.2.2.2.2.2.2.2.2.2.2.2.2.2.2.2.2.2.2.2.2.2.2.2.2.2.2≤p+10):=by
 refine T.succ ?_
 simp only [spec_l72Word.j0,Option.bind_some]
 refine T.bind (pick_T hc h0 (by omega) 20 (by omega) (by omega)) (fun q ⟨a,b,c⟩=>?_)
 refine T.ite (fun _=>?_) (fun _=>?_)
 ·refine T.bind (pick_T hc (by omega) (by omega) 5 (by omega) (by omega)) (fun q2 ⟨a2_,b2,c2⟩=>?_)
  have:=b2 (by omega)
  have hy:=rd_in [(-1),5,100,103,104] q2.1 a2_ (by simp only [List.length_cons,List.length_nil];omega) 1000 (by simp)
  exact T.pos a2_ (T.pos (by simp only [List.length_cons,List.length_nil];omega) (T.ret ⟨⟨hy,h.2⟩,by show p≤q2.2;omega,by show q2.2≤_;omega⟩))
 refine T.ite (fun _=>?_) (fun _=>?_)
 ·refine T.bind (pick_T hc (by omega) (by omega) 5 (by omega) (by omega)) (fun q2 ⟨a2_,b2,c2⟩=>?_)
  have:=b2 (by omega)
  exact T.pos a2_ (T.pos (by simp only [List.length_cons,List.length_nil];omega) (T.ret ⟨h,by show p≤q2.2;omega,by show q2.2≤_;omega⟩))
 refine T.ite (fun _=>?_) (fun _=>?_)
 ·refine T.bind (pick_T hc (by omega) (by omega) 4 (by omega) (by omega)) (fun q2 ⟨a2_,b2,c2⟩=>?_)
  have:=b2 (by omega)
  exact T.pos a2_ (T.pos (by simp only [List.length_cons,List.length_nil];omega) (T.ret ⟨h,by show p≤q2.2;omega,by show q2.2≤_;omega⟩))
 refine T.ite (fun _=>?_) (fun _=>T.ret ⟨h,by show p≤q.2;omega,by show q.2≤_;omega⟩)
 refine T.bind (pick_T hc (by omega) (by omega) 2 (by omega) (by omega)) (fun q2 ⟨a2_,b2,c2⟩=>?_)
 have:=b2 (by omega)
 exact T.pos a2_ (T.pos (by simp only [List.length_cons,List.length_nil];omega) (T.ret ⟨h,by show p≤q2.2;omega,by show q2.2≤_;omega⟩))
theorem word_T {b:List Int} (hc:Code b) {p:Int} (h0:0≤p) (h1:p≤1000000):T (fun k=>spec_l72Word.f k b p) (fun r=>WD r.2.1 r.2.2.1 r.2.2.2.2.2.2.2.2.2.2.2.2.2.2.2.2.2.2.2.2.2.2.2.2.1 r.2.2.2.2.2.2.2.2.2.2.2.2.2.2.2.2.2.2.2.2.2.2.2.2.2.1∧p≤r.2.2.2.2.2.2.2.2.2.2.2.2.2.2.2.2.2.2.2.2.2.2.2.2.2.2∧r.2.2.2.2.2.2.2.2.2.2.2.2.2.2.2.2.2.2.2.2.2.2.2.2.2.2≤p+5000):=by
 simp only [spec_l72Word.f]
 refine T.bind (pick_T hc h0 (by omega) 15 (by omega) (by omega)) (fun q1 ⟨a1,b1,c1⟩=>?_)
 refine T.bind (pick_T hc (by omega) (by omega) 5 (by omega) (by omega)) (fun q2 ⟨a2,b2,c2⟩=>?_)
 refine T.bind (pick_T hc (by omega) (by omega) 5 (by omega) (by omega)) (fun q3 ⟨a3,b3,c3⟩=>?_)
 refine T.bind (pick_T hc (by omega) (by omega) 40 (by omega) (by omega)) (fun q4 ⟨a4,b4,c4⟩=>?_)
 refine T.bind (pick_T hc (by omega) (by omega) 4 (by omega) (by omega)) (fun q5 ⟨a5,b5,c5⟩=>?_)
 refine T.bind (pick_T hc (by omega) (by omega) 7 (by omega) (by omega)) (fun q6 ⟨a6,b6,c6⟩=>?_)
 refine T.bind (cmd_T hc (by omega) (by omega)) (fun q7 hq7=>?_)
 refine T.bind (pick_T hc (by omega) (by omega) 3 (by omega) (by omega)) (fun q8 ⟨a8,b8,c8⟩=>?_)
 refine T.bind (pick_T hc (by omega) (by omega) 3 (by omega) (by omega)) (fun q9 ⟨a9,b9,c9⟩=>?_)
 refine T.bind (pick_T hc (by omega) (by omega) 4 (by omega) (by omega)) (fun q10 ⟨a10,b10,c10⟩=>?_)
 refine T.bind (pick_T hc (by omega) (by omega) 4 (by omega) (by omega)) (fun q11 ⟨a11,b11,c11⟩=>?_)
 refine T.bind (pick_T hc (by omega) (by omega) 2 (by omega) (by omega)) (fun q12 ⟨a12,b12,c12⟩=>?_)
 refine T.bind (pick_T hc (by omega) (by omega) 3 (by omega) (by omega)) (fun q13 ⟨a13,b13,c13⟩=>?_)
 refine T.bind (pick_T hc (by omega) (by omega) 3 (by omega) (by omega)) (fun q14 ⟨a14,b14,c14⟩=>?_)
 refine T.bind (num_T hc _ (by omega) (by omega)) (fun q15 hq15=>?_)
 refine T.bind (pick_T hc (by omega) (by omega) 3 (by omega) (by omega)) (fun q16 ⟨a16,b16,c16⟩=>?_)
 have k2:=b2 (by omega)
 have k3:=b3 (by omega)
 refine T.ite (fun _=>?_) (fun _=>?_)
 ·refine T.bind (piecesAny_T hc _ (by omega) (by omega)) (fun P hP=>?_)
  refine T.bind (lastDrawn_T hc _ (by omega) (by omega)) (fun L hL=>?_)
  exact (word_j0 hc (by omega) (by omega) _ _ _ _ _ _ _ _ _ _ _ _ _ _ _ _ _ _ _ _ _ _ _ _ _ _ ⟨⟨by omega,by omega⟩,⟨by omega,by omega⟩,hP.1,by have:=hL.1;omega⟩).mono (fun r hr=>⟨hr.1,by omega,by omega⟩)
 ·exact (word_j0 hc (by omega) (by omega) _ _ _ _ _ _ _ _ _ _ _ _ _ _ _ _ _ _ _ _ _ _ _ _ _ _ ⟨⟨by omega,by omega⟩,⟨by omega,by omega⟩,by simp,by simp⟩).mono (fun r hr=>⟨hr.1,by omega,by omega⟩)
theorem voteR_len (V:Int) (L:List Pp) (me:Int) (a0 a1 a2 a3 a4 a5 a6 a7 a8 a9 a10 a11 a12 a13 a14 a15 a16 a17 a18 a19 a20 a21 a22 a23:Int) (Pi:List Pc) (Ls:List La):(voteR V L me a0 a1 a2 a3 a4 a5 a6 a7 a8 a9 a10 a11 a12 a13 a14 a15 a16 a17 a18 a19 a20 a21 a22 a23 Pi Ls).2.1.length≤2 * L.length+1:=by
 unfold voteR promT
 split
 ·split
  ·split<;>simp only<;>omega
  ·split
   ·exact putL_len _ L false
   ·simp only
    omega
 ·simp only
  omega
def bnd:Nat→Nat
 | 5=>0
 | 4=>1
 | 3=>3
 | 2=>7
 | 1=>15
 | _=>31
theorem bnd_step:∀ d,d<5→2 * bnd (d+1)+1≤bnd d:=by decide
theorem bnd_le:∀ d,d≤5→bnd d≤31:=by decide
theorem voter_loop {b:List Int} (hc:Code b):∀ (d:Nat) (n:Int) (p V:Int) (L:List Pp),n=d→d≤5→0≤p→p≤900000 - 6000 * d→L.length≤bnd d →
  T (fun k=>spec_l72Voter.l0 k n b p V L) (fun r=>r.2.1.length≤31∧0≤r.2.2∧r.2.2≤900000):=by
 intro d
 induction d with
 | zero =>
  intro n p V L hn hd h0 h1 hL
  refine T.succ ?_
  simp only [spec_l72Voter.l0]
  exact T.neg (by omega) (T.ret ⟨hL,h0,by show p≤_;omega⟩)
 | succ d ih =>
  intro n p V L hn hd h0 h1 hL
  have b1:=bnd_step d (by omega)
  have b2:=bnd_le (d+1) hd
  refine T.succ ?_
  simp only [spec_l72Voter.l0,Option.bind_some]
  refine T.pos (by omega) ?_
  refine T.bind (word_T hc h0 (by omega)) (fun w hw=>?_)
  refine T.bind (pick_T hc (by omega) (by omega) 3 (by omega) (by omega)) (fun q ⟨a,bq,c⟩=>?_)
  have:=bq (by omega)
  refine T.pos a (T.pos (by simp only [List.length_cons,List.length_nil];omega) ?_)
  refine T.bind_eq (spec_vote V L 0 _ w.2.1 w.2.2.1 w.2.2.2.1 w.2.2.2.2.1 w.2.2.2.2.2.1 w.2.2.2.2.2.2.1 w.2.2.2.2.2.2.2.1 w.2.2.2.2.2.2.2.2.1 w.2.2.2.2.2.2.2.2.2.1 w.2.2.2.2.2.2.2.2.2.2.1 w.2.2.2.2.2.2.2.2.2.2.2.1 w.2.2.2.2.2.2.2.2.2.2.2.2.1 w.2.2.2.2.2.2.2.2.2.2.2.2.2.1 w.2.2.2.2.2.2.2.2.2.2.2.2.2.2.1 w.2.2.2.2.2.2.2.2.2.2.2.2.2.2.2.1 w.2.2.2.2.2.2.2.2.2.2.2.2.2.2.2.2.1 w.2.2.2.2.2.2.2.2.2.2.2.2.2.2.2.2.2.1 w.2.2.2.2.2.2.2.2.2.2.2.2.2.2.2.2.2.2.1 w.2.2.2.2.2.2.2.2.2.2.2.2.2.2.2.2.2.2.2.1 w.2.2.2.2.2.2.2.2.2.2.2.2.2.2.2.2.2.2.2.2.1 w.2.2.2.2.2.2.2.2.2.2.2.2.2.2.2.2.2.2.2.2.2.1 w.2.2.2.2.2.2.2.2.2.2.2.2.2.2.2.2.2.2.2.2.2.2.1 w.2.2.2.2.2.2.2.2.2.2.2.2.2.2.2.2.2.2.2.2.2.2.2.1 w.2.2.2.2.2.2.2.2.2.2.2.2.2.2.2.2.2.2.2.2.2.2.2.2.1 w.2.2.2.2.2.2.2.2.2.2.2.2.2.2.2.2.2.2.2.2.2.2.2.2.2.1 (by omega)) ?_
  rw [wrap64_id (x:=n - 1) (by omega) (by omega)]
  refine ih (n - 1) _ _ _ (by omega) (by omega) (by omega) (by omega) ?_
  exact Nat.le_trans (voteR_len ..) (by omega)
theorem voter_T {b:List Int} (hc:Code b) {p:Int} (h0:0≤p) (h1:p≤100000):T (fun k=>spec_l72Voter.f k b p) (fun r=>r.2.1.length≤31∧0≤r.2.2∧r.2.2≤900000):=by
 simp only [spec_l72Voter.f]
 refine T.bind (pick_T hc h0 (by omega) 6 (by omega) (by omega)) (fun q ⟨a,bq,c⟩=>?_)
 have:=bq (by omega)
 obtain ⟨d,hd⟩:∃ d:Nat,q.1=d:=⟨q.1.toNat,by omega⟩
 exact voter_loop hc d q.1 q.2 0 [] hd (by omega) (by omega) (by omega) (Nat.zero_le _)
theorem voterAny_T {b:List Int} (hc:Code b) {p:Int} (h0:0≤p) (h1:p≤100000):T (fun k=>spec_l72VoterAny.f k b p) (fun r=>r.2.1.length≤32∧0≤r.2.2∧r.2.2≤1000000):=by
 simp only [spec_l72VoterAny.f,Option.bind_some]
 refine T.bind (voter_T hc h0 h1) (fun v hv=>?_)
 refine T.bind (pick_T hc (by omega) (by omega) 12 (by omega) (by omega)) (fun q ⟨a,bq,c⟩=>?_)
 refine T.ite (fun _=>?_) (fun _=>?_)
 ·refine T.bind (pick_T hc (by omega) (by omega) 3 (by omega) (by omega)) (fun q2 ⟨a2,b2,c2⟩=>?_)
  have:=b2 (by omega)
  exact T.pos a2 (T.pos (by simp only [List.length_cons,List.length_nil];omega) (T.ret ⟨by show v.2.1.length≤_;omega,by show 0≤q2.2;omega,by show q2.2≤_;omega⟩))
 refine T.ite (fun _=>?_) (fun _=>T.ret ⟨by show v.2.1.length≤_;omega,by show 0≤q.2;omega,by show q.2≤_;omega⟩)
 exact T.pos (by omega) (T.ret ⟨by show (v.2.1 ++ _).length≤_;rw [List.length_append];simp only [List.length_cons,List.length_nil];omega,by show 0≤q.2;omega,by show q.2≤_;omega⟩)
/-- What is known of what is drawn. -/
theorem drawVote_T (l:List Int) (hw:∀ x ∈ l,(Lit.int .u8 x).wf=true) (hl:l.length≤maxLen):T (fun k=>spec_DrawSynVote.f k l) (fun r=>r.2.1.length≤32∧WD r.2.2.2.2.1 r.2.2.2.2.2.1 r.2.2.2.2.2.2.2.2.2.2.2.2.2.2.2.2.2.2.2.2.2.2.2.2.2.2.2.1 r.2.2.2.2.2.2.2.2.2.2.2.2.2.2.2.2.2.2.2.2.2.2.2.2.2.2.2.2):=by
 simp only [spec_DrawSynVote.f]
 obtain ⟨b,hc,hb⟩:=open_code hw hl
 simp only [hb,Option.bind_some]
 refine T.bind (word_T hc (by omega) (by omega)) (fun w hw=>?_)
 refine T.bind (pick_T hc (by omega) (by omega) 6 (by omega) (by omega)) (fun q1 ⟨a1,b1,c1⟩=>?_)
 refine T.ite (fun _=>?_) (fun _=>?_)
 ·refine T.bind (pick_T hc (by omega) (by omega) 2 (by omega) (by omega)) (fun q2 ⟨a2,b2,c2⟩=>?_)
  have:=b2 (by omega)
  refine T.pos a2 (T.pos (by simp only [List.length_cons,List.length_nil];omega) ?_)
  refine T.bind (voterAny_T hc (by omega) (by omega)) (fun v hv=>?_)
  refine T.bind (pick_T hc (by omega) (by omega) 3 (by omega) (by omega)) (fun q3 ⟨a3,b3,c3⟩=>?_)
  refine T.bind (pick_T hc (by omega) (by omega) 12 (by omega) (by omega)) (fun q4 ⟨a4,b4,c4⟩=>?_)
  exact T.ret ⟨hv.1,hw.1⟩
 ·refine T.bind (voterAny_T hc (by omega) (by omega)) (fun v hv=>?_)
  refine T.bind (pick_T hc (by omega) (by omega) 3 (by omega) (by omega)) (fun q3 ⟨a3,b3,c3⟩=>?_)
  refine T.bind (pick_T hc (by omega) (by omega) 12 (by omega) (by omega)) (fun q4 ⟨a4,b4,c4⟩=>?_)
  exact T.ret ⟨hv.1,hw.1⟩
end Go.Proofs.YtoieojmfkkidnaaX
