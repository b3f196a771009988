/-
 Papers marked one behind the other;papers,pieces and lasts found as they were marked.
 Conditions: sizes far below Go's bounds.
-/
import Derived.Test.YtoieojmfkkidnaaXExVoter
import Derived.Test.YtoieojmfkkidnaaXExPieceM
import Derived.Test.YtoieojmfkkidnaaXExLastM
import Derived.Test.YtoieojmfkkidnaaPx9
namespace Go.Proofs.YtoieojmfkkidnaaX
open Go.RowKit Go.Proofs.Ytoieojmfkkidnaa.P Go.Proofs.YtoieojmfkkidnaaW.PrintWords Go.Proofs.YtoieojmfkkidnaaW.PrintLast Go.Proofs.YtoieojmfkkidnaaW.PrintMore
set_option linter.unusedVariables false
set_option linter.unusedSimpArgs false
def MkSynPaper (a:Int) (l:List S64):Prop:=∀ j,(h:j<l.length)→l[j].f0=a+12 * (j:Int)∧l[j].f1=a+12 * (j:Int)+1∧l[j].f2.f0=a+12 * (j:Int)+2∧l[j].f2.f1=a+12 * (j:Int)+3∧l[j].f2.f2=a+12 * (j:Int)+4∧l[j].f2.f3=a+12 * (j:Int)+5∧l[j].f2.f4=a+12 * (j:Int)+6∧l[j].f2.f5=a+12 * (j:Int)+7∧l[j].f2.f6=a+12 * (j:Int)+8∧l[j].f2.f7=a+12 * (j:Int)+9∧l[j].f2.f8=a+12 * (j:Int)+10∧l[j].f2.f9=a+12 * (j:Int)+11
set_option maxHeartbeats 8000000 in
theorem markSynPaperS_loop (a:Int) (ha:0≤a):∀ (d i:Nat) (y:List S64),y.length - i=d→i≤y.length→a+12 * (y.length:Int)≤4611686018427387904→MkSynPaper a (y.take i) →
  T (fun k=>laws_markSynPaperS.l0 k y (a+12 * (i:Int)) (i:Int)) (fun r=>r.1=a+12 * (y.length:Int)∧r.2.length=y.length∧MkSynPaper a r.2):=by
 intro d
 induction d with
 | zero =>
  intro i y hd hi hb hm
  refine T.succ ?_
  simp only [laws_markSynPaperS.l0]
  refine T.neg (by omega) (T.ret ⟨?_,rfl,?_⟩)
  ·simp only;omega
  ·rwa [List.take_of_length_le (by omega)] at hm
 | succ d ih =>
  intro i y hd hi hb hm
  have hlt:i<y.length:=by omega
  have w1:wrap64 (a+12 * (i:Int)+1)=a+12 * (i:Int)+1:=by rw [wrap64_id (by omega) (by omega)]
  have w2:wrap64 (a+12 * (i:Int)+1+1)=a+12 * (i:Int)+2:=by rw [wrap64_id (by omega) (by omega)]<;>omega
  have w3:wrap64 (a+12 * (i:Int)+2+1)=a+12 * (i:Int)+3:=by rw [wrap64_id (by omega) (by omega)]<;>omega
  have w4:wrap64 (a+12 * (i:Int)+3+1)=a+12 * (i:Int)+4:=by rw [wrap64_id (by omega) (by omega)]<;>omega
  have w5:wrap64 (a+12 * (i:Int)+4+1)=a+12 * (i:Int)+5:=by rw [wrap64_id (by omega) (by omega)]<;>omega
  have w6:wrap64 (a+12 * (i:Int)+5+1)=a+12 * (i:Int)+6:=by rw [wrap64_id (by omega) (by omega)]<;>omega
  have w7:wrap64 (a+12 * (i:Int)+6+1)=a+12 * (i:Int)+7:=by rw [wrap64_id (by omega) (by omega)]<;>omega
  have w8:wrap64 (a+12 * (i:Int)+7+1)=a+12 * (i:Int)+8:=by rw [wrap64_id (by omega) (by omega)]<;>omega
  have w9:wrap64 (a+12 * (i:Int)+8+1)=a+12 * (i:Int)+9:=by rw [wrap64_id (by omega) (by omega)]<;>omega
  have w10:wrap64 (a+12 * (i:Int)+9+1)=a+12 * (i:Int)+10:=by rw [wrap64_id (by omega) (by omega)]<;>omega
  have w11:wrap64 (a+12 * (i:Int)+10+1)=a+12 * (i:Int)+11:=by rw [wrap64_id (by omega) (by omega)]<;>omega
  have w12:wrap64 (a+12 * (i:Int)+11+1)=a+12 * (i:Int)+12:=by rw [wrap64_id (by omega) (by omega)]<;>omega
  have rs:∀ (z:List S64) (v:S64),i<z.length→rd_T64 (z.set i v) (i:Int)=v:=fun z v hz=>by
   rw [rd_IPp _ i (by simpa using hz)];simp
  refine T.succ ?_
  simp only [laws_markSynPaperS.l0]
  refine T.pos (by omega) (T.pos (by omega) ?_)
  simp only [Option.bind_some,Int.toNat_natCast,w1,w2,w3,w4,w5,w6,w7,w8,w9,w10,w11,w12,rs,hlt,List.length_set,List.set_set,wrap_succ hlt (show y.length≤4611686018427387904 by omega)]
  have:=ih (i+1) (y.set i ⟨a+12 * (i:Int),a+12 * (i:Int)+1,⟨a+12 * (i:Int)+2,a+12 * (i:Int)+3,a+12 * (i:Int)+4,a+12 * (i:Int)+5,a+12 * (i:Int)+6,a+12 * (i:Int)+7,a+12 * (i:Int)+8,a+12 * (i:Int)+9,a+12 * (i:Int)+10,a+12 * (i:Int)+11⟩⟩) (by rw [List.length_set];omega) (by rw [List.length_set];omega) (by rw [List.length_set];exact hb) (by
   rw [take_set_succ _ _ _ hlt]
   intro j hj
   rcases Nat.lt_or_ge j (y.take i).length with h|h
   ·simp only [List.getElem_append_left h]
    exact hm j h
   ·have e:j=i:=by simp at hj h;omega
    subst e
    rw [List.getElem_append_right h]
    simp)
  rw [show a+12 * ((i+1:Nat):Int)=a+12 * (i:Int)+12 by omega] at this
  simpa only [List.length_set] using this
theorem markSynPaperS_T (y:List S64) (a:Int) (ha:0≤a) (hb:a+12 * (y.length:Int)≤4611686018427387904):T (fun k=>laws_markSynPaperS.f k y a) (fun r=>r.1=a+12 * (y.length:Int)∧r.2.length=y.length∧MkSynPaper a r.2):=by
 have:=markSynPaperS_loop a ha _ 0 y rfl (Nat.zero_le _) hb (fun j hj=>by simp at hj)
 simpa [laws_markSynPaperS.f] using this
set_option maxHeartbeats 8000000 in
theorem heldSynPaperS_T (y:List S64) (a:Int) (ha:0≤a) (hb:a+12 * (y.length:Int)≤4611686018427387904) (hm:MkSynPaper a y):T (fun k=>laws_heldSynPaperS.f k y a) (·=a+12 * (y.length:Int)):=by
 have key:∀ (d i:Nat),y.length - i=d→i≤y.length→T (fun k=>laws_heldSynPaperS.l0 k y (a+12 * (i:Int)) (i:Int)) (·=a+12 * (y.length:Int)):=by
  intro d
  induction d with
  | zero =>
   intro i hd hi
   refine T.succ ?_
   simp only [laws_heldSynPaperS.l0]
   exact T.neg (by omega) (T.ret (by omega))
  | succ d ih =>
   intro i hd hi
   have hlt:i<y.length:=by omega
   have w1:wrap64 (a+12 * (i:Int)+1)=a+12 * (i:Int)+1:=by rw [wrap64_id (by omega) (by omega)]
   have w2:wrap64 (a+12 * (i:Int)+1+1)=a+12 * (i:Int)+2:=by rw [wrap64_id (by omega) (by omega)]<;>omega
   have w3:wrap64 (a+12 * (i:Int)+2+1)=a+12 * (i:Int)+3:=by rw [wrap64_id (by omega) (by omega)]<;>omega
   have w4:wrap64 (a+12 * (i:Int)+3+1)=a+12 * (i:Int)+4:=by rw [wrap64_id (by omega) (by omega)]<;>omega
   have w5:wrap64 (a+12 * (i:Int)+4+1)=a+12 * (i:Int)+5:=by rw [wrap64_id (by omega) (by omega)]<;>omega
   have w6:wrap64 (a+12 * (i:Int)+5+1)=a+12 * (i:Int)+6:=by rw [wrap64_id (by omega) (by omega)]<;>omega
   have w7:wrap64 (a+12 * (i:Int)+6+1)=a+12 * (i:Int)+7:=by rw [wrap64_id (by omega) (by omega)]<;>omega
   have w8:wrap64 (a+12 * (i:Int)+7+1)=a+12 * (i:Int)+8:=by rw [wrap64_id (by omega) (by omega)]<;>omega
   have w9:wrap64 (a+12 * (i:Int)+8+1)=a+12 * (i:Int)+9:=by rw [wrap64_id (by omega) (by omega)]<;>omega
   have w10:wrap64 (a+12 * (i:Int)+9+1)=a+12 * (i:Int)+10:=by rw [wrap64_id (by omega) (by omega)]<;>omega
   have w11:wrap64 (a+12 * (i:Int)+10+1)=a+12 * (i:Int)+11:=by rw [wrap64_id (by omega) (by omega)]<;>omega
   have w12:wrap64 (a+12 * (i:Int)+11+1)=a+12 * (i:Int)+12:=by rw [wrap64_id (by omega) (by omega)]<;>omega
   refine T.succ ?_
   simp only [laws_heldSynPaperS.l0,rd_IPp y i hlt,w1,w2,w3,w4,w5,w6,w7,w8,w9,w10,w11,w12,wrap_succ hlt (show y.length≤4611686018427387904 by omega)]
   refine T.pos (by omega) (T.pos (by omega) (T.pos (hm i hlt).1 (T.pos (hm i hlt).2.1 (T.pos (hm i hlt).2.2.1 (T.pos (hm i hlt).2.2.2.1 (T.pos (hm i hlt).2.2.2.2.1 (T.pos (hm i hlt).2.2.2.2.2.1 (T.pos (hm i hlt).2.2.2.2.2.2.1 (T.pos (hm i hlt).2.2.2.2.2.2.2.1 (T.pos (hm i hlt).2.2.2.2.2.2.2.2.1 (T.pos (hm i hlt).2.2.2.2.2.2.2.2.2.1 (T.pos (hm i hlt).2.2.2.2.2.2.2.2.2.2.1 (T.pos (hm i hlt).2.2.2.2.2.2.2.2.2.2.2 ?_)))))))))))))
   have:=ih (i+1) (by omega) (by omega)
   rwa [show a+12 * ((i+1:Nat):Int)=a+12 * (i:Int)+12 by omega] at this
 simp only [laws_heldSynPaperS.f]
 simpa using key _ 0 rfl (Nat.zero_le _)
set_option maxHeartbeats 8000000 in
theorem heldBlkPieceS_T (y:List S138) (a:Int) (ha:0≤a) (hb:a+4 * (y.length:Int)≤4611686018427387904) (hm:MkBlkPiece a y):T (fun k=>laws_heldBlkPieceS.f k y a) (·=a+4 * (y.length:Int)):=by
 have key:∀ (d i:Nat),y.length - i=d→i≤y.length→T (fun k=>laws_heldBlkPieceS.l0 k y (a+4 * (i:Int)) (i:Int)) (·=a+4 * (y.length:Int)):=by
  intro d
  induction d with
  | zero =>
   intro i hd hi
   refine T.succ ?_
   simp only [laws_heldBlkPieceS.l0]
   exact T.neg (by omega) (T.ret (by omega))
  | succ d ih =>
   intro i hd hi
   have hlt:i<y.length:=by omega
   have w1:wrap64 (a+4 * (i:Int)+1)=a+4 * (i:Int)+1:=by rw [wrap64_id (by omega) (by omega)]
   have w2:wrap64 (a+4 * (i:Int)+1+1)=a+4 * (i:Int)+2:=by rw [wrap64_id (by omega) (by omega)]<;>omega
   have w3:wrap64 (a+4 * (i:Int)+2+1)=a+4 * (i:Int)+3:=by rw [wrap64_id (by omega) (by omega)]<;>omega
   have w4:wrap64 (a+4 * (i:Int)+3+1)=a+4 * (i:Int)+4:=by rw [wrap64_id (by omega) (by omega)]<;>omega
   refine T.succ ?_
   simp only [laws_heldBlkPieceS.l0,rd_IBlkPiece y i hlt,w1,w2,w3,w4,wrap_succ hlt (show y.length≤4611686018427387904 by omega)]
   refine T.pos (by omega) (T.pos (by omega) (T.pos (hm i hlt).1 (T.pos (hm i hlt).2.1 (T.pos (hm i hlt).2.2.1 (T.pos (hm i hlt).2.2.2 ?_)))))
   have:=ih (i+1) (by omega) (by omega)
   rwa [show a+4 * ((i+1:Nat):Int)=a+4 * (i:Int)+4 by omega] at this
 simp only [laws_heldBlkPieceS.f]
 simpa using key _ 0 rfl (Nat.zero_le _)
set_option maxHeartbeats 8000000 in
theorem heldBlkLastS_T (y:List S140) (a:Int) (ha:0≤a) (hb:a+2 * (y.length:Int)≤4611686018427387904) (hm:MkBlkLast a y):T (fun k=>laws_heldBlkLastS.f k y a) (·=a+2 * (y.length:Int)):=by
 have key:∀ (d i:Nat),y.length - i=d→i≤y.length→T (fun k=>laws_heldBlkLastS.l0 k y (a+2 * (i:Int)) (i:Int)) (·=a+2 * (y.length:Int)):=by
  intro d
  induction d with
  | zero =>
   intro i hd hi
   refine T.succ ?_
   simp only [laws_heldBlkLastS.l0]
   exact T.neg (by omega) (T.ret (by omega))
  | succ d ih =>
   intro i hd hi
   have hlt:i<y.length:=by omega
   have w1:wrap64 (a+2 * (i:Int)+1)=a+2 * (i:Int)+1:=by rw [wrap64_id (by omega) (by omega)]
   have w2:wrap64 (a+2 * (i:Int)+1+1)=a+2 * (i:Int)+2:=by rw [wrap64_id (by omega) (by omega)]<;>omega
   refine T.succ ?_
   simp only [laws_heldBlkLastS.l0,rd_IBlkLast y i hlt,w1,w2,wrap_succ hlt (show y.length≤4611686018427387904 by omega)]
   refine T.pos (by omega) (T.pos (by omega) (T.pos (hm i hlt).1 (T.pos (hm i hlt).2 ?_)))
   have:=ih (i+1) (by omega) (by omega)
   rwa [show a+2 * ((i+1:Nat):Int)=a+2 * (i:Int)+2 by omega] at this
 simp only [laws_heldBlkLastS.f]
 simpa using key _ 0 rfl (Nat.zero_le _)
end Go.Proofs.YtoieojmfkkidnaaX
