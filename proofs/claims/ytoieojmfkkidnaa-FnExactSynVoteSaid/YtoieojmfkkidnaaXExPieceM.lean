/-
 What the exact laws' own functions on lists of BlkPiece come to.
 Conditions: sizes far below Go's bounds.
-/
import Derived.Test.YtoieojmfkkidnaaXExPiece0
import Derived.Test.YtoieojmfkkidnaaPx2
namespace Go.Proofs.YtoieojmfkkidnaaX
open Go.RowKit Go.Proofs.Ytoieojmfkkidnaa.P Go.Proofs.YtoieojmfkkidnaaW.PrintWords Go.Proofs.YtoieojmfkkidnaaW.PrintLast Go.Proofs.YtoieojmfkkidnaaW.PrintMore
set_option linter.unusedVariables false
set_option linter.unusedSimpArgs false
def MkBlkPiece (a:Int) (l:List S138):Prop:=∀ j,(h:j<l.length)→l[j].f0=a+4 * (j:Int)∧l[j].f1=a+4 * (j:Int)+1∧l[j].f2=a+4 * (j:Int)+2∧l[j].f3=a+4 * (j:Int)+3
theorem markBlkPieceS_loop (a:Int) (ha:0≤a):∀ (d i:Nat) (y:List S138),y.length - i=d→i≤y.length→a+4 * (y.length:Int)≤4611686018427387904→MkBlkPiece a (y.take i) →
  T (fun k=>laws_markBlkPieceS.l0 k y (a+4 * (i:Int)) (i:Int)) (fun r=>r.1=a+4 * (y.length:Int)∧r.2.length=y.length∧MkBlkPiece a r.2):=by
 intro d
 induction d with
 | zero =>
  intro i y hd hi hb hm
  refine T.succ ?_
  simp only [laws_markBlkPieceS.l0]
  refine T.neg (by omega) (T.ret ⟨?_,rfl,?_⟩)
  ·simp only;omega
  ·rwa [List.take_of_length_le (by omega)] at hm
 | succ d ih =>
  intro i y hd hi hb hm
  have hlt:i<y.length:=by omega
  have w1:wrap64 (a+4 * (i:Int)+1)=a+4 * (i:Int)+1:=by rw [wrap64_id (by omega) (by omega)]<;>omega
  have w2:wrap64 (a+4 * (i:Int)+1+1)=a+4 * (i:Int)+2:=by rw [wrap64_id (by omega) (by omega)]<;>omega
  have w3:wrap64 (a+4 * (i:Int)+2+1)=a+4 * (i:Int)+3:=by rw [wrap64_id (by omega) (by omega)]<;>omega
  have w4:wrap64 (a+4 * (i:Int)+3+1)=a+4 * (i:Int)+4:=by rw [wrap64_id (by omega) (by omega)]<;>omega
  have rs:∀ (z:List S138) (v:S138),i<z.length→rd_T138 (z.set i v) (i:Int)=v:=fun z v hz=>by
   rw [rd_IBlkPiece _ i (by simpa using hz)];simp
  refine T.succ ?_
  simp only [laws_markBlkPieceS.l0]
  refine T.pos (by omega) (T.pos (by omega) ?_)
  simp only [Option.bind_some,Int.toNat_natCast,w1,w2,w3,w4,rs,hlt,List.length_set,List.set_set,wrap_succ hlt (show y.length≤4611686018427387904 by omega)]
  have:=ih (i+1) (y.set i ⟨a+4 * (i:Int),a+4 * (i:Int)+1,a+4 * (i:Int)+2,a+4 * (i:Int)+3⟩) (by rw [List.length_set];omega) (by rw [List.length_set];omega) (by rw [List.length_set];exact hb) (by
   rw [take_set_succ _ _ _ hlt]
   intro j hj
   rcases Nat.lt_or_ge j (y.take i).length with h|h
   ·simp only [List.getElem_append_left h]
    exact hm j h
   ·have e:j=i:=by simp at hj h;omega
    subst e
    rw [List.getElem_append_right h]
    simp)
  rw [show a+4 * ((i+1:Nat):Int)=a+4 * (i:Int)+4 by omega] at this
  simpa only [List.length_set] using this
theorem markBlkPieceS_T (y:List S138) (a:Int) (ha:0≤a) (hb:a+4 * (y.length:Int)≤4611686018427387904):T (fun k=>laws_markBlkPieceS.f k y a) (fun r=>r.1=a+4 * (y.length:Int)∧r.2.length=y.length∧MkBlkPiece a r.2):=by
 have:=markBlkPieceS_loop a ha _ 0 y rfl (Nat.zero_le _) hb (fun j hj=>by simp at hj)
 simpa [laws_markBlkPieceS.f] using this
end Go.Proofs.YtoieojmfkkidnaaX
