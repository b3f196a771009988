/-
 What the exact laws' own functions on lists of BlkLast come to.
 Conditions: sizes far below Go's bounds.
-/
import Derived.Test.YtoieojmfkkidnaaXExLast0
import Derived.Test.YtoieojmfkkidnaaPx2
namespace Go.Proofs.YtoieojmfkkidnaaX
open Go.RowKit Go.Proofs.Ytoieojmfkkidnaa.P Go.Proofs.YtoieojmfkkidnaaW.PrintWords Go.Proofs.YtoieojmfkkidnaaW.PrintLast Go.Proofs.YtoieojmfkkidnaaW.PrintMore
set_option linter.unusedVariables false
set_option linter.unusedSimpArgs false
def MkBlkLast (a:Int) (l:List S140):Prop:=∀ j,(h:j<l.length)→l[j].f0=a+2 * (j:Int)∧l[j].f1=a+2 * (j:Int)+1
theorem markBlkLastS_loop (a:Int) (ha:0≤a):∀ (d i:Nat) (y:List S140),y.length - i=d→i≤y.length→a+2 * (y.length:Int)≤4611686018427387904→MkBlkLast a (y.take i) →
  T (fun k=>laws_markBlkLastS.l0 k y (a+2 * (i:Int)) (i:Int)) (fun r=>r.1=a+2 * (y.length:Int)∧r.2.length=y.length∧MkBlkLast a r.2):=by
 intro d
 induction d with
 | zero =>
  intro i y hd hi hb hm
  refine T.succ ?_
  simp only [laws_markBlkLastS.l0]
  refine T.neg (by omega) (T.ret ⟨?_,rfl,?_⟩)
  ·simp only;omega
  ·rwa [List.take_of_length_le (by omega)] at hm
 | succ d ih =>
  intro i y hd hi hb hm
  have hlt:i<y.length:=by omega
  have w1:wrap64 (a+2 * (i:Int)+1)=a+2 * (i:Int)+1:=by rw [wrap64_id (by omega) (by omega)]<;>omega
  have w2:wrap64 (a+2 * (i:Int)+1+1)=a+2 * (i:Int)+2:=by rw [wrap64_id (by omega) (by omega)]<;>omega
  have rs:∀ (z:List S140) (v:S140),i<z.length→rd_T140 (z.set i v) (i:Int)=v:=fun z v hz=>by
   rw [rd_IBlkLast _ i (by simpa using hz)];simp
  refine T.succ ?_
  simp only [laws_markBlkLastS.l0]
  refine T.pos (by omega) (T.pos (by omega) ?_)
  simp only [Option.bind_some,Int.toNat_natCast,w1,w2,rs,hlt,List.length_set,List.set_set,wrap_succ hlt (show y.length≤4611686018427387904 by omega)]
  have:=ih (i+1) (y.set i ⟨a+2 * (i:Int),a+2 * (i:Int)+1⟩) (by rw [List.length_set];omega) (by rw [List.length_set];omega) (by rw [List.length_set];exact hb) (by
   rw [take_set_succ _ _ _ hlt]
   intro j hj
   rcases Nat.lt_or_ge j (y.take i).length with h|h
   ·simp only [List.getElem_append_left h]
    exact hm j h
   ·have e:j=i:=by simp at hj h;omega
    subst e
    rw [List.getElem_append_right h]
    simp)
  rw [show a+2 * ((i+1:Nat):Int)=a+2 * (i:Int)+2 by omega] at this
  simpa only [List.length_set] using this
theorem markBlkLastS_T (y:List S140) (a:Int) (ha:0≤a) (hb:a+2 * (y.length:Int)≤4611686018427387904):T (fun k=>laws_markBlkLastS.f k y a) (fun r=>r.1=a+2 * (y.length:Int)∧r.2.length=y.length∧MkBlkLast a r.2):=by
 have:=markBlkLastS_loop a ha _ 0 y rfl (Nat.zero_le _) hb (fun j hj=>by simp at hj)
 simpa [laws_markBlkLastS.f] using this
end Go.Proofs.YtoieojmfkkidnaaX
