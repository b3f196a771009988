/-
 What the exact laws' own functions on lists of BlkPiece come to.
 Conditions: sizes far below Go's bounds.
-/
import Derived.Test.YtoieojmfkkidnaaXPure
import Derived.Test.YtoieojmfkkidnaaPx1
namespace Go.Proofs.YtoieojmfkkidnaaX
open Go.RowKit Go.Proofs.Ytoieojmfkkidnaa.P Go.Proofs.YtoieojmfkkidnaaW.PrintWords Go.Proofs.YtoieojmfkkidnaaW.PrintLast Go.Proofs.YtoieojmfkkidnaaW.PrintMore
set_option linter.unusedVariables false
set_option linter.unusedSimpArgs false
theorem rd_IBlkPiece (l:List S138) (i:Nat) (h:i<l.length):rd_T138 l (i:Int)=l[i]:=getD_nat l i h _
theorem rd_LBlkPiece (l:List S146) (i:Nat) (h:i<l.length):rd_T146 l (i:Int)=l[i]:=getD_nat l i h _
def toBlkPiece (x:S146):S138:=⟨x.f0,x.f1,x.f2,x.f3⟩
theorem toBlkPieceS_loop (l:List S146) (hl:l.length≤1048576):∀ (d i:Nat) (y:List S138),l.length - i=d→i≤l.length→y.length=l.length→y.take i=(l.take i).map toBlkPiece →
  T (fun k=>laws_toBlkPieceS.l0 k l y (i:Int)) (·=l.map toBlkPiece):=by
 intro d
 induction d with
 | zero =>
  intro i y hd hi hy ht
  refine T.succ ?_
  simp only [laws_toBlkPieceS.l0]
  refine T.neg (by omega) (T.ret ?_)
  rwa [List.take_of_length_le (by omega),List.take_of_length_le (by omega)] at ht
 | succ d ih =>
  intro i y hd hi hy ht
  have hlt:i<l.length:=by omega
  refine T.succ ?_
  simp only [laws_toBlkPieceS.l0]
  refine T.pos (by omega) (T.pos (by omega) ?_)
  simp only [rd_LBlkPiece l i hlt,laws_toBlkPiece.f,Option.bind_some]
  refine T.pos (by omega) ?_
  rw [wrap_succ hlt (by omega),Int.toNat_natCast]
  exact ih (i+1) _ (by omega) (by omega) (by rw [List.length_set];exact hy) (by
   rw [take_set_succ _ _ _ (by omega),ht,List.take_succ_eq_append_getElem hlt,List.map_append]
   rfl)
theorem toBlkPieceS_T (l:List S146) (hl:l.length≤1048576):T (fun k=>laws_toBlkPieceS.f k l) (·=l.map toBlkPiece):=by
 simp only [laws_toBlkPieceS.f]
 refine T.pos (by omega) (T.pos (by omega) ?_)
 exact toBlkPieceS_loop l hl _ 0 _ rfl (Nat.zero_le _) (by simp) rfl
theorem szBlkPieceS_f (l:List S146) (a:Int) (h0:0≤a) (h1:a≤1048576) (hl:l.length≤9223372036854775807):laws_szBlkPieceS.f l a=some (if a<(l.length:Int) then -1 else a - (l.length:Int)):=by
 unfold laws_szBlkPieceS.f
 rw [wrap64_id (x:=a - (l.length:Int)) (by omega) (by omega)]
 by_cases h:a<(l.length:Int)
 ·rw [if_pos h,if_pos (by omega)]
 ·rw [if_neg h,if_neg (by omega)]
theorem eqBlkPiece_f (x y:S138):∃ r,laws_eqBlkPiece.f x.f0 x.f1 x.f2 x.f3 y.f0 y.f1 y.f2 y.f3=some r∧(r=true ↔ x=y):=by
 unfold laws_eqBlkPiece.f
 obtain ⟨x0,x1,x2,x3⟩:=x
 obtain ⟨y0,y1,y2,y3⟩:=y
 simp only
 repeat' split
 all_goals first
  | exact ⟨_,rfl,by simp_all⟩
theorem eqBlkPieceS_loop (l m:List S138) (hlm:l.length=m.length) (hl:l.length≤4611686018427387904):∀ (d i:Nat),l.length - i=d→i≤l.length →
  T (fun k=>laws_eqBlkPieceS.l0 k l m (i:Int)) (fun r=>r=true ↔ l.drop i=m.drop i):=by
 intro d
 induction d with
 | zero =>
  intro i hd hi
  refine T.succ ?_
  simp only [laws_eqBlkPieceS.l0]
  refine T.neg (by omega) (T.ret ?_)
  rw [List.drop_of_length_le (by omega),List.drop_of_length_le (by omega)]
  simp
 | succ d ih =>
  intro i hd hi
  have hlt:i<l.length:=by omega
  refine T.succ ?_
  simp only [laws_eqBlkPieceS.l0]
  refine T.pos (by omega) (T.pos (by omega) (T.pos (by omega) ?_))
  simp only [rd_IBlkPiece l i hlt,rd_IBlkPiece m i (by omega)]
  obtain ⟨r,hr,hr2⟩:=eqBlkPiece_f l[i] (m[i]'(by omega))
  simp only [hr,Option.bind_some]
  rw [List.drop_eq_getElem_cons hlt,List.drop_eq_getElem_cons (show i<m.length by omega)]
  refine T.ite (fun h=>?_) (fun h=>T.ret ⟨ff,fun h1=>absurd (hr2.2 (List.cons.inj h1).1) h⟩)
  rw [wrap_succ hlt hl]
  refine (ih (i+1) (by omega) (by omega)).mono (fun r hr=>hr.trans ⟨fun h1=>by rw [hr2.1 h,h1],fun h1=>(List.cons.inj h1).2⟩)
theorem eqBlkPieceS_T (l m:List S138) (hl:l.length≤4611686018427387904):T (fun k=>laws_eqBlkPieceS.f k l m) (fun r=>r=true ↔ l=m):=by
 simp only [laws_eqBlkPieceS.f]
 refine T.ite (fun h=>?_) (fun h=>T.ret ⟨ff,fun h1=>absurd (by rw [h1]) h⟩)
 exact (eqBlkPieceS_loop l m (by omega) hl _ 0 rfl (Nat.zero_le _)).mono (fun r hr=>by simpa using hr)
end Go.Proofs.YtoieojmfkkidnaaX
