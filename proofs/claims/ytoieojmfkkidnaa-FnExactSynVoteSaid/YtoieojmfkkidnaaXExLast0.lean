/-
 What the exact laws' own functions on lists of BlkLast come to.
 Conditions: sizes far below Go's bounds.
-/
import Derived.Test.YtoieojmfkkidnaaXPure
import Derived.Test.YtoieojmfkkidnaaPx1
namespace Go.Proofs.YtoieojmfkkidnaaX
open Go.RowKit Go.Proofs.Ytoieojmfkkidnaa.P Go.Proofs.YtoieojmfkkidnaaW.PrintWords Go.Proofs.YtoieojmfkkidnaaW.PrintLast Go.Proofs.YtoieojmfkkidnaaW.PrintMore
set_option linter.unusedVariables false
set_option linter.unusedSimpArgs false
theorem rd_IBlkLast (l:List S140) (i:Nat) (h:i<l.length):rd_T140 l (i:Int)=l[i]:=getD_nat l i h _
theorem rd_LBlkLast (l:List S148) (i:Nat) (h:i<l.length):rd_T148 l (i:Int)=l[i]:=getD_nat l i h _
def toBlkLast (x:S148):S140:=⟨x.f0,x.f1⟩
theorem toBlkLastS_loop (l:List S148) (hl:l.length≤1048576):∀ (d i:Nat) (y:List S140),l.length - i=d→i≤l.length→y.length=l.length→y.take i=(l.take i).map toBlkLast →
  T (fun k=>laws_toBlkLastS.l0 k l y (i:Int)) (·=l.map toBlkLast):=by
 intro d
 induction d with
 | zero =>
  intro i y hd hi hy ht
  refine T.succ ?_
  simp only [laws_toBlkLastS.l0]
  refine T.neg (by omega) (T.ret ?_)
  rwa [List.take_of_length_le (by omega),List.take_of_length_le (by omega)] at ht
 | succ d ih =>
  intro i y hd hi hy ht
  have hlt:i<l.length:=by omega
  refine T.succ ?_
  simp only [laws_toBlkLastS.l0]
  refine T.pos (by omega) (T.pos (by omega) ?_)
  simp only [rd_LBlkLast l i hlt,laws_toBlkLast.f,Option.bind_some]
  refine T.pos (by omega) ?_
  rw [wrap_succ hlt (by omega),Int.toNat_natCast]
  exact ih (i+1) _ (by omega) (by omega) (by rw [List.length_set];exact hy) (by
   rw [take_set_succ _ _ _ (by omega),ht,List.take_succ_eq_append_getElem hlt,List.map_append]
   rfl)
theorem toBlkLastS_T (l:List S148) (hl:l.length≤1048576):T (fun k=>laws_toBlkLastS.f k l) (·=l.map toBlkLast):=by
 simp only [laws_toBlkLastS.f]
 refine T.pos (by omega) (T.pos (by omega) ?_)
 exact toBlkLastS_loop l hl _ 0 _ rfl (Nat.zero_le _) (by simp) rfl
theorem szBlkLastS_f (l:List S148) (a:Int) (h0:0≤a) (h1:a≤1048576) (hl:l.length≤9223372036854775807):laws_szBlkLastS.f l a=some (if a<(l.length:Int) then -1 else a - (l.length:Int)):=by
 unfold laws_szBlkLastS.f
 rw [wrap64_id (x:=a - (l.length:Int)) (by omega) (by omega)]
 by_cases h:a<(l.length:Int)
 ·rw [if_pos h,if_pos (by omega)]
 ·rw [if_neg h,if_neg (by omega)]
theorem eqBlkLast_f (x y:S140):∃ r,laws_eqBlkLast.f x.f0 x.f1 y.f0 y.f1=some r∧(r=true ↔ x=y):=by
 unfold laws_eqBlkLast.f
 obtain ⟨x0,x1⟩:=x
 obtain ⟨y0,y1⟩:=y
 simp only
 repeat' split
 all_goals first
  | exact ⟨_,rfl,by simp_all⟩
theorem eqBlkLastS_loop (l m:List S140) (hlm:l.length=m.length) (hl:l.length≤4611686018427387904):∀ (d i:Nat),l.length - i=d→i≤l.length →
  T (fun k=>laws_eqBlkLastS.l0 k l m (i:Int)) (fun r=>r=true ↔ l.drop i=m.drop i):=by
 intro d
 induction d with
 | zero =>
  intro i hd hi
  refine T.succ ?_
  simp only [laws_eqBlkLastS.l0]
  refine T.neg (by omega) (T.ret ?_)
  rw [List.drop_of_length_le (by omega),List.drop_of_length_le (by omega)]
  simp
 | succ d ih =>
  intro i hd hi
  have hlt:i<l.length:=by omega
  refine T.succ ?_
  simp only [laws_eqBlkLastS.l0]
  refine T.pos (by omega) (T.pos (by omega) (T.pos (by omega) ?_))
  simp only [rd_IBlkLast l i hlt,rd_IBlkLast m i (by omega)]
  obtain ⟨r,hr,hr2⟩:=eqBlkLast_f l[i] (m[i]'(by omega))
  simp only [hr,Option.bind_some]
  rw [List.drop_eq_getElem_cons hlt,List.drop_eq_getElem_cons (show i<m.length by omega)]
  refine T.ite (fun h=>?_) (fun h=>T.ret ⟨ff,fun h1=>absurd (hr2.2 (List.cons.inj h1).1) h⟩)
  rw [wrap_succ hlt hl]
  refine (ih (i+1) (by omega) (by omega)).mono (fun r hr=>hr.trans ⟨fun h1=>by rw [hr2.1 h,h1],fun h1=>(List.cons.inj h1).2⟩)
theorem eqBlkLastS_T (l m:List S140) (hl:l.length≤4611686018427387904):T (fun k=>laws_eqBlkLastS.f k l m) (fun r=>r=true ↔ l=m):=by
 simp only [laws_eqBlkLastS.f]
 refine T.ite (fun h=>?_) (fun h=>T.ret ⟨ff,fun h1=>absurd (by rw [h1]) h⟩)
 exact (eqBlkLastS_loop l m (by omega) hl _ 0 rfl (Nat.zero_le _)).mono (fun r hr=>by simpa using hr)
end Go.Proofs.YtoieojmfkkidnaaX
