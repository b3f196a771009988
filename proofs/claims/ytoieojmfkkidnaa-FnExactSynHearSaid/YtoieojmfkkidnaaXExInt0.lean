/-
 What the exact laws' own functions on lists of numbers come to.
 Conditions: sizes far below Go's bounds.
-/
import Derived.Test.YtoieojmfkkidnaaXPure
import Derived.Test.YtoieojmfkkidnaaPx6
import Derived.Test.YtoieojmfkkidnaaPx7
namespace Go.Proofs.YtoieojmfkkidnaaX
open Go.RowKit Go.Proofs.Ytoieojmfkkidnaa.P Go.Proofs.YtoieojmfkkidnaaW.PrintWords Go.Proofs.YtoieojmfkkidnaaW.PrintLast Go.Proofs.YtoieojmfkkidnaaW.PrintMore
set_option linter.unusedVariables false
set_option linter.unusedSimpArgs false
theorem rdIn (l:List Int) (i:Nat) (h:i<l.length):rd l (i:Int)=l[i]:=getD_nat l i h _
theorem toIntS_loop (l:List Int) (hl:l.length≤1048576):∀ (d i:Nat) (y:List Int),l.length - i=d→i≤l.length→y.length=l.length→y.take i=l.take i →
  T (fun k=>laws_toIntS.l0 k l y (i:Int)) (·=l):=by
 intro d
 induction d with
 | zero =>
  intro i y hd hi hy ht
  refine T.succ ?_
  simp only [laws_toIntS.l0]
  refine T.neg (by omega) (T.ret ?_)
  rwa [List.take_of_length_le (by omega),List.take_of_length_le (by omega)] at ht
 | succ d ih =>
  intro i y hd hi hy ht
  have hlt:i<l.length:=by omega
  refine T.succ ?_
  simp only [laws_toIntS.l0]
  refine T.pos (by omega) (T.pos (by omega) ?_)
  simp only [rdIn l i hlt]
  refine T.pos (by omega) ?_
  rw [wrap_succ hlt (by omega),Int.toNat_natCast]
  exact ih (i+1) _ (by omega) (by omega) (by rw [List.length_set];exact hy) (by
   rw [take_set_succ _ _ _ (by omega),ht,List.take_succ_eq_append_getElem hlt])
theorem toIntS_T (l:List Int) (hl:l.length≤1048576):T (fun k=>laws_toIntS.f k l) (·=l):=by
 simp only [laws_toIntS.f]
 refine T.pos (by omega) (T.pos (by omega) ?_)
 exact toIntS_loop l hl _ 0 _ rfl (Nat.zero_le _) (by simp) rfl
theorem eqIntS_loop (l m:List Int) (hlm:l.length=m.length) (hl:l.length≤4611686018427387904):∀ (d i:Nat),l.length - i=d→i≤l.length →
  T (fun k=>laws_eqIntS.l0 k l m (i:Int)) (fun r=>r=true ↔ l.drop i=m.drop i):=by
 intro d
 induction d with
 | zero =>
  intro i hd hi
  refine T.succ ?_
  simp only [laws_eqIntS.l0]
  refine T.neg (by omega) (T.ret ?_)
  rw [List.drop_of_length_le (by omega),List.drop_of_length_le (by omega)]
  simp
 | succ d ih =>
  intro i hd hi
  have hlt:i<l.length:=by omega
  refine T.succ ?_
  simp only [laws_eqIntS.l0]
  refine T.pos (by omega) (T.pos (by omega) (T.pos (by omega) ?_))
  simp only [rdIn l i hlt,rdIn m i (by omega)]
  rw [List.drop_eq_getElem_cons hlt,List.drop_eq_getElem_cons (show i<m.length by omega)]
  refine T.ite (fun h=>?_) (fun h=>T.ret ⟨ff,fun h1=>absurd (List.cons.inj h1).1 h⟩)
  rw [wrap_succ hlt hl]
  exact (ih (i+1) (by omega) (by omega)).mono (fun r hr=>hr.trans ⟨fun h1=>by rw [h,h1],fun h1=>(List.cons.inj h1).2⟩)
theorem eqIntS_T (l m:List Int) (hl:l.length≤4611686018427387904):T (fun k=>laws_eqIntS.f k l m) (fun r=>r=true ↔ l=m):=by
 simp only [laws_eqIntS.f]
 refine T.ite (fun h=>?_) (fun h=>T.ret ⟨ff,fun h1=>by subst h1;exact absurd rfl h⟩)
 have:=eqIntS_loop l m (by omega) hl _ 0 rfl (Nat.zero_le _)
 simpa using this
end Go.Proofs.YtoieojmfkkidnaaX
