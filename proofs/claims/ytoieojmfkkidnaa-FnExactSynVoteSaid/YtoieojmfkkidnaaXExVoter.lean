/-
 What the exact laws' own functions on voters come to: sizes,copies,likeness.
 Conditions: sizes far below Go's bounds.
-/
import Derived.Test.YtoieojmfkkidnaaXExPp
import Derived.Test.YtoieojmfkkidnaaPx2
namespace Go.Proofs.YtoieojmfkkidnaaX
open Go.RowKit Go.Proofs.Ytoieojmfkkidnaa.P Go.Proofs.YtoieojmfkkidnaaW.PrintWords Go.Proofs.YtoieojmfkkidnaaW.PrintLast Go.Proofs.YtoieojmfkkidnaaW.PrintMore
set_option linter.unusedVariables false
set_option linter.unusedSimpArgs false
theorem rd_LPp (l:List S57) (i:Nat) (h:i<l.length):rd_T57 l (i:Int)=l[i]:=getD_nat l i h _
theorem rd_IPp (l:List S64) (i:Nat) (h:i<l.length):rd_T64 l (i:Int)=l[i]:=getD_nat l i h _
theorem toPp_loop (l:List S57) (hl:l.length≤1048576):∀ (d i:Nat) (y:List S64),l.length - i=d→i≤l.length→y.length=l.length→y.take i=(l.take i).map toPp →
  T (fun k=>laws_toSynPaperS.l0 k l y (i:Int)) (·=l.map toPp):=by
 intro d
 induction d with
 | zero =>
  intro i y hd hi hy ht
  refine T.succ ?_
  simp only [laws_toSynPaperS.l0]
  refine T.neg (by omega) (T.ret ?_)
  rwa [List.take_of_length_le (by omega),List.take_of_length_le (by omega)] at ht
 | succ d ih =>
  intro i y hd hi hy ht
  have hlt:i<l.length:=by omega
  refine T.succ ?_
  simp only [laws_toSynPaperS.l0]
  refine T.pos (by omega) (T.pos (by omega) ?_)
  simp only [rd_LPp l i hlt,laws_toSynPaper.f,laws_toCmd.f,Option.bind_some]
  refine T.pos (by omega) ?_
  rw [wrap_succ hlt (by omega),Int.toNat_natCast]
  exact ih (i+1) _ (by omega) (by omega) (by rw [List.length_set];exact hy) (by
   rw [take_set_succ _ _ _ (by omega),ht,List.take_succ_eq_append_getElem hlt,List.map_append]
   rfl)
theorem toVoter_T (P:Int) (l:List S57) (hl:l.length≤1048576):T (fun k=>laws_toSynVoter.f k P l) (·=(P,l.map toPp)):=by
 simp only [laws_toSynVoter.f,laws_toSynPaperS.f]
 refine T.bind_eq (a:=l.map toPp) ?_ (T.ret rfl)
 refine T.pos (by omega) (T.pos (by omega) ?_)
 exact toPp_loop l hl _ 0 _ rfl (Nat.zero_le _) (by simp) rfl
theorem eqPp_loop (l m:List S64) (hlm:l.length=m.length) (hl:l.length≤4611686018427387904):∀ (d i:Nat),l.length - i=d→i≤l.length →
  T (fun k=>laws_eqSynPaperS.l0 k l m (i:Int)) (fun r=>r=true ↔ l.drop i=m.drop i):=by
 intro d
 induction d with
 | zero =>
  intro i hd hi
  refine T.succ ?_
  simp only [laws_eqSynPaperS.l0]
  refine T.neg (by omega) (T.ret ?_)
  rw [List.drop_of_length_le (by omega),List.drop_of_length_le (by omega)]
  simp
 | succ d ih =>
  intro i hd hi
  have hlt:i<l.length:=by omega
  refine T.succ ?_
  simp only [laws_eqSynPaperS.l0]
  refine T.pos (by omega) (T.pos (by omega) (T.pos (by omega) ?_))
  simp only [rd_IPp l i hlt,rd_IPp m i (by omega)]
  obtain ⟨r,hr,hr2⟩:=eqPp_f l[i] (m[i]'(by omega))
  simp only [hr,Option.bind_some]
  rw [List.drop_eq_getElem_cons hlt,List.drop_eq_getElem_cons (show i<m.length by omega)]
  refine T.ite (fun h=>?_) (fun h=>T.ret ⟨ff,fun h1=>absurd (hr2.2 (List.cons.inj h1).1) h⟩)
  rw [wrap_succ hlt hl]
  exact (ih (i+1) (by omega) (by omega)).mono (fun r hr=>hr.trans ⟨fun h1=>by rw [hr2.1 h,h1],fun h1=>(List.cons.inj h1).2⟩)
theorem eqVoter_T (P Q:Int) (l m:List S64) (hl:l.length≤4611686018427387904):T (fun k=>laws_eqSynVoter.f k P l Q m) (fun r=>r=true ↔ P=Q∧l=m):=by
 simp only [laws_eqSynVoter.f,laws_eqSynPaperS.f]
 refine T.ite (fun h0=>?_) (fun h0=>T.ret ⟨ff,fun h=>absurd h.1 h0⟩)
 refine T.bind (P:=fun r=>r=true ↔ l=m) ?_ (fun r hr=>?_)
 ·refine T.ite (fun h=>?_) (fun h=>T.ret ⟨ff,fun h1=>by subst h1;exact absurd rfl h⟩)
  have:=eqPp_loop l m (by omega) hl _ 0 rfl (Nat.zero_le _)
  simpa using this
 ·exact T.ite (fun h=>T.ret ⟨fun _=>⟨h0,hr.1 h⟩,fun _=>rfl⟩) (fun h=>T.ret ⟨ff,fun h1=>absurd (hr.2 h1.2) h⟩)
end Go.Proofs.YtoieojmfkkidnaaX
