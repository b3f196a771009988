/-
 What the program's and the reference's functions on pieces of blocks come to,in plain lists.
 Conditions: lists of at most 2^62 elements.
-/
import Derived.Test.YtoieojmfkkidnaaXIn
import Derived.Test.YtoieojmfkkidnaaPx9
import Derived.Test.YtoieojmfkkidnaaPx6
import Derived.Test.YtoieojmfkkidnaaPx5
namespace Go.Proofs.YtoieojmfkkidnaaX
open Go.RowKit Go.Proofs.Ytoieojmfkkidnaa.P Go.Proofs.YtoieojmfkkidnaaW.PrintWords Go.Proofs.YtoieojmfkkidnaaW.PrintLast Go.Proofs.YtoieojmfkkidnaaW.PrintMore
set_option linter.unusedVariables false
set_option linter.unusedSimpArgs false
abbrev Pc:=S138
theorem rdP (l:List Pc) (i:Nat) (h:i<l.length):rd_T138 l (i:Int)=l[i]:=getD_nat l i h _
/-- One piece stands ahead of another one. -/
def lt3 (p q:Pc):Prop:=p.f0<q.f0 ∨ p.f0=q.f0∧(p.f1<q.f1 ∨ p.f1=q.f1∧p.f2<q.f2)
instance (p q:Pc):Decidable (lt3 p q):=by unfold lt3;infer_instance
def key (p q:Pc):Prop:=p.f0=q.f0∧p.f1=q.f1∧p.f2=q.f2
instance (p q:Pc):Decidable (key p q):=by unfold key;infer_instance
def way (p q:Pc):Int:=if p.f0<q.f0 then -1 else if p.f0 > q.f0 then 1 else if p.f1<q.f1 then -1 else if p.f1 > q.f1 then 1 else if p.f2<q.f2 then -1 else if p.f2 > q.f2 then 1 else 0
theorem way_lt (p q:Pc):way p q<0 ↔ lt3 p q:=by
 unfold way lt3
 repeat' split
 all_goals omega
theorem way_ge (p q:Pc):way p q ≥ 0 ↔ ¬ lt3 p q:=by
 rw [← way_lt p q]
 omega
theorem way_T (a b c d e f g h:Int):T (fun k=>impl_pieceWay.f k a b c d e f g h) (·=way ⟨a,b,c,d⟩ ⟨e,f,g,h⟩):=by
 simp only [impl_pieceWay.f,Option.bind_some]
 refine T.succ (T.succ (T.succ (T.succ ?_)))
 refine T.congr (T.ret (r:=way ⟨a,b,c,d⟩ ⟨e,f,g,h⟩) rfl) (fun k=>?_)
 simp only [impl_pieceWay.l0,way,rd_T155,List.length_cons,List.length_nil,wrap_one,wrap_two,wrap_three]
 simp
 repeat' split
 all_goals rfl
theorem before_f (a b c d e f g:Int) (x:Int):spec_l3Before.f a b c d e f g=some (decide (lt3 ⟨a,b,c,d⟩ ⟨e,f,g,x⟩)):=by
 unfold spec_l3Before.f lt3
 by_cases h1:a=e
 ·by_cases h2:b=f
  ·simp [h1,h2]
  ·simp [h1,h2]
 ·simp [h1]
/-! ### BlkOk -/
def good (p:Pc):Prop:=(1≤p.f0∧p.f0≤99999)∧(0≤p.f1∧p.f1≤99999)∧(1≤p.f2∧p.f2≤99999)∧(0≤p.f3∧p.f3≤99999)
def okFrom (l:List Pc) (i:Nat):Prop:=∀ j,i≤j→(h:j<l.length)→good l[j]∧(0<j→lt3 l[j - 1] l[j])
def BOk (l:List Pc):Prop:=l.length≤60∧okFrom l 0
theorem okFrom_end (l:List Pc) (i:Nat) (h:l.length≤i):okFrom l i:=fun j hj hl=>by omega
theorem okFrom_step (l:List Pc) (i:Nat) (h:i<l.length):okFrom l i ↔ (good l[i]∧(0<i→lt3 l[i - 1] l[i]))∧okFrom l (i+1):=by
 constructor
 ·intro h1
  exact ⟨h1 i (Nat.le_refl _) h,fun j hj hl=>h1 j (by omega) hl⟩
 ·rintro ⟨h1,h2⟩ j hj hl
  rcases Nat.eq_or_lt_of_le hj with rfl|hlt
  ·exact h1
  ·exact h2 j hlt hl
theorem impl_ok_loop (l:List Pc) (hl:l.length≤4611686018427387904):∀ (d i:Nat),l.length - i=d→i≤l.length →
  T (fun k=>impl_BlkOk.l0 k l l (l.length:Int) (i:Int)) (fun r=>r=true ↔ l.length≤60∧okFrom l i):=by
 intro d
 induction d with
 | zero =>
  intro i hd hi
  refine T.succ ?_
  simp only [impl_BlkOk.l0]
  refine T.neg (by omega) (T.ret ?_)
  simp only [decide_eq_true_eq]
  exact ⟨fun h=>⟨by omega,okFrom_end l i (by omega)⟩,fun h=>by omega⟩
 | succ d ih =>
  intro i hd hi
  have hlt:i<l.length:=by omega
  refine T.succ ?_
  simp only [impl_BlkOk.l0]
  refine T.pos (by omega) ?_
  refine T.succ ?_
  simp only [impl_BlkOk.j1]
  refine T.pos (by omega) (T.pos (by omega) ?_)
  simp only [rdP l i hlt,in_f,Option.bind_some,decide_eq_true_eq]
  have hs:=okFrom_step l i hlt
  have hno:¬ good l[i]→(false=true ↔ l.length≤60∧okFrom l i):=fun hn=>⟨ff,fun h=>absurd (hs.1 h.2).1.1 hn⟩
  have bad:¬ good l[i]→T (fun k=>impl_BlkOk.j2 k l l (l.length:Int) (i:Int) true) (fun r=>r=true ↔ l.length≤60∧okFrom l i):=fun hn=>by
   refine T.succ ?_
   simp only [impl_BlkOk.j2,if_true]
   exact T.ret (hno hn)
  refine T.ite (fun h0=>?_) (fun h0=>bad fun h=>h0 h.1)
  refine T.ite (fun h2=>?_) (fun h2=>bad fun h=>h2 h.2.2.1)
  refine T.ite (fun h1=>?_) (fun h1=>bad fun h=>h1 h.2.1)
  refine T.ite (fun h3=>?_) (fun h3=>bad fun h=>h3 h.2.2.2)
  have hg:good l[i]:=⟨h0,h1,h2,h3⟩
  have next:=ih (i+1) (by omega) (by omega)
  have nx:(0<i→lt3 l[i - 1] l[i])→T (fun k=>impl_BlkOk.j2 k l l (l.length:Int) (i:Int) false) (fun r=>r=true ↔ l.length≤60∧okFrom l i):=fun hq=>by
   refine T.succ ?_
   simp only [impl_BlkOk.j2,wrap_succ hlt hl]
   refine T.neg (by simp) ?_
   exact next.mono (fun r hr=>hr.trans ⟨fun h=>⟨h.1,hs.2 ⟨⟨hg,hq⟩,h.2⟩⟩,fun h=>⟨h.1,(hs.1 h.2).2⟩⟩)
  refine T.ite (fun hp=>?_) (fun hp=>nx (fun h=>by omega))
  have hi0:0<i:=by omega
  rw [wrap_pred hi0 hlt hl]
  refine T.pos (by omega) (T.pos (by omega) ?_)
  simp only [rdP l (i - 1) (by omega)]
  refine T.bind_eq (way_T _ _ _ _ _ _ _ _) ?_
  by_cases hw:way l[i - 1] l[i] ≥ 0
  ·rw [decide_eq_true hw]
   refine T.succ ?_
   simp only [impl_BlkOk.j2,if_true]
   exact T.ret ⟨ff,fun h=>absurd ((hs.1 h.2).1.2 hi0) ((way_ge l[i - 1] l[i]).1 hw)⟩
  ·rw [decide_eq_false hw]
   exact nx (fun _=>(way_lt l[i - 1] l[i]).1 (Int.not_le.1 hw))
theorem impl_ok (l:List Pc) (hl:l.length≤4611686018427387904):T (fun k=>impl_BlkOk.f k l) (fun r=>r=true ↔ BOk l):=impl_ok_loop l hl _ 0 rfl (Nat.zero_le _)
theorem spec_ok_loop (l:List Pc) (hl:l.length≤60):∀ (d i:Nat),l.length - i=d→i≤l.length →
  T (fun k=>spec_BlkOk.l0 k l (i:Int)) (fun r=>r=true ↔ okFrom l i):=by
 intro d
 induction d with
 | zero =>
  intro i hd hi
  refine T.succ ?_
  simp only [spec_BlkOk.l0]
  refine T.neg (by omega) (T.ret ?_)
  exact ⟨fun h=>okFrom_end l i (by omega),fun h=>rfl⟩
 | succ d ih =>
  intro i hd hi
  have hlt:i<l.length:=by omega
  have hs:=okFrom_step l i hlt
  have next:=ih (i+1) (by omega) (by omega)
  have bad:¬ good l[i]→∀ a b c d,T (fun k=>spec_BlkOk.j1 k l (i:Int) true a b c d) (fun r=>r=true ↔ okFrom l i):=fun hn a b c d=>by
   refine T.succ ?_
   simp only [spec_BlkOk.j1]
   exact T.pos trivial (T.ret ⟨ff,fun h=>absurd (hs.1 h).1.1 hn⟩)
  refine T.succ ?_
  simp only [spec_BlkOk.l0]
  refine T.pos (by omega) (T.pos (by omega) ?_)
  simp only [rdP l i hlt,l6In_f,Option.bind_some,decide_eq_true_eq]
  refine T.ite (fun h0=>?_) (fun h0=>bad (fun h=>h0 h.1) _ _ _ _)
  refine T.ite (fun h1=>?_) (fun h1=>bad (fun h=>h1 h.2.1) _ _ _ _)
  refine T.ite (fun h2=>?_) (fun h2=>bad (fun h=>h2 h.2.2.1) _ _ _ _)
  by_cases h3:0≤l[i].f3∧l[i].f3≤99999
  ·have hg:good l[i]:=⟨h0,h1,h2,h3⟩
   simp only [h3,decide_true,Bool.not_true,and_self]
   refine T.succ ?_
   simp only [spec_BlkOk.j1]
   refine T.neg (by simp) ?_
   rw [wrap_succ hlt (by omega)]
   refine T.ite (fun hp=>?_) (fun hp=>?_)
   ·have hi0:0<i:=by omega
    rw [wrap_pred hi0 hlt (by omega)]
    refine T.pos (by omega) (T.pos (by omega) ?_)
    simp only [rdP l (i - 1) (by omega),before_f _ _ _ _ _ _ _ l[i].f3,Option.bind_some,decide_eq_true_eq]
    refine T.ite (fun hw=>?_) (fun hw=>?_)
    ·exact next.mono (fun r hr=>hr.trans ⟨fun h=>hs.2 ⟨⟨hg,fun _=>hw⟩,h⟩,fun h=>(hs.1 h).2⟩)
    ·exact T.ret ⟨ff,fun h=>absurd ((hs.1 h).1.2 hi0) hw⟩
   ·exact next.mono (fun r hr=>hr.trans ⟨fun h=>hs.2 ⟨⟨hg,fun h=>by omega⟩,h⟩,fun h=>(hs.1 h).2⟩)
  ·have hd3:(!(decide (0≤l[i].f3∧l[i].f3≤99999)))=true:=by simp only [h3,decide_false,Bool.not_false]
   rw [hd3]
   exact bad (fun h=>h3 h.2.2.2) _ _ _ _
theorem spec_ok (l:List Pc):T (fun k=>spec_BlkOk.f k l) (fun r=>r=true ↔ BOk l):=by
 unfold spec_BlkOk.f
 refine T.ite (fun h=>T.ret ⟨ff,fun h=>by have:=h.1;omega⟩) (fun h=>?_)
 exact (spec_ok_loop l (by omega) _ 0 rfl (Nat.zero_le _)).mono (fun r hr=>hr.trans ⟨fun h1=>⟨by omega,h1⟩,fun h1=>h1.2⟩)
open Classical in
noncomputable def bok (l:List Pc):Bool:=decide (BOk l)
theorem bok_iff (l:List Pc):bok l=true ↔ BOk l:=by simp [bok]
theorem impl_ok_eq (l:List Pc) (hl:l.length≤4611686018427387904):T (fun k=>impl_BlkOk.f k l) (·=bok l):=(impl_ok l hl).mono (fun r hr=>Bool.eq_iff_iff.2 (hr.trans (bok_iff l).symm))
theorem spec_ok_eq (l:List Pc):T (fun k=>spec_BlkOk.f k l) (·=bok l):=(spec_ok l).mono (fun r hr=>Bool.eq_iff_iff.2 (hr.trans (bok_iff l).symm))
end Go.Proofs.YtoieojmfkkidnaaX
