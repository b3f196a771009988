/-
 What the functions on clients' last calls come to,in plain lists,for the program and the reference alike.
 Conditions: lists of at most 2^62 elements.
-/
import Derived.Test.YtoieojmfkkidnaaXIn
import Derived.Test.YtoieojmfkkidnaaPx9
import Derived.Test.YtoieojmfkkidnaaPx6
import Derived.Test.YtoieojmfkkidnaaPx12
namespace Go.Proofs.YtoieojmfkkidnaaX
open Go.RowKit Go.Proofs.Ytoieojmfkkidnaa.P Go.Proofs.YtoieojmfkkidnaaW.PrintWords Go.Proofs.YtoieojmfkkidnaaW.PrintLast Go.Proofs.YtoieojmfkkidnaaW.PrintMore
set_option linter.unusedVariables false
set_option linter.unusedSimpArgs false
abbrev La:=S140
theorem rdLa (l:List La) (i:Nat) (h:i<l.length):rd_T140 l (i:Int)=l[i]:=getD_nat l i h _
def goodL (p:La):Prop:=(0≤p.f0∧p.f0≤3)∧(1≤p.f1∧p.f1≤99999)
def lokFrom (l:List La) (i:Nat):Prop:=∀ j,i≤j→(h:j<l.length)→goodL l[j]∧(0<j→l[j - 1].f0<l[j].f0)
def LOk (l:List La):Prop:=l.length≤4∧lokFrom l 0
theorem lokFrom_end (l:List La) (i:Nat) (h:l.length≤i):lokFrom l i:=fun j hj hl=>by omega
theorem lokFrom_step (l:List La) (i:Nat) (h:i<l.length):lokFrom l i ↔ (goodL l[i]∧(0<i→l[i - 1].f0<l[i].f0))∧lokFrom l (i+1):=by
 constructor
 ·intro h1
  exact ⟨h1 i (Nat.le_refl _) h,fun j hj hl=>h1 j (by omega) hl⟩
 ·rintro ⟨h1,h2⟩ j hj hl
  rcases Nat.eq_or_lt_of_le hj with rfl|hlt
  ·exact h1
  ·exact h2 j hlt hl
theorem impl_lok_loop (l:List La) (hl:l.length≤4611686018427387904):∀ (d i:Nat),l.length - i=d→i≤l.length →
  T (fun k=>impl_lastOk.l0 k l l (l.length:Int) (i:Int)) (fun r=>r=true ↔ l.length≤4∧lokFrom l i):=by
 intro d
 induction d with
 | zero =>
  intro i hd hi
  refine T.succ ?_
  simp only [impl_lastOk.l0]
  refine T.neg (by omega) (T.ret ?_)
  simp only [decide_eq_true_eq]
  exact ⟨fun h=>⟨by omega,lokFrom_end l i (by omega)⟩,fun h=>by omega⟩
 | succ d ih =>
  intro i hd hi
  have hlt:i<l.length:=by omega
  refine T.succ ?_
  simp only [impl_lastOk.l0]
  refine T.pos (by omega) (T.pos (by omega) (T.pos (by omega) ?_))
  simp only [rdLa l i hlt,in_f,Option.bind_some,decide_eq_true_eq]
  have hs:=lokFrom_step l i hlt
  have hno:¬ goodL l[i]→(false=true ↔ l.length≤4∧lokFrom l i):=fun hn=>⟨ff,fun h=>absurd (hs.1 h.2).1.1 hn⟩
  refine T.ite (fun h0=>?_) (fun h0=>T.ret (hno fun h=>h0 h.1))
  refine T.ite (fun h1=>?_) (fun h1=>T.ret (hno fun h=>h1 h.2))
  have hg:goodL l[i]:=⟨h0,h1⟩
  have next:=ih (i+1) (by omega) (by omega)
  rw [wrap_succ hlt hl]
  refine T.ite (fun hp=>?_) (fun hp=>?_)
  ·have hi0:0<i:=by omega
   rw [wrap_pred hi0 hlt hl]
   refine T.pos (by omega) (T.pos (by omega) ?_)
   simp only [rdLa l (i - 1) (by omega)]
   refine T.ite (fun hw=>?_) (fun hw=>?_)
   ·exact T.ret ⟨ff,fun h=>by have:=(hs.1 h.2).1.2 hi0;omega⟩
   ·exact next.mono (fun r hr=>hr.trans ⟨fun h=>⟨h.1,hs.2 ⟨⟨hg,fun _=>by omega⟩,h.2⟩⟩,fun h=>⟨h.1,(hs.1 h.2).2⟩⟩)
  ·exact next.mono (fun r hr=>hr.trans ⟨fun h=>⟨h.1,hs.2 ⟨⟨hg,fun h=>by omega⟩,h.2⟩⟩,fun h=>⟨h.1,(hs.1 h.2).2⟩⟩)
theorem spec_lok_loop (l:List La) (hl:l.length≤4):∀ (d i:Nat),l.length - i=d→i≤l.length →
  T (fun k=>spec_l3LastOk.l0 k l (i:Int)) (fun r=>r=true ↔ lokFrom l i):=by
 intro d
 induction d with
 | zero =>
  intro i hd hi
  refine T.succ ?_
  simp only [spec_l3LastOk.l0]
  exact T.neg (by omega) (T.ret ⟨fun h=>lokFrom_end l i (by omega),fun _=>rfl⟩)
 | succ d ih =>
  intro i hd hi
  have hlt:i<l.length:=by omega
  refine T.succ ?_
  simp only [spec_l3LastOk.l0]
  refine T.pos (by omega) (T.pos (by omega) ?_)
  simp only [rdLa l i hlt,l6In_f,Option.bind_some,decide_eq_true_eq]
  have hs:=lokFrom_step l i hlt
  have hno:¬ goodL l[i]→(false=true ↔ lokFrom l i):=fun hn=>⟨ff,fun h=>absurd (hs.1 h).1.1 hn⟩
  refine T.ite (fun h0=>?_) (fun h0=>T.ret (hno fun h=>h0 h.1))
  refine T.ite (fun h1=>?_) (fun h1=>T.ret (hno fun h=>h1 h.2))
  have hg:goodL l[i]:=⟨h0,h1⟩
  have next:=ih (i+1) (by omega) (by omega)
  rw [wrap_succ hlt (by omega)]
  refine T.ite (fun hp=>?_) (fun hp=>?_)
  ·have hi0:0<i:=by omega
   rw [wrap_pred hi0 hlt (by omega)]
   refine T.pos (by omega) (T.pos (by omega) ?_)
   simp only [rdLa l (i - 1) (by omega)]
   refine T.ite (fun hw=>?_) (fun hw=>?_)
   ·exact T.ret ⟨ff,fun h=>by have:=(hs.1 h).1.2 hi0;omega⟩
   ·exact next.mono (fun r hr=>hr.trans ⟨fun h=>hs.2 ⟨⟨hg,fun _=>by omega⟩,h⟩,fun h=>(hs.1 h).2⟩)
  ·exact next.mono (fun r hr=>hr.trans ⟨fun h=>hs.2 ⟨⟨hg,fun h=>by omega⟩,h⟩,fun h=>(hs.1 h).2⟩)
open Classical in
noncomputable def lok (l:List La):Bool:=decide (LOk l)
theorem lok_iff (l:List La):lok l=true ↔ LOk l:=by simp [lok]
theorem impl_lok (l:List La) (hl:l.length≤4611686018427387904):T (fun k=>impl_lastOk.f k l) (·=lok l) :=
 (impl_lok_loop l hl _ 0 rfl (Nat.zero_le _)).mono (fun r hr=>Bool.eq_iff_iff.2 (hr.trans (lok_iff l).symm))
theorem spec_lok (l:List La):T (fun k=>spec_l3LastOk.f k l) (·=lok l):=by
 unfold spec_l3LastOk.f
 refine T.ite (fun h=>T.ret ?_) (fun h=>?_)
 ·refine Bool.eq_iff_iff.2 ⟨ff,fun h1=>?_⟩
  have:=((lok_iff l).1 h1).1
  omega
 ·exact (spec_lok_loop l (by omega) _ 0 rfl (Nat.zero_le _)).mono (fun r hr=>Bool.eq_iff_iff.2 (hr.trans ⟨fun h1=>(lok_iff l).2 ⟨by omega,h1⟩,fun h1=>((lok_iff l).1 h1).2⟩))
/-! ### What is ok, element by element -/
def Asc (l:List La):Prop:=l.Pairwise (fun x y=>x.f0<y.f0)∧∀ x ∈ l,goodL x
theorem LOk.asc {l:List La} (h:LOk l):Asc l:=by
 have key:∀ d i:Nat,(hi:i+d<l.length)→0<d→l[i].f0<l[i+d].f0:=by
  intro d
  induction d with
  | zero=>intro i hi h0;omega
  | succ d ih =>
   intro i hi _
   have h1:=(h.2 (i+d+1) (Nat.zero_le _) hi).2 (by omega)
   simp only [Nat.add_sub_cancel] at h1
   rcases Nat.eq_zero_or_pos d with rfl|hd
   ·simpa using h1
   ·exact Int.lt_trans (ih i (by omega) hd) h1
 refine ⟨List.pairwise_iff_getElem.2 (fun i j hi hj hij=>?_),fun x hx=>?_⟩
 ·have:=key (j - i) i (by omega) (by omega)
  simpa [show i+(j - i)=j by omega] using this
 ·obtain ⟨i,hi,rfl⟩:=List.getElem_of_mem hx
  exact (h.2 i (Nat.zero_le _) hi).1
/-! ### BlkCall -/
def callL (c:Int):List La→Int
 | []=>0
 | x :: r=>if x.f0=c then x.f1 else callL c r
noncomputable def callB (l:List La) (c:Int):Int:=if lok l=true then callL c l else 0
end Go.Proofs.YtoieojmfkkidnaaX
