/-
 A slot's paper,found;papers of which each slot stands once.
 Conditions: lists of at most a million elements.
-/
import Derived.Test.YtoieojmfkkidnaaXVoter
import Derived.Test.YtoieojmfkkidnaaPx7
namespace Go.Proofs.YtoieojmfkkidnaaX
open Go.RowKit Go.Proofs.Ytoieojmfkkidnaa.P Go.Proofs.YtoieojmfkkidnaaW.PrintWords Go.Proofs.YtoieojmfkkidnaaW.PrintLast Go.Proofs.YtoieojmfkkidnaaW.PrintMore
set_option linter.unusedVariables false
set_option linter.unusedSimpArgs false
theorem rdPp (l:List Pp) (i:Nat) (h:i<l.length):rd_T64 l (i:Int)=l[i]:=getD_nat l i h _
theorem spec_find (L:List Pp) (s:Int) (hL:L.length≤1048576):∀ (d i:Nat),L.length - i=d→i≤L.length→(∀ j,j<i→(rd_T64 L (j:Int)).f0≠s) →
  T (fun k=>spec_l21Paper.l0 k L s (i:Int)) (fun r=>(r=-1∧∀ j:Nat,j<L.length→(rd_T64 L (j:Int)).f0≠s) ∨ ∃ a:Nat,r=(a:Int)∧a<L.length∧(rd_T64 L (a:Int)).f0=s):=by
 intro d
 induction d with
 | zero =>
  intro i hd hi hj
  refine T.succ ?_
  simp only [spec_l21Paper.l0]
  exact T.neg (by omega) (T.ret (.inl ⟨rfl,fun j h=>hj j (by omega)⟩))
 | succ d ih =>
  intro i hd hi hj
  have hlt:i<L.length:=by omega
  refine T.succ ?_
  simp only [spec_l21Paper.l0,wrap_succ hlt (show L.length≤4611686018427387904 by omega)]
  refine T.pos (by omega) (T.pos (by omega) ?_)
  refine T.ite (fun h=>T.ret (.inr ⟨i,rfl,hlt,h⟩)) (fun h=>?_)
  refine ih (i+1) (by omega) (by omega) (fun j hj2=>?_)
  by_cases e:j=i
  ·rw [e];exact h
  ·exact hj j (by omega)
/-- Each slot stands once. -/
def Uni (L:List Pp):Prop:=∀ p ∈ L,∀ q ∈ L,p.f0=q.f0→p=q
theorem uni_of {P:Int} {L:List Pp} (h:slotsFrom P L 0):Uni L:=by
 have up:∀ (n a:Nat),a+n+1<L.length→(rd_T64 L (a:Int)).f0<(rd_T64 L ((a+n+1:Nat):Int)).f0:=by
  intro n
  induction n with
  | zero =>
   intro a ha
   have:=(h (a+1) (Nat.zero_le _) ha).2.2 (by omega)
   simpa using this
  | succ n ih =>
   intro a ha
   have h1:=ih a (by omega)
   have h2:=(h (a+(n+1)+1) (Nat.zero_le _) ha).2.2 (by omega)
   rw [show a+(n+1)+1 - 1=a+n+1 by omega] at h2
   omega
 intro p hp q hq e
 obtain ⟨a,ha,rfl⟩:=List.mem_iff_getElem.1 hp
 obtain ⟨b,hb,rfl⟩:=List.mem_iff_getElem.1 hq
 rw [← rdPp L a ha,← rdPp L b hb] at e ⊢
 by_cases h1:a<b
 ·have:=up (b - a - 1) a (by omega)
  rw [show a+(b - a - 1)+1=b by omega] at this
  omega
 ·by_cases h2:b<a
  ·have:=up (a - b - 1) b (by omega)
   rw [show b+(a - b - 1)+1=a by omega] at this
   omega
  ·rw [show a=b by omega]
theorem find_uni {L:List Pp} {s:Int} {G:Pp→Bool} {x:Pp} (hu:Uni L) (hx:x ∈ L) (hs:x.f0=s):L.find? (fun p=>decide (p.f0=s) && G p)=if G x=true then some x else none:=by
 cases h:L.find? (fun p=>decide (p.f0=s) && G p) with
 | none =>
  have:=List.find?_eq_none.1 h x hx
  simp [hs] at this
  rw [if_neg (by simp [this])]
 | some y =>
  have h1:=List.find?_some h
  have h2:=List.mem_of_find?_eq_some h
  simp at h1
  have e:y=x:=hu y h2 x hx (by rw [h1.1,hs])
  rw [← e,if_pos h1.2]
theorem find_no {L:List Pp} {s:Int} {G:Pp→Bool} (h:∀ j:Nat,j<L.length→(rd_T64 L (j:Int)).f0≠s):L.find? (fun p=>decide (p.f0=s) && G p)=none:=by
 refine List.find?_eq_none.2 (fun p hp=>?_)
 obtain ⟨a,ha,rfl⟩:=List.mem_iff_getElem.1 hp
 have:=h a ha
 rw [rdPp L a ha] at this
 simp [this]
end Go.Proofs.YtoieojmfkkidnaaX
