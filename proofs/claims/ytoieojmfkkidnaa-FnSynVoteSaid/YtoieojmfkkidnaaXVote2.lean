/-
 What a voter's papers are behind a vote: in order,within bounds,none lost.
 Conditions: none.
-/
import Derived.Test.YtoieojmfkkidnaaXVote
namespace Go.Proofs.YtoieojmfkkidnaaX
open Go.RowKit Go.Proofs.Ytoieojmfkkidnaa.P Go.Proofs.YtoieojmfkkidnaaW.PrintWords Go.Proofs.YtoieojmfkkidnaaW.PrintLast Go.Proofs.YtoieojmfkkidnaaW.PrintMore
set_option linter.unusedVariables false
set_option linter.unusedSimpArgs false
theorem slots_iff (P:Int) (L:List Pp):slotsFrom P L 0 ↔ (∀ p ∈ L,paperB p=true∧p.f1≤P)∧L.Pairwise (fun a b=>a.f0<b.f0):=by
 constructor
 ·intro h
  have up:∀ (n a:Nat),a+n+1<L.length→(rd_T64 L (a:Int)).f0<(rd_T64 L ((a+n+1:Nat):Int)).f0:=by
   intro n
   induction n with
   | zero =>
    intro a ha
    have:=(h (a+1) (Nat.zero_le _) ha).2.2 (by omega)
    simpa using this
   | succ n ih =>
    intro a ha
    have h1:=ih a (by omega)
    have h2:=(h (a+(n+1)+1) (Nat.zero_le _) ha).2.2 (by omega)
    rw [show a+(n+1)+1 - 1=a+n+1 by omega] at h2
    omega
  refine ⟨fun p hp=>?_,List.pairwise_iff_getElem.2 (fun i j hi hj hij=>?_)⟩
  ·obtain ⟨a,ha,rfl⟩:=List.mem_iff_getElem.1 hp
   have:=h a (Nat.zero_le _) ha
   unfold slotOk at this
   rw [rdPp L a ha] at this
   exact ⟨this.1,this.2.1⟩
  ·have:=up (j - i - 1) i (by omega)
   rw [show i+(j - i - 1)+1=j by omega,rdPp L i hi,rdPp L j hj] at this
   exact this
 ·rintro ⟨h1,h2⟩ j _ hj
  unfold slotOk
  rw [rdPp L j hj]
  refine ⟨(h1 _ (List.getElem_mem hj)).1,(h1 _ (List.getElem_mem hj)).2,fun h0=>?_⟩
  rw [rdPp L (j - 1) (by omega)]
  exact List.pairwise_iff_getElem.1 h2 (j - 1) j (by omega) hj (by omega)
theorem put_true (p:Pp):∀ L:List Pp,putL p true L=L.filter (fun x=>decide (x.f0≠p.f0))
 | []=>rfl
 | x :: L=>by
  rw [putL,Bool.true_or,put_true p L,List.filter_cons]
  by_cases h:x.f0=p.f0
  ·simp [h]
  ·simp [h]
theorem mem_put {p x:Pp}:∀ L:List Pp,x ∈ putL p false L ↔ x=p ∨ (x ∈ L∧x.f0≠p.f0)
 | []=>by simp [putL]
 | y :: L=>by
  rw [putL,Bool.false_or]
  by_cases h:y.f0 ≥ p.f0
  ·rw [decide_eq_true h,put_true]
   by_cases h2:y.f0=p.f0
   ·rw [if_pos ⟨rfl,h⟩,if_pos h2,List.nil_append,List.singleton_append,List.mem_cons,List.mem_filter,decide_eq_true_eq,List.mem_cons]
    constructor
    ·rintro (h3|h3)
     ·exact .inl h3
     ·exact .inr ⟨.inr h3.1,h3.2⟩
    ·rintro (h3|⟨h3|h3,h4⟩)
     ·exact .inl h3
     ·rw [h3] at h4
      exact absurd h2 h4
     ·exact .inr ⟨h3,h4⟩
   ·rw [if_pos ⟨rfl,h⟩,if_neg h2,List.singleton_append,List.singleton_append,List.mem_cons,List.mem_cons,List.mem_filter,decide_eq_true_eq,List.mem_cons]
    constructor
    ·rintro (h3|h3|h3)
     ·exact .inl h3
     ·exact .inr ⟨.inl h3,by rw [h3];exact h2⟩
     ·exact .inr ⟨.inr h3.1,h3.2⟩
    ·rintro (h3|⟨h3|h3,h4⟩)
     ·exact .inl h3
     ·exact .inr (.inl h3)
     ·exact .inr (.inr ⟨h3,h4⟩)
  ·rw [decide_eq_false h,if_neg (fun h3=>h h3.2),if_neg (fun h3=>h (by omega)),List.nil_append,List.singleton_append,List.mem_cons,mem_put L,List.mem_cons]
   constructor
   ·rintro (h3|h3|h3)
    ·exact .inr ⟨.inl h3,by rw [h3];omega⟩
    ·exact .inl h3
    ·exact .inr ⟨.inr h3.1,h3.2⟩
   ·rintro (h3|⟨h3|h3,h4⟩)
    ·exact .inr (.inl h3)
    ·exact .inl h3
    ·exact .inr (.inr ⟨h3,h4⟩)
theorem put_asc {p:Pp}:∀ L:List Pp,L.Pairwise (fun a b=>a.f0<b.f0)→(putL p false L).Pairwise (fun a b=>a.f0<b.f0)
 | [],_=>by simp [putL]
 | y :: L,h=>by
  obtain ⟨hy,hL⟩:=List.pairwise_cons.1 h
  rw [putL,Bool.false_or]
  by_cases h1:y.f0 ≥ p.f0
  ·rw [decide_eq_true h1,put_true,if_pos ⟨rfl,h1⟩]
   have hf:(L.filter (fun x=>decide (x.f0≠p.f0))).Pairwise (fun a b=>a.f0<b.f0):=hL.filter _
   by_cases h2:y.f0=p.f0
   ·rw [if_pos h2,List.nil_append,List.singleton_append]
    refine List.pairwise_cons.2 ⟨fun x hx=>?_,hf⟩
    have:=hy x (List.mem_filter.1 hx).1
    omega
   ·rw [if_neg h2,List.singleton_append,List.singleton_append]
    refine List.pairwise_cons.2 ⟨fun x hx=>?_,List.pairwise_cons.2 ⟨fun x hx=>hy x (List.mem_filter.1 hx).1,hf⟩⟩
    obtain rfl|hx:=List.mem_cons.1 hx
    ·omega
    ·have:=hy x (List.mem_filter.1 hx).1
     omega
  ·rw [decide_eq_false h1,if_neg (fun h3=>h1 h3.2),if_neg (fun h3=>h1 (by omega)),List.nil_append,List.singleton_append]
   refine List.pairwise_cons.2 ⟨fun x hx=>?_,put_asc L hL⟩
   obtain rfl|hx:=(mem_put L).1 hx
   ·omega
   ·exact hy x hx.1
theorem put_more {p:Pp}:∀ L:List Pp,L.Pairwise (fun a b=>a.f0<b.f0)→L.length≤(putL p false L).length
 | [],_=>by simp
 | y :: L,h=>by
  obtain ⟨hy,hL⟩:=List.pairwise_cons.1 h
  rw [putL,Bool.false_or]
  by_cases h1:y.f0 ≥ p.f0
  ·have hf:L.filter (fun x=>decide (x.f0≠p.f0))=L:=List.filter_eq_self.2 (fun x hx=>decide_eq_true (by have:=hy x hx;omega))
   rw [decide_eq_true h1,put_true,if_pos ⟨rfl,h1⟩,hf]
   simp only [List.length_append,List.length_cons,List.length_nil]
   omega
  ·have:=put_more (p:=p) L hL
   rw [decide_eq_false h1,if_neg (fun h3=>h1 h3.2),if_neg (fun h3=>h1 (by omega))]
   simp only [List.length_append,List.length_cons,List.length_nil]
   omega
theorem asc_len:∀ (L:List Pp) (lo:Int),L.Pairwise (fun a b=>a.f0<b.f0)→(∀ p ∈ L,lo≤p.f0∧p.f0≤60)→L=[] ∨ (L.length:Int)≤61 - lo
 | [],_,_,_=>.inl rfl
 | x :: L,lo,h,hb=>by
  obtain ⟨hy,hL⟩:=List.pairwise_cons.1 h
  have hx:=hb x (List.mem_cons_self ..)
  have:=asc_len L (x.f0+1) hL (fun p hp=>⟨by have:=hy p hp;omega,(hb p (List.mem_cons_of_mem _ hp)).2⟩)
  right
  rw [List.length_cons]
  obtain rfl|this:=this
  ·simp only [List.length_nil]
   omega
  ·omega
theorem paperB_slot {p:Pp} (h:paperB p=true):1≤p.f0∧p.f0≤60:=by
 unfold paperB at h
 rw [Bool.and_eq_true,decide_eq_true_eq] at h
 exact h.1
theorem voter_of {P:Int} {L:List Pp} (hP:0≤P∧P≤99999) (h1:∀ p ∈ L,paperB p=true∧p.f1≤P) (h2:L.Pairwise (fun a b=>a.f0<b.f0)):voterB P L=true:=by
 refine (voterB_iff P L).2 ⟨(slots_iff P L).2 ⟨h1,h2⟩,hP,?_⟩
 obtain rfl|h:=asc_len L 1 h2 (fun p hp=>paperB_slot (h1 p hp).1)
 ·simp
 ·omega
/-- Promised more: the papers stay right. -/
theorem voter_prom {V a3:Int} {L:List Pp} (h:voterB V L=true) (h1:a3 > V) (h2:a3≤99999):voterB a3 L=true:=by
 obtain ⟨hs,hV,_⟩:=(voterB_iff V L).1 h
 obtain ⟨q1,q2⟩:=(slots_iff V L).1 hs
 exact voter_of (by omega) (fun p hp=>⟨(q1 p hp).1,by have:=(q1 p hp).2;omega⟩) q2
theorem voter_put {V:Int} {L:List Pp} {p:Pp} (h:voterB V L=true) (h1:p.f1 ≥ V) (h2:p.f1≤99999) (hp:paperB p=true):voterB p.f1 (putL p false L)=true:=by
 obtain ⟨hs,hV,_⟩:=(voterB_iff V L).1 h
 obtain ⟨q1,q2⟩:=(slots_iff V L).1 hs
 refine voter_of (by omega) (fun x hx=>?_) (put_asc L q2)
 obtain rfl|hx:=(mem_put L).1 hx
 ·exact ⟨hp,Int.le_refl _⟩
 ·exact ⟨(q1 x hx.1).1,by have:=(q1 x hx.1).2;omega⟩
end Go.Proofs.YtoieojmfkkidnaaX
